import PyProof.Rows.All
import Wide.All
import OpenK.AllK
import Wide.FinOn
import HandS.ForMost
import HandS.Wide
import HandS.Gcd
import HandS.Walk
import HandS.Zip
import HandS.Flow
import HandS.Style
import HandS.IsInst
import HandS.Defaults
import HandS.TupAny
import HandS.TupMul
import HandS.Star
import KE.DataEq
import HandS.WideBits
import KE.GoesEnum
import KE.GoesMore
import HandS.SortInts
import HandS.Conv
import KE.KMathG
import Flt.RightSqrt
import PyProof.ReprRoads
import HandS.HeadEnd
import HandS.HeadHook4
import HandS.Head0
import HandS.Head1
import HandS.Head2
import HandS.Head3
import HandS.Iter
import HandS.TupSets
import HandS.More
import PySem.Challenge.RW_rootsonaline_k79_whole_minors_from_nough
set_option Elab.async false
set_option linter.all false
set_option maxRecDepth 100000
/-! DL: plain data over the hand layer. A frame's slots as data, predicate transformers over them. -/
namespace DL
open PySem PySem.Spec PyProof.Rows L2

abbrev D := PyData

/-- what a slot holds, or a value is: nothing known; data; a fresh list owned by this place alone; a list that is read now; the drawing source -/
inductive Sl where
  | no | im (d : D) | ow (ds : List D) | pk (ds : List D) | src

/-- the frame: the heap at its entry, the shared part of it, the source's two objects -/
structure Fm where
  H0 : Hp
  S0 : Hp
  sa : Option (Addr × Addr)

/-! ### data in a heap: every list and tuple tracked -/
mutual
inductive Dq (H : Hp) : V → D → Prop
  | non : Dq H .non .none
  | bl (b : Bool) : Dq H (.bl b) (.bool b)
  | int (i : Int) : Dq H (.int i) (.int i)
  | str (x : Str) : Dq H (.str x) (.str x)
  | lst {a : Addr} {xs : List V} {ds : List D} : H a = some (.lst xs) → DqAll H xs ds → Dq H (.ref a) (.list ds)
  | tup {a : Addr} {xs : List V} {ds : List D} : H a = some (.tup xs) → DqAll H xs ds → Dq H (.ref a) (.tuple ds)
inductive DqAll (H : Hp) : List V → List D → Prop
  | nil : DqAll H [] []
  | cons {v : V} {vs : List V} {d : D} {ds : List D} : Dq H v d → DqAll H vs ds → DqAll H (v :: vs) (d :: ds)
end
section
variable {K : PySem.W.Frag} {H H' S S' : Hp}
mutual
theorem dq_up (e : Same H H') : ∀ {d : D} {v : V}, Dq H v d → Dq H' v d
  | .none, _, h => by cases h; exact .non
  | .bool b, _, h => by cases h; exact .bl b
  | .int i, _, h => by cases h; exact .int i
  | .str x, _, h => by cases h; exact .str x
  | .list ds, _, h => by
    cases h with
    | lst h1 h2 => exact .lst (e _ _ h1) (dqa_up e h2)
  | .tuple ds, _, h => by
    cases h with
    | tup h1 h2 => exact .tup (e _ _ h1) (dqa_up e h2)
  | .dict _, _, h => by cases h
theorem dqa_up (e : Same H H') : ∀ {ds : List D} {vs : List V}, DqAll H vs ds → DqAll H' vs ds
  | [], _, h => by cases h; exact .nil
  | d :: ds, _, h => by
    cases h with
    | cons h1 h2 => exact .cons (dq_up e h1) (dqa_up e h2)
end
mutual
theorem dq_dp : ∀ {d : D} {v : V}, Dq H v d → Dp K H v d
  | .none, _, h => by cases h; exact .non
  | .bool b, _, h => by cases h; exact .bl b
  | .int i, _, h => by cases h; exact .int i
  | .str x, _, h => by cases h; exact .str x
  | .list ds, _, h => by
    cases h with
    | lst h1 h2 => exact .lst (.of h1) (dqa_dp h2)
  | .tuple ds, _, h => by
    cases h with
    | tup h1 h2 => exact .tup (.of h1) (dqa_dp h2)
  | .dict _, _, h => by cases h
theorem dqa_dp : ∀ {ds : List D} {vs : List V}, DqAll H vs ds → DpAll K H vs ds
  | [], _, h => by cases h; exact .nil
  | d :: ds, _, h => by
    cases h with
    | cons h1 h2 => exact .cons (dq_dp h1) (dqa_dp h2)
end
mutual
theorem dq_plain : ∀ {d : D} {v : V}, Dq H v d → d.plain = true
  | .none, _, _ => by simp only [PyData.plain]
  | .bool b, _, _ => by simp only [PyData.plain]
  | .int i, _, _ => by simp only [PyData.plain]
  | .str x, _, _ => by simp only [PyData.plain]
  | .list ds, _, h => by
    cases h with
    | lst h1 h2 => simp only [PyData.plain]; exact dqa_plain h2
  | .tuple ds, _, h => by
    cases h with
    | tup h1 h2 => simp only [PyData.plain]; exact dqa_plain h2
  | .dict _, _, h => by cases h
theorem dqa_plain : ∀ {ds : List D} {vs : List V}, DqAll H vs ds → PyData.plainAll ds = true
  | [], _, _ => by simp only [PyData.plainAll]
  | d :: ds, _, h => by
    cases h with
    | cons h1 h2 => simp only [PyData.plainAll, dq_plain h1, dqa_plain h2, Bool.and_self]
end
theorem dqa_len : ∀ {ds : List D} {vs : List V}, DqAll H vs ds → vs.length = ds.length
  | [], _, h => by cases h; rfl
  | d :: ds, _, h => by
    cases h with
    | cons h1 h2 => rw [List.length_cons, List.length_cons, dqa_len h2]
theorem dqa_at : ∀ {ds : List D} {vs : List V} {i : Nat} {v : V}, DqAll H vs ds → vs[i]? = some v → ∃ d, ds[i]? = some d ∧ Dq H v d
  | [], _, i, v, h, e => by cases h; simp at e
  | d :: ds, _, 0, v, h, e => by
    cases h with
    | cons h1 h2 =>
      simp at e
      subst e
      exact ⟨d, rfl, h1⟩
  | d :: ds, _, i + 1, v, h, e => by
    cases h with
    | cons h1 h2 => simpa using dqa_at h2 (by simpa using e)
theorem dqa_to : ∀ {ds : List D} {vs : List V} {i : Nat} {d : D}, DqAll H vs ds → ds[i]? = some d → ∃ v, vs[i]? = some v ∧ Dq H v d
  | [], _, i, v, h, e => by cases h; simp at e
  | d :: ds, _, 0, v, h, e => by
    cases h with
    | cons h1 h2 =>
      simp at e
      subst e
      exact ⟨_, rfl, h1⟩
  | d :: ds, _, i + 1, v, h, e => by
    cases h with
    | cons h1 h2 => simpa using dqa_to h2 (by simpa using e)
theorem dqa_app : ∀ {ds es : List D} {vs us : List V}, DqAll H vs ds → DqAll H us es → DqAll H (vs ++ us) (ds ++ es)
  | [], _, _, _, h, g => by cases h; exact g
  | d :: ds, _, _, _, h, g => by
    cases h with
    | cons h1 h2 => exact .cons h1 (dqa_app h2 g)
theorem dqa_take : ∀ {ds : List D} {vs : List V} (n : Nat), DqAll H vs ds → DqAll H (vs.take n) (ds.take n)
  | _, _, 0, _ => .nil
  | [], _, n + 1, h => by cases h; exact .nil
  | d :: ds, _, n + 1, h => by
    cases h with
    | cons h1 h2 => exact .cons h1 (dqa_take n h2)
theorem dqa_drop : ∀ {ds : List D} {vs : List V} (n : Nat), DqAll H vs ds → DqAll H (vs.drop n) (ds.drop n)
  | _, _, 0, h => h
  | [], _, n + 1, h => by cases h; exact .nil
  | d :: ds, _, n + 1, h => by
    cases h with
    | cons h1 h2 => exact dqa_drop n h2
theorem dqa_set : ∀ {ds : List D} {vs : List V} (i : Nat) {v : V} {d : D}, DqAll H vs ds → Dq H v d → DqAll H (vs.set i v) (ds.set i d)
  | [], _, i, v, d, h, _ => by cases h; exact .nil
  | e :: ds, _, 0, v, d, h, g => by
    cases h with
    | cons h1 h2 => exact .cons g h2
  | e :: ds, _, i + 1, v, d, h, g => by
    cases h with
    | cons h1 h2 => exact .cons h1 (dqa_set i h2 g)
theorem dqa_rev {ds : List D} {vs : List V} (h : DqAll H vs ds) : DqAll H vs.reverse ds.reverse := by
  induction ds generalizing vs with
  | nil => cases h; exact .nil
  | cons d ds ih =>
    cases h with
    | cons h1 h2 =>
      rw [List.reverse_cons, List.reverse_cons]
      exact dqa_app (ih h2) (.cons h1 .nil)
theorem dqa_erase : ∀ {ds : List D} {vs : List V} (i : Nat), DqAll H vs ds → DqAll H (vs.eraseIdx i) (ds.eraseIdx i)
  | [], _, i, h => by cases h; exact .nil
  | e :: ds, _, 0, h => by
    cases h with
    | cons h1 h2 => exact h2
  | e :: ds, _, i + 1, h => by
    cases h with
    | cons h1 h2 => exact .cons h1 (dqa_erase i h2)
theorem dqa_rep {ds : List D} {vs : List V} (h : DqAll H vs ds) : ∀ n : Nat, DqAll H (List.replicate n vs).flatten (List.replicate n ds).flatten
  | 0 => .nil
  | n + 1 => by
    rw [List.replicate_succ, List.replicate_succ, List.flatten_cons, List.flatten_cons]
    exact dqa_app h (dqa_rep h n)
theorem dqa_ints : ∀ {ns : List Int} {vs : List V}, DqAll H vs (ns.map PyData.int) → vs = ns.map V.int
  | [], _, h => by cases h; rfl
  | n :: ns, _, h => by
    cases h with
    | cons h1 h2 =>
      cases h1
      rw [dqa_ints h2]
      rfl
theorem dqa_of_ints : ∀ (ns : List Int), DqAll H (ns.map V.int) (ns.map PyData.int)
  | [] => .nil
  | n :: ns => .cons (.int n) (dqa_of_ints ns)
theorem dqa_bools : ∀ {ns : List Bool} {vs : List V}, DqAll H vs (ns.map PyData.bool) → vs = ns.map V.bl
  | [], _, h => by cases h; rfl
  | n :: ns, _, h => by
    cases h with
    | cons h1 h2 =>
      cases h1
      rw [dqa_bools h2]
      rfl
theorem dq_int {i : Int} {v : V} (h : Dq H v (.int i)) : v = .int i := by cases h; rfl
theorem dq_bool {i : Bool} {v : V} (h : Dq H v (.bool i)) : v = .bl i := by cases h; rfl
theorem dq_non {v : V} (h : Dq H v .none) : v = .non := by cases h; rfl
end

/-! ### the drawing source -/
abbrev kS (x : String) : Key := .inr (Str.ofString x)
def SrcOk (H : Hp) (p c : Addr) : Prop := p ≠ c ∧ ∃ (l m t : Int) (cs : List Int),
  H p = some (.dK [(kS "cells", .ref c), (kS "left", .int l), (kS "mixed", .int m), (kS "turn", .int t)]) ∧ H c = some (.lst (cs.map V.int)) ∧
  cs.length ≤ 1000 ∧ (∀ x ∈ cs, 0 ≤ x) ∧ 0 ≤ l ∧ 0 ≤ m ∧ m < 2 ^ 40 ∧ 0 ≤ t
def Fm.isS (F : Fm) (b : Addr) : Prop := ∃ p c, F.sa = some (p, c) ∧ (b = p ∨ b = c)
def Fm.srcOk (F : Fm) (H S : Hp) : Prop := ∀ p c, F.sa = some (p, c) → SrcOk H p c ∧ S p = none ∧ S c = none

/-- what holds of the heap while the frame runs: S is the shared part, read by data alone -/
structure Fr (F : Fm) (S H : Hp) : Prop where
  sub : Same S H
  up : Same F.S0 S
  out : ∀ b, F.H0 b ≠ none → F.S0 b = none → S b = none
  keep : ∀ b o, F.H0 b = some o → ¬ F.isS b → H b = some o
  src : F.srcOk H S
  srcH : ∀ b, F.isS b → F.H0 b ≠ none
theorem Fr.there {F : Fm} {S H : Hp} (f : Fr F S H) {b : Addr} (h : F.H0 b ≠ none) : H b ≠ none := by
  by_cases hb : F.isS b
  · obtain ⟨p, c, e, hb⟩ := hb
    obtain ⟨⟨_, l, m, t, cs, h1, h2, _⟩, _⟩ := f.src p c e
    rcases hb with rfl | rfl
    · rw [h1]; simp
    · rw [h2]; simp
  · cases e : F.H0 b with
    | none => exact absurd e h
    | some o => rw [f.keep b o e hb]; simp

/-- a slot -/
def SlR (F : Fm) (S H : Hp) (v : Option (Option V)) : Sl → Prop
  | .no => True
  | .im d => ∃ x, v = some (some x) ∧ Dq S x d
  | .ow ds => ∃ a xs, v = some (some (.ref a)) ∧ H a = some (.lst xs) ∧ S a = none ∧ F.H0 a = none ∧ DqAll S xs ds
  | .pk _ => False
  | .src => ∃ p c, F.sa = some (p, c) ∧ v = some (some (.ref p))
structure Rel (F : Fm) (ρ : List Sl) (S : Hp) (σ : L2.St) (H : Hp) : Prop where
  len : ρ.length = σ.length
  fr : Fr F S H
  slots : ∀ (i : Nat) (sl : Sl), ρ[i]? = some sl → SlR F S H σ[i]? sl
  apart : ∀ (i j : Nat) (ds es : List D), ρ[i]? = some (.ow ds) → ρ[j]? = some (.ow es) → σ[i]? = σ[j]? → i = j

/-- a value -/
def VX (F : Fm) (ρ : List Sl) (S : Hp) (σ : L2.St) (H : Hp) (v : V) : Sl → Prop
  | .no => False
  | .im d => Dq S v d
  | .ow ds => ∃ a xs, v = .ref a ∧ H a = some (.lst xs) ∧ S a = none ∧ F.H0 a = none ∧ DqAll S xs ds ∧ ∀ (i : Nat) (es : List D), ρ[i]? = some (Sl.ow es) → σ[i]? ≠ some (some (V.ref a))
  | .pk ds => ∃ a xs, v = .ref a ∧ H a = some (.lst xs) ∧ ¬ F.isS a ∧ DqAll S xs ds
  | .src => ∃ p c, F.sa = some (p, c) ∧ v = .ref p
/-- the heap grows but at the source -/
def GrH (F : Fm) (H H' : Hp) : Prop := ∀ b o, H b = some o → ¬ F.isS b → H' b = some o
theorem GrH.refl (F : Fm) (H : Hp) : GrH F H H := fun _ _ h _ => h
theorem GrH.trans {F : Fm} {H H1 H2 : Hp} (a : GrH F H H1) (b : GrH F H1 H2) : GrH F H H2 := fun c o h n => b c o (a c o h n) n
theorem GrH.of {F : Fm} {H H1 : Hp} (a : Same H H1) : GrH F H H1 := fun c o h _ => a c o h

/-! ### what is read of a value -/
/-- a value that is kept while others are reckoned: data or a list that is read -/
def Sl.calm : Sl → Sl
  | .ow ds => .pk ds
  | s => s
def Sl.lst? : Sl → Option (List D)
  | .im (.list ds) => some ds
  | .ow ds => some ds
  | .pk ds => some ds
  | _ => none
def Sl.tup? : Sl → Option (List D)
  | .im (.tuple ds) => some ds
  | _ => none
def Sl.dat? : Sl → Option D
  | .im d => some d
  | .ow ds => some (.list ds)
  | .pk ds => some (.list ds)
  | _ => none
section
variable {F : Fm} {ρ ρ' : List Sl} {S S' : Hp} {σ : L2.St} {H H' : Hp} {v : V} {sl : Sl}
theorem isS_of_src (f : Fr F S H) {a : Addr} (h : F.isS a) : S a = none := by
  obtain ⟨p, c, e, h⟩ := h
  obtain ⟨_, h1, h2⟩ := f.src p c e
  rcases h with rfl | rfl
  · exact h1
  · exact h2
/-- S is kept, so is H (but at the source): a value stands, as it is read -/
theorem VX.stay (r : Fr F S H) (h : VX F ρ S σ H v sl) (hs : Same S S') (hh : GrH F H H') : VX F ρ' S' σ H' v sl.calm := by
  cases sl with
  | no => exact h
  | im d => exact dq_up hs h
  | ow ds =>
    obtain ⟨a, xs, e, h1, h2, h3, h4, _⟩ := h
    have n : ¬ F.isS a := fun z => r.srcH a z h3
    exact ⟨a, xs, e, hh a _ h1 n, n, dqa_up hs h4⟩
  | pk ds =>
    obtain ⟨a, xs, e, h1, n, h4⟩ := h
    exact ⟨a, xs, e, hh a _ h1 n, n, dqa_up hs h4⟩
  | src => exact h
theorem VX.lst (f : Fr F S H) (h : VX F ρ S σ H v sl) {ds : List D} (e : sl.lst? = some ds) : ∃ a xs, v = .ref a ∧ H a = some (.lst xs) ∧ DqAll S xs ds := by
  cases sl with
  | no => cases e
  | im d =>
    cases d with
    | list es =>
      simp only [Sl.lst?, Option.some.injEq] at e
      subst e
      cases h with
      | lst h1 h2 => exact ⟨_, _, rfl, f.sub _ _ h1, h2⟩
    | _ => cases e
  | ow es =>
    simp only [Sl.lst?, Option.some.injEq] at e
    subst e
    obtain ⟨a, xs, e, h1, _, _, h4, _⟩ := h
    exact ⟨a, xs, e, h1, h4⟩
  | pk es =>
    simp only [Sl.lst?, Option.some.injEq] at e
    subst e
    obtain ⟨a, xs, e, h1, _, h4⟩ := h
    exact ⟨a, xs, e, h1, h4⟩
  | src => cases e
theorem VX.tup (f : Fr F S H) (h : VX F ρ S σ H v sl) {ds : List D} (e : sl.tup? = some ds) : ∃ a xs, v = .ref a ∧ H a = some (.tup xs) ∧ S a = some (.tup xs) ∧ DqAll S xs ds := by
  cases sl with
  | im d =>
    cases d with
    | tuple es =>
      simp only [Sl.tup?, Option.some.injEq] at e
      subst e
      cases h with
      | tup h1 h2 => exact ⟨_, _, rfl, f.sub _ _ h1, h1, h2⟩
    | _ => cases e
  | _ => cases e
theorem VX.dat (f : Fr F S H) (h : VX F ρ S σ H v sl) {d : D} (e : sl.dat? = some d) : Dq H v d := by
  cases sl with
  | no => cases e
  | im d => simp only [Sl.dat?, Option.some.injEq] at e; subst e; exact dq_up f.sub h
  | ow es =>
    simp only [Sl.dat?, Option.some.injEq] at e
    subst e
    obtain ⟨a, xs, rfl, h1, _, _, h4, _⟩ := h
    exact .lst h1 (dqa_up f.sub h4)
  | pk es =>
    simp only [Sl.dat?, Option.some.injEq] at e
    subst e
    obtain ⟨a, xs, rfl, h1, _, h4⟩ := h
    exact .lst h1 (dqa_up f.sub h4)
  | src => cases e
end
end DL

set_option Elab.async false
set_option linter.all false
set_option maxRecDepth 100000
namespace DL
open PySem PySem.Spec PyProof.Rows L2

/-- what the rules ask of the place where code runs -/
structure Okx (X : Cx) : Prop where
  calm : X.calm = true
  room : X.A.units + 190 < cLine
  gd : X.A.guards = some []

abbrev WE := List Sl → (Sl → List Sl → Prop) → Prop
abbrev WA := List Sl → (List Sl → List Sl → Prop) → Prop
abbrev WT := List Sl → (Bool → List Sl → Prop) → Prop

/-- the end of an expression: the wish Qd of data, the wish Q of the layer below -/
def Got (F : Fm) (S : Hp) (σ : L2.St) (H : Hp) (Q : VK) (sl : Sl) (ρ' : List Sl) : Prop :=
  ∀ S' H' v, Same S S' → GrH F H H' → Rel F ρ' S' σ H' → VX F ρ' S' σ H' v sl → Q v H'
def GotA (F : Fm) (S : Hp) (σ : L2.St) (H : Hp) (Q : List V → Hp → Prop) (sls : List Sl) (ρ' : List Sl) : Prop :=
  ∀ S' H' vs, Same S S' → GrH F H H' → Rel F ρ' S' σ H' → Paired (VX F ρ' S' σ H') vs sls → Q vs H'
def GotT (F : Fm) (S : Hp) (σ : L2.St) (H : Hp) (Q : Bool → Hp → Prop) (b : Bool) (ρ' : List Sl) : Prop :=
  ∀ S' H', Same S S' → GrH F H H' → Rel F ρ' S' σ H' → Q b H'
def lE (F : Fm) (w : WE) : TE := fun σ H Q => ∃ ρ S, Rel F ρ S σ H ∧ w ρ (Got F S σ H Q)
def lA (F : Fm) (w : WA) : TA := fun σ H Q => ∃ ρ S, Rel F ρ S σ H ∧ w ρ (GotA F S σ H Q)
def lT (F : Fm) (w : WT) : TT := fun σ H Q => ∃ ρ S, Rel F ρ S σ H ∧ w ρ (GotT F S σ H Q)
def Mono3 {α : Type} (w : List Sl → (α → List Sl → Prop) → Prop) : Prop := ∀ ρ Q Q', (∀ a ρ', Q a ρ' → Q' a ρ') → w ρ Q → w ρ Q'

/-- an expression's reading by data; an argument list's; a test's -/
structure PD (X : Cx) (F : Fm) (e : Expr) (w : WE) : Prop where
  run : PE X e (lE F w)
  mono : Mono3 w
structure PDA (X : Cx) (F : Fm) (es : List Expr) (w : WA) : Prop where
  run : PA X es (lA F w)
  mono : Mono3 w
structure PDT (X : Cx) (F : Fm) (e : Expr) (w : WT) : Prop where
  run : PT X e (lT F w)
  mono : Mono3 w
structure PDW (X : Cx) (F : Fm) (e : Expr) (w : WT) : Prop where
  run : PW X e (lT F w)
  mono : Mono3 w

theorem pe_imp {X : Cx} {e : Expr} {t t' : TE} (h : PE X e t) (i : ∀ σ H Q, t' σ H Q → t σ H Q) : PE X e t' := ⟨fun pins s σ H Q I q => h.run pins s σ H Q I (i σ H Q q)⟩
theorem pa_imp {X : Cx} {e : List Expr} {t t' : TA} (h : PA X e t) (i : ∀ σ H Q, t' σ H Q → t σ H Q) : PA X e t' := ⟨fun pos pins s σ H Q I q => h.run pos pins s σ H Q I (i σ H Q q)⟩
theorem pt_imp {X : Cx} {e : Expr} {t t' : TT} (h : PT X e t) (i : ∀ σ H Q, t' σ H Q → t σ H Q) : PT X e t' := ⟨fun pins s σ H Q I q => h.run pins s σ H Q I (i σ H Q q)⟩
theorem pw_imp {X : Cx} {e : Expr} {t t' : TT} (h : PW X e t) (i : ∀ σ H Q, t' σ H Q → t σ H Q) : PW X e t' := ⟨fun wh pins s σ H Q I q => h.run wh pins s σ H Q I (i σ H Q q)⟩

section
variable {F : Fm} {ρ ρ' : List Sl} {S S' : Hp} {σ : L2.St} {H H' : Hp}
theorem le_mk {w : WE} {Q : VK} {Qd : Sl → List Sl → Prop} (m : Mono3 w) (r : Rel F ρ S σ H) (h : w ρ Qd) (hq : ∀ sl ρ', Qd sl ρ' → Got F S σ H Q sl ρ') : lE F w σ H Q := ⟨ρ, S, r, m _ _ _ hq h⟩
theorem la_mk {w : WA} {Q : List V → Hp → Prop} {Qd : List Sl → List Sl → Prop} (m : Mono3 w) (r : Rel F ρ S σ H) (h : w ρ Qd) (hq : ∀ sl ρ', Qd sl ρ' → GotA F S σ H Q sl ρ') : lA F w σ H Q := ⟨ρ, S, r, m _ _ _ hq h⟩
theorem lt_mk {w : WT} {Q : Bool → Hp → Prop} {Qd : Bool → List Sl → Prop} (m : Mono3 w) (r : Rel F ρ S σ H) (h : w ρ Qd) (hq : ∀ sl ρ', Qd sl ρ' → GotT F S σ H Q sl ρ') : lT F w σ H Q := ⟨ρ, S, r, m _ _ _ hq h⟩

theorem Got.up {Q : VK} {sl : Sl} {S0 H0 : Hp} (g : Got F S0 σ H0 Q sl ρ') (hs : Same S0 S) (hh : GrH F H0 H) : Got F S σ H Q sl ρ' :=
  fun S' H' v a b c d => g S' H' v (hs.trans a) (hh.trans b) c d
theorem Got.now {Q : VK} {sl : Sl} {v : V} (g : Got F S σ H Q sl ρ) (r : Rel F ρ S σ H) (x : VX F ρ S σ H v sl) : Q v H := g S H v (Same.refl _) (GrH.refl _ _) r x

/-- the heap moves on: S grows by what was not in H, H by anything, but at the source -/
theorem Rel.step (r : Rel F ρ S σ H) (hS : Same S S') (hH : GrH F H H') (sub : Same S' H') (hn : ∀ b, H b ≠ none → S b = none → S' b = none) (hsrc : F.srcOk H' S') : Rel F ρ S' σ H' := by
  refine ⟨r.len, ⟨sub, r.fr.up.trans hS, fun b h0 h1 => hn b (r.fr.there h0) (r.fr.out b h0 h1), fun b o e n => hH b o (r.fr.keep b o e n) n, hsrc, r.fr.srcH⟩, fun i sl e => ?_, r.apart⟩
  have q := r.slots i sl e
  cases sl with
  | no => trivial
  | im d =>
    obtain ⟨x, e1, e2⟩ := q
    exact ⟨x, e1, dq_up hS e2⟩
  | ow ds =>
    obtain ⟨a, xs, e1, e2, e3, e4, e5⟩ := q
    exact ⟨a, xs, e1, hH a _ e2 (fun z => r.fr.srcH a z e4), hn a (by rw [e2]; simp) e3, e4, dqa_up hS e5⟩
  | pk _ => exact q
  | src => exact q
theorem Rel.srcUp (r : Rel F ρ S σ H) (hH : Same H H') (hn : ∀ b, H b ≠ none → S b = none → S' b = none) : F.srcOk H' S' := fun p c e => by
  obtain ⟨⟨h0, l, m, t, cs, h1, h2, h3⟩, n1, n2⟩ := r.fr.src p c e
  exact ⟨⟨h0, l, m, t, cs, hH _ _ h1, hH _ _ h2, h3⟩, hn p (by rw [h1]; simp) n1, hn c (by rw [h2]; simp) n2⟩
theorem Rel.grow (r : Rel F ρ S σ H) (hS : Same S S') (hH : Same H H') (sub : Same S' H') (hn : ∀ b, H b ≠ none → S b = none → S' b = none) : Rel F ρ S' σ H' :=
  r.step hS (.of hH) sub hn (r.srcUp hH hn)
theorem same_new {p : Addr} {o : HO} (h : H p = none) : Same H (upd H p o) := fun b x e => by rw [upd_ne (ne_of_none e h)]; exact e
theorem free_S (r : Fr F S H) {p : Addr} (h : H p = none) : S p = none := r.sub.free h
theorem free_0 (r : Fr F S H) {p : Addr} (h : H p = none) : F.H0 p = none := by
  cases e : F.H0 p with
  | none => rfl
  | some o => exact absurd h (r.there (by rw [e]; simp))
/-- a new object, not shared -/
theorem Rel.newH (r : Rel F ρ S σ H) {p : Addr} {o : HO} (h : H p = none) : Rel F ρ S σ (upd H p o) :=
  r.grow (Same.refl _) (same_new h) (r.fr.sub.trans (same_new h)) fun _ _ e => e
/-- a new object, shared -/
theorem Rel.newS (r : Rel F ρ S σ H) {p : Addr} {o : HO} (h : H p = none) : Rel F ρ (upd S p o) σ (upd H p o) := by
  refine r.grow (same_new (free_S r.fr h)) (same_new h) (fun b x e => ?_) fun b hb e => ?_
  · by_cases z : b = p
    · subst z; rw [upd_same] at e ⊢; exact e
    · rw [upd_ne z] at e ⊢; exact r.fr.sub b x e
  · have z : b ≠ p := fun z => by subst z; exact hb h
    rw [upd_ne z]; exact e
theorem Got.tup {Q : VK} {zs : List V} {ds : List D} (g : Got F S σ H Q (.im (.tuple ds)) ρ) (r : Rel F ρ S σ H) (h : DqAll S zs ds) {p : Addr} (hp : H p = none) : Q (.ref p) (upd H p (.tup zs)) :=
  g _ _ _ (same_new (free_S r.fr hp)) (.of (same_new hp)) (r.newS hp) (Dq.tup upd_same (dqa_up (same_new (free_S r.fr hp)) h))
theorem Got.lst {Q : VK} {zs : List V} {ds : List D} (g : Got F S σ H Q (.ow ds) ρ) (r : Rel F ρ S σ H) (h : DqAll S zs ds) {p : Addr} (hp : H p = none) : Q (.ref p) (upd H p (.lst zs)) := by
  refine g _ _ _ (Same.refl _) (.of (same_new hp)) (r.newH hp) ⟨p, zs, rfl, upd_same, free_S r.fr hp, free_0 r.fr hp, h, fun i es e z => ?_⟩
  obtain ⟨a, xs, e1, e2, _⟩ := r.slots i _ e
  rw [z] at e1
  cases e1
  rw [hp] at e2; cases e2

/-- an owned list becomes shared -/
theorem Rel.freeze (r : Rel F ρ S σ H) {i : Nat} {ds : List D} (e : ρ[i]? = some (.ow ds)) :
    ∃ S' x, Same S S' ∧ Rel F (ρ.set i (.im (.list ds))) S' σ H ∧ σ[i]? = some (some x) ∧ Dq S' x (.list ds) := by
  obtain ⟨a, xs, e1, e2, e3, e4, e5⟩ := r.slots i _ e
  have up : Same S (upd S a (.lst xs)) := same_new e3
  have hi : i < ρ.length := (List.getElem?_eq_some_iff.mp e).1
  refine ⟨upd S a (.lst xs), _, up, ⟨by rw [List.length_set]; exact r.len, ⟨fun b o q => ?_, r.fr.up.trans up, fun b h0 h1 => ?_, r.fr.keep, fun p c q => ?_, r.fr.srcH⟩, fun j sl q => ?_, fun j k es fs q1 q2 q => ?_⟩, e1, .lst upd_same (dqa_up up e5)⟩
  · by_cases z : b = a
    · subst z; rw [upd_same] at q; rw [e2]; exact q
    · rw [upd_ne z] at q; exact r.fr.sub b o q
  · have z : b ≠ a := fun z => by subst z; exact h0 e4
    rw [upd_ne z]; exact r.fr.out b h0 h1
  · obtain ⟨h1, h2, h3⟩ := r.fr.src p c q
    have z1 : p ≠ a := fun z => r.fr.srcH p ⟨p, c, q, .inl rfl⟩ (by rw [z]; exact e4)
    have z2 : c ≠ a := fun z => r.fr.srcH c ⟨p, c, q, .inr rfl⟩ (by rw [z]; exact e4)
    exact ⟨h1, by rw [upd_ne z1]; exact h2, by rw [upd_ne z2]; exact h3⟩
  · by_cases hj : i = j
    · subst hj
      rw [List.getElem?_set_self hi] at q
      cases q
      exact ⟨_, e1, .lst upd_same (dqa_up up e5)⟩
    · rw [List.getElem?_set_ne hj] at q
      have w := r.slots j sl q
      cases sl with
      | no => trivial
      | im d =>
        obtain ⟨x, w1, w2⟩ := w
        exact ⟨x, w1, dq_up up w2⟩
      | ow es =>
        obtain ⟨a', xs', w1, w2, w3, w4, w5⟩ := w
        have z : a' ≠ a := fun z => by
          subst z
          exact hj (r.apart i j _ _ e q (e1.trans w1.symm))
        exact ⟨a', xs', w1, w2, by rw [upd_ne z]; exact w3, w4, dqa_up up w5⟩
      | pk _ => exact w
      | src => exact w
  · have n1 : j ≠ i := fun z => by subst z; rw [List.getElem?_set_self hi] at q1; cases q1
    have n2 : k ≠ i := fun z => by subst z; rw [List.getElem?_set_self hi] at q2; cases q2
    rw [List.getElem?_set_ne (Ne.symm n1)] at q1
    rw [List.getElem?_set_ne (Ne.symm n2)] at q2
    exact r.apart j k _ _ q1 q2 q
/-- a value becomes data, shared -/
theorem VX.share (r : Rel F ρ S σ H) {v : V} {sl : Sl} (h : VX F ρ S σ H v sl) (hp : ∀ ds, sl ≠ .pk ds) {d : D} (e : sl.dat? = some d) : ∃ S', Same S S' ∧ Rel F ρ S' σ H ∧ Dq S' v d := by
  cases sl with
  | no => cases e
  | im d' => simp only [Sl.dat?, Option.some.injEq] at e; subst e; exact ⟨S, Same.refl _, r, h⟩
  | pk ds => exact absurd rfl (hp ds)
  | src => cases e
  | ow ds =>
    simp only [Sl.dat?, Option.some.injEq] at e
    subst e
    obtain ⟨a, xs, rfl, e2, e3, e4, e5, e6⟩ := h
    have up : Same S (upd S a (.lst xs)) := same_new e3
    refine ⟨upd S a (.lst xs), up, ⟨r.len, ⟨fun b o q => ?_, r.fr.up.trans up, fun b h0 h1 => ?_, r.fr.keep, fun p c q => ?_, r.fr.srcH⟩, fun j sl q => ?_, r.apart⟩, .lst upd_same (dqa_up up e5)⟩
    · by_cases z : b = a
      · subst z; rw [upd_same] at q; rw [e2]; exact q
      · rw [upd_ne z] at q; exact r.fr.sub b o q
    · have z : b ≠ a := fun z => by subst z; exact h0 e4
      rw [upd_ne z]; exact r.fr.out b h0 h1
    · obtain ⟨h1, h2, h3⟩ := r.fr.src p c q
      have z1 : p ≠ a := fun z => r.fr.srcH p ⟨p, c, q, .inl rfl⟩ (by rw [z]; exact e4)
      have z2 : c ≠ a := fun z => r.fr.srcH c ⟨p, c, q, .inr rfl⟩ (by rw [z]; exact e4)
      exact ⟨h1, by rw [upd_ne z1]; exact h2, by rw [upd_ne z2]; exact h3⟩
    · have w := r.slots j sl q
      cases sl with
      | no => trivial
      | im d =>
        obtain ⟨x, w1, w2⟩ := w
        exact ⟨x, w1, dq_up up w2⟩
      | ow es =>
        obtain ⟨a', xs', w1, w2, w3, w4, w5⟩ := w
        have z : a' ≠ a := fun z => by subst z; exact e6 j es q w1
        exact ⟨a', xs', w1, w2, by rw [upd_ne z]; exact w3, w4, dqa_up up w5⟩
      | pk _ => exact w
      | src => exact w
end

/-! ### names, constants -/
def wC (d : D) : WE := fun ρ Q => Q (.im d) ρ
/-- the name in slot i as a value: an owned list is shared from then on -/
def wV (i : Nat) : WE := fun ρ Q => match ρ[i]? with
  | some (.im d) => Q (.im d) ρ
  | some (.ow ds) => Q (.im (.list ds)) (ρ.set i (.im (.list ds)))
  | some .src => Q .src ρ
  | _ => False
/-- the name in slot i, read at once -/
def wP (i : Nat) : WE := fun ρ Q => match ρ[i]? with
  | some (.im d) => Q (.im d) ρ
  | some (.ow ds) => Q (.pk ds) ρ
  | some .src => Q .src ρ
  | _ => False
section
variable {X : Cx} {F : Fm} {i : Nat} {pos : Pos}
theorem d_int {n : Int} {j} : PD X F (.Constant (.int n) j pos) (wC (.int n)) :=
  ⟨pe_imp pe_int fun σ H Q ⟨ρ, S, r, h⟩ => h.now r (.int n), fun _ _ _ h q => h _ _ q⟩
theorem d_bl {b : Bool} {j} : PD X F (.Constant (.bool b) j pos) (wC (.bool b)) :=
  ⟨pe_imp pe_bl fun σ H Q ⟨ρ, S, r, h⟩ => h.now r (.bl b), fun _ _ _ h q => h _ _ q⟩
theorem d_non {j} : PD X F (.Constant .none j pos) (wC .none) :=
  ⟨pe_imp pe_non fun σ H Q ⟨ρ, S, r, h⟩ => h.now r .non, fun _ _ _ h q => h _ _ q⟩
theorem d_str {x : Str} {j} : PD X F (.Constant (.str x) j pos) (wC (.str x)) :=
  ⟨pe_imp pe_str fun σ H Q ⟨ρ, S, r, h⟩ => h.now r (.str x), fun _ _ _ h q => h _ _ q⟩
theorem d_v {x : Str} (h : PE X (.Name x pos) (tVar i)) : PD X F (.Name x pos) (wV i) := by
  refine ⟨pe_imp h fun σ H Q ⟨ρ, S, r, h⟩ => ?_, fun ρ Q Q' h q => ?_⟩
  · unfold wV at h
    split at h
    · rename_i d e
      obtain ⟨x, e1, e2⟩ := r.slots i _ e
      exact ⟨x, e1, h.now r e2⟩
    · rename_i ds e
      obtain ⟨S', x, up, r', e1, e2⟩ := r.freeze e
      exact ⟨x, e1, h S' H x up (.refl _ _) r' e2⟩
    · rename_i e
      obtain ⟨p, c, e1, e2⟩ := r.slots i _ e
      exact ⟨_, e2, h.now r ⟨p, c, e1, rfl⟩⟩
    · exact h.elim
  · unfold wV at q ⊢
    split
    · rename_i e; rw [e] at q; exact h _ _ q
    · rename_i e; rw [e] at q; exact h _ _ q
    · rename_i e; rw [e] at q; exact h _ _ q
    · split at q <;> simp_all
theorem d_p {x : Str} (h : PE X (.Name x pos) (tVar i)) : PD X F (.Name x pos) (wP i) := by
  refine ⟨pe_imp h fun σ H Q ⟨ρ, S, r, h⟩ => ?_, fun ρ Q Q' h q => ?_⟩
  · unfold wP at h
    split at h
    · rename_i d e
      obtain ⟨x, e1, e2⟩ := r.slots i _ e
      exact ⟨x, e1, h.now r e2⟩
    · rename_i ds e
      obtain ⟨a, xs, e1, e2, e3, e4, e5⟩ := r.slots i _ e
      exact ⟨_, e1, h.now r ⟨a, xs, rfl, e2, fun z => r.fr.srcH a z e4, e5⟩⟩
    · rename_i e
      obtain ⟨p, c, e1, e2⟩ := r.slots i _ e
      exact ⟨_, e2, h.now r ⟨p, c, e1, rfl⟩⟩
    · exact h.elim
  · unfold wP at q ⊢
    split
    · rename_i e; rw [e] at q; exact h _ _ q
    · rename_i e; rw [e] at q; exact h _ _ q
    · rename_i e; rw [e] at q; exact h _ _ q
    · split at q <;> simp_all
end

/-! ### one and two values to one -/
abbrev G1 := Sl → (Sl → Prop) → Prop
abbrev G2 := Sl → Sl → (Sl → Prop) → Prop
def got {α : Type} (o : Option α) (K : α → Prop) : Prop := match o with
  | some a => K a
  | none => False
@[simp] theorem got_some {α : Type} (a : α) (K : α → Prop) : got (some a) K = K a := rfl
@[simp] theorem got_none {α : Type} (K : α → Prop) : got none K = False := rfl
theorem got_mono {α : Type} {o : Option α} {K K' : α → Prop} (h : ∀ a, K a → K' a) (g : got o K) : got o K' := by
  cases o with
  | none => exact g
  | some a => exact h a g
theorem got_ex {α : Type} {o : Option α} {K : α → Prop} (g : got o K) : ∃ a, o = some a ∧ K a := by
  cases o with
  | none => exact g.elim
  | some a => exact ⟨a, rfl, g⟩
def Sl.int? : Sl → Option Int
  | .im (.int i) => some i
  | _ => none
def Sl.bool? : Sl → Option Bool
  | .im (.bool i) => some i
  | _ => none
def Mono1 (g : G1) : Prop := ∀ x K K', (∀ z, K z → K' z) → g x K → g x K'
def Mono2 (g : G2) : Prop := ∀ x y K K', (∀ z, K z → K' z) → g x y K → g x y K'

/-- a rule on one value; two values; a list of them: from a layer's relation -/
def Res (F : Fm) (ρ : List Sl) (S : Hp) (σ : L2.St) (H : Hp) (Q : VK) (K : Sl → Prop) : Prop := ∀ z, K z → Got F S σ H Q z ρ
def On1 (F : Fm) (r : V → Hp → VK → Prop) (g : G1) : Prop := ∀ ρ S σ H x v K Q, Rel F ρ S σ H → VX F ρ S σ H v x → g x K → Res F ρ S σ H Q K → r v H Q
def On2 (F : Fm) (r : R2) (g : G2) : Prop := ∀ ρ S σ H x y v u K Q, Rel F ρ S σ H → VX F ρ S σ H v x → VX F ρ S σ H u y → g x y K → Res F ρ S σ H Q K → r v u H Q

def w1 (g : G1) (wa : WE) : WE := fun ρ Q => wa ρ fun x ρ1 => g x fun z => Q z ρ1
def w2 (g : G2) (wa wb : WE) : WE := fun ρ Q => wa ρ fun x ρ1 => wb ρ1 fun y ρ2 => g x.calm y fun z => Q z ρ2
section
variable {X : Cx} {F : Fm} {a b : Expr} {wa wb : WE} {g1 : G1} {g2 : G2} {pos : Pos}
theorem mono_w1 (ma : Mono3 wa) (mg : Mono1 g1) : Mono3 (w1 g1 wa) := fun ρ Q Q' h q => ma _ _ _ (fun x ρ1 k => mg _ _ _ (fun z kz => h z ρ1 kz) k) q
theorem mono_w2 (ma : Mono3 wa) (mb : Mono3 wb) (mg : Mono2 g2) : Mono3 (w2 g2 wa wb) := fun ρ Q Q' h q => ma _ _ _ (fun x ρ1 k => mb _ _ _ (fun y ρ2 k2 => mg _ _ _ _ (fun z kz => h z ρ2 kz) k2) k) q
end
end DL

set_option Elab.async false
set_option linter.all false
set_option maxRecDepth 100000
namespace DL
open PySem PySem.Spec PyProof.Rows L2

section
variable {X : Cx} {F : Fm} {a b c e : Expr} {wa wb wc : WE} {pos : Pos}

/-! ### two values -/
theorem two_run {r : R2} {g : G2} {ta : Expr} (hg : On2 F r g) (ma : Mono3 wa) (mb : Mono3 wb) : ∀ σ H Q, lE F (w2 g wa wb) σ H Q → tOp r (lE F wa) (lE F wb) σ H Q := fun σ H Q ⟨ρ, S, rl, h⟩ => by
  refine le_mk ma rl h fun x ρ1 hx S1 H1 v u1 g1 r1 vx => ?_
  refine le_mk mb r1 hx fun y ρ2 hy S2 H2 u u2 g2 r2 vy => ?_
  exact hg ρ2 S2 σ H2 x.calm y v u _ Q r2 (vx.stay r1.fr u2 g2) vy hy fun z hz => hz.up (u1.trans u2) (g1.trans g2)
theorem d_op {op : Operator} {r : R2} {g : G2} (ho : OpR X (binaryOp op) r) (hg : On2 F r g) (mg : Mono2 g) (ha : PD X F a wa) (hb : PD X F b wb) : PD X F (.BinOp a op b pos) (w2 g wa wb) :=
  ⟨pe_imp (pe_op ho ha.run hb.run) (two_run (ta := a) hg ha.mono hb.mono), mono_w2 ha.mono hb.mono mg⟩
theorem d_cmp {op : CmpOp} {r : R2} {g : G2} (ho : OpR X (compareOp op) r) (hg : On2 F r g) (mg : Mono2 g) (ha : PD X F a wa) (hb : PD X F b wb) (hm : behindInMarks op b = false) : PD X F (.Compare a [op] [b] pos) (w2 g wa wb) :=
  ⟨pe_imp (pe_cmpR ho ha.run hb.run hm) (two_run (ta := a) hg ha.mono hb.mono), mono_w2 ha.mono hb.mono mg⟩
/-- a test from a value that is a truth value -/
def wB (w : WE) : WT := fun ρ Q => w ρ fun x ρ1 => got x.bool? fun b => Q b ρ1
theorem mono_wB {w : WE} (m : Mono3 w) : Mono3 (wB w) := fun ρ Q Q' h q => m _ _ _ (fun x ρ1 k => got_mono (fun b kb => h b ρ1 kb) k) q
theorem bool_of {ρ : List Sl} {S : Hp} {σ : L2.St} {H : Hp} {v : V} {sl : Sl} {k : Bool} (x : VX F ρ S σ H v sl) (e : sl.bool? = some k) : v = .bl k := by
  cases sl with
  | im d => cases d with
    | bool b => simp only [Sl.bool?, Option.some.injEq] at e; subst e; exact dq_bool x
    | _ => cases e
  | _ => cases e
theorem int_of {ρ : List Sl} {S : Hp} {σ : L2.St} {H : Hp} {v : V} {sl : Sl} {k : Int} (x : VX F ρ S σ H v sl) (e : sl.int? = some k) : v = .int k := by
  cases sl with
  | im d => cases d with
    | int b => simp only [Sl.int?, Option.some.injEq] at e; subst e; exact dq_int x
    | _ => cases e
  | _ => cases e
theorem test_run {t : TE} {w : WE} (m : Mono3 w) (i : ∀ σ H Q, lE F w σ H Q → t σ H Q) : ∀ σ H Q, lT F (wB w) σ H Q → tTest t σ H Q := fun σ H Q ⟨ρ, S, rl, h⟩ => by
  refine i σ H _ (le_mk m rl h fun x ρ1 hx S1 H1 v u1 g1 r1 vx => ?_)
  obtain ⟨k, e, q⟩ := got_ex hx
  exact ⟨k, bool_of vx e, q S1 H1 u1 g1 r1⟩
theorem t_cmp {op : CmpOp} {r : R2} {g : G2} (ho : OpR X (compareOp op) r) (hg : On2 F r g) (mg : Mono2 g) (ha : PD X F a wa) (hb : PD X F b wb) (hm : behindInMarks op b = false) : PDT X F (.Compare a [op] [b] pos) (wB (w2 g wa wb)) :=
  ⟨pt_imp (pt_cmpR ho ha.run hb.run hm) (test_run (mono_w2 ha.mono hb.mono mg) (two_run (ta := a) hg ha.mono hb.mono)), mono_wB (mono_w2 ha.mono hb.mono mg)⟩
/-- a op b op' c -/
def w3 (g g' : G2) (wa wb wc : WE) : WE := fun ρ Q => wa ρ fun x ρ1 => wb ρ1 fun y ρ2 => g x.calm y fun z => got z.bool? fun k => if k = true then wc ρ2 fun t ρ3 => g' y.calm t fun z' => Q z' ρ3 else Q (.im (.bool false)) ρ2
/-- a comparison's answer comes at once, the heap as it was -/
def Flat2 (F : Fm) (r : R2) (g : G2) : Prop := ∀ ρ S σ H x y v u K Q, Rel F ρ S σ H → VX F ρ S σ H v x → VX F ρ S σ H u y → g x y K → (∀ z d, K z → z = .im (.bool d) → Q (.bl d) H) → r v u H Q
theorem mono_w3 {g g' : G2} (ma : Mono3 wa) (mb : Mono3 wb) (mc : Mono3 wc) (mg : Mono2 g) (mg' : Mono2 g') : Mono3 (w3 g g' wa wb wc) := fun ρ Q Q' h q =>
  ma _ _ _ (fun x ρ1 k => mb _ _ _ (fun y ρ2 k2 => mg _ _ _ _ (fun z kz => got_mono (fun b kb => by
    by_cases hb : b = true
    · rw [if_pos hb] at kb ⊢; exact mc _ _ _ (fun t ρ3 k3 => mg' _ _ _ _ (fun z' k4 => h _ _ k4) k3) kb
    · rw [if_neg hb] at kb ⊢; exact h _ _ kb) kz) k2) k) q
theorem three_run {r r' : R2} {g g' : G2} (hg : Flat2 F r g) (hg' : On2 F r' g') (ma : Mono3 wa) (mb : Mono3 wb) (mc : Mono3 wc) : ∀ σ H Q, lE F (w3 g g' wa wb wc) σ H Q → tChain r r' (lE F wa) (lE F wb) (lE F wc) σ H Q := fun σ H Q ⟨ρ, S, rl, h⟩ => by
  refine le_mk ma rl h fun x ρ1 hx S1 H1 v u1 g1 r1 vx => ?_
  refine le_mk mb r1 hx fun y ρ2 hy S2 H2 u u2 g2 r2 vy => ?_
  refine hg ρ2 S2 σ H2 x.calm y v u _ _ r2 (vx.stay r1.fr u2 g2) vy hy fun z d hz e => ?_
  subst e
  refine ⟨d, rfl, ?_⟩
  have hz : if d = true then wc ρ2 fun t ρ3 => g' y.calm t fun z' => Got F S σ H Q z' ρ3 else Got F S σ H Q (.im (.bool false)) ρ2 := hz
  by_cases hd : d = true
  · rw [if_pos hd] at hz ⊢
    refine le_mk mc r2 hz fun t ρ3 ht S3 H3 w u3 g3 r3 vt => ?_
    exact hg' ρ3 S3 σ H3 y.calm t u w _ Q r3 (vy.stay r2.fr u3 g3) vt ht fun z' hz' => hz'.up (u1.trans (u2.trans u3)) (g1.trans (g2.trans g3))
  · rw [if_neg hd] at hz ⊢
    exact hz S2 H2 _ (u1.trans u2) (g1.trans g2) r2 (.bl false)
theorem d_chain {op op' : CmpOp} {r r' : R2} {g g' : G2} (ho : OpR X (compareOp op) r) (ho' : OpR X (compareOp op') r') (hg : Flat2 F r g) (hg' : On2 F r' g') (mg : Mono2 g) (mg' : Mono2 g') (ha : PD X F a wa) (hb : PD X F b wb) (hc : PD X F c wc)
    (hm : lastMarks [op, op'] [b, c] = false := by with_unfolding_all rfl) : PD X F (.Compare a [op, op'] [b, c] pos) (w3 g g' wa wb wc) :=
  ⟨pe_imp (pe_chain ho ho' ha.run hb.run hc.run hm) (three_run hg hg' ha.mono hb.mono hc.mono), mono_w3 ha.mono hb.mono hc.mono mg mg'⟩
theorem t_chain {op op' : CmpOp} {r r' : R2} {g g' : G2} (ho : OpR X (compareOp op) r) (ho' : OpR X (compareOp op') r') (hg : Flat2 F r g) (hg' : On2 F r' g') (mg : Mono2 g) (mg' : Mono2 g') (ha : PD X F a wa) (hb : PD X F b wb) (hc : PD X F c wc)
    (hm : lastMarks [op, op'] [b, c] = false := by with_unfolding_all rfl) : PDT X F (.Compare a [op, op'] [b, c] pos) (wB (w3 g g' wa wb wc)) :=
  ⟨pt_imp (pt_chain ho ho' ha.run hb.run hc.run hm) (test_run (mono_w3 ha.mono hb.mono hc.mono mg mg') (three_run hg hg' ha.mono hb.mono hc.mono)), mono_wB (mono_w3 ha.mono hb.mono hc.mono mg mg')⟩

/-! ### one value -/
theorem one_run {r : V → Hp → VK → Prop} {g : G1} (hg : On1 F r g) (ma : Mono3 wa) : ∀ σ H Q, lE F (w1 g wa) σ H Q → tUn r (lE F wa) σ H Q := fun σ H Q ⟨ρ, S, rl, h⟩ => by
  refine le_mk ma rl h fun x ρ1 hx S1 H1 v u1 g1 r1 vx => ?_
  exact hg ρ1 S1 σ H1 x v _ Q r1 vx hx fun z hz => hz.up u1 g1
theorem d_un {op : UnaryOp} {r : V → Hp → VK → Prop} {g : G1} (ho : UnR X (unaryOp op) r) (hg : On1 F r g) (mg : Mono1 g) (ha : PD X F a wa) : PD X F (.UnaryOp op a pos) (w1 g wa) :=
  ⟨pe_imp (pe_un ho ha.run) (one_run hg ha.mono), mono_w1 ha.mono mg⟩

/-! ### truth -/
def Sl.tru? : Sl → Option Bool
  | .im .none => some false
  | .im (.bool b) => some b
  | .im (.int i) => some (i != 0)
  | .im (.list ds) => some (!ds.isEmpty)
  | .im (.tuple ds) => some (!ds.isEmpty)
  | .ow ds => some (!ds.isEmpty)
  | .pk ds => some (!ds.isEmpty)
  | _ => none
theorem emp_eq {S : Hp} {vs : List V} {ds : List D} (h : DqAll S vs ds) : (!vs.isEmpty) = !ds.isEmpty := by cases h <;> rfl
theorem tru_of {K : PySem.W.Frag} {ρ : List Sl} {S : Hp} {σ : L2.St} {H : Hp} {v : V} {sl : Sl} {k : Bool} (f : Fr F S H) (x : VX F ρ S σ H v sl) (e : sl.tru? = some k) : TruV K v H k := by
  cases sl with
  | no => cases e
  | src => cases e
  | ow ds =>
    simp only [Sl.tru?, Option.some.injEq] at e
    obtain ⟨a, xs, rfl, h1, _, _, h4, _⟩ := x
    exact .inl ⟨xs, .of h1, by rw [emp_eq h4]; exact e.symm⟩
  | pk ds =>
    simp only [Sl.tru?, Option.some.injEq] at e
    obtain ⟨a, xs, rfl, h1, _, h4⟩ := x
    exact .inl ⟨xs, .of h1, by rw [emp_eq h4]; exact e.symm⟩
  | im d =>
    cases d with
    | none => simp only [Sl.tru?, Option.some.injEq] at e; rw [dq_non x]; exact e.symm
    | bool b => simp only [Sl.tru?, Option.some.injEq] at e; rw [dq_bool x]; exact e.symm
    | int b => simp only [Sl.tru?, Option.some.injEq] at e; rw [dq_int x]; exact e.symm
    | str b => cases e
    | dict b => cases e
    | list ds =>
      simp only [Sl.tru?, Option.some.injEq] at e
      cases x with
      | lst h1 h2 => exact .inl ⟨_, .of (f.sub _ _ h1), by rw [emp_eq h2]; exact e.symm⟩
    | tuple ds =>
      simp only [Sl.tru?, Option.some.injEq] at e
      cases x with
      | tup h1 h2 => exact .inr (.inl ⟨_, .of (f.sub _ _ h1), by rw [emp_eq h2]; exact e.symm⟩)
/-- a test by a value's truth -/
def wTr (w : WE) : WT := fun ρ Q => w ρ fun x ρ1 => got x.tru? fun b => Q b ρ1
theorem mono_wTr {w : WE} (m : Mono3 w) : Mono3 (wTr w) := fun ρ Q Q' h q => m _ _ _ (fun x ρ1 k => got_mono (fun b kb => h b ρ1 kb) k) q
theorem t_tr (ha : PD X F a wa) (he : ∀ whole, isTrue a X.env whole = (do let v ← whole; standAt a.pos; holding [v] (truthy v)) := by intro _; rfl) : PDT X F a (wTr wa) :=
  ⟨pt_imp (pt_truth ha.run he) fun σ H Q ⟨ρ, S, rl, h⟩ => le_mk ha.mono rl h fun x ρ1 hx S1 H1 v u1 g1 r1 vx => by
    obtain ⟨k, e, q⟩ := got_ex hx
    exact ⟨k, tru_of r1.fr vx e, q S1 H1 u1 g1 r1⟩, mono_wTr ha.mono⟩
def wNot (w : WT) : WT := fun ρ Q => w ρ fun b ρ1 => Q (!b) ρ1
def wAnd (w u : WT) : WT := fun ρ Q => w ρ fun b ρ1 => if b = true then u ρ1 Q else Q false ρ1
def wOr (w u : WT) : WT := fun ρ Q => w ρ fun b ρ1 => if b = true then Q true ρ1 else u ρ1 Q
theorem t_not {w : WT} (ha : PDT X F a w) : PDT X F (.UnaryOp .Not a pos) (wNot w) :=
  ⟨pt_imp (pt_not ha.run) fun σ H Q ⟨ρ, S, rl, h⟩ => lt_mk ha.mono rl h fun b ρ1 hb => hb, fun ρ Q Q' h q => ha.mono _ _ _ (fun b ρ1 k => h _ _ k) q⟩
theorem GotT.up {ρ' : List Sl} {S0 S : Hp} {σ : L2.St} {H0 H : Hp} {Q : Bool → Hp → Prop} {b : Bool} (g : GotT F S0 σ H0 Q b ρ') (hs : Same S0 S) (hh : GrH F H0 H) : GotT F S σ H Q b ρ' :=
  fun S' H' a b c => g S' H' (hs.trans a) (hh.trans b) c
theorem tw_and1 {w : WT} (ha : PDT X F a w) : PDW X F (.BoolOp .And [a] pos) w := ⟨pw_and1 ha.run, ha.mono⟩
theorem tw_or1 {w : WT} (ha : PDT X F a w) : PDW X F (.BoolOp .Or [a] pos) w := ⟨pw_or1 ha.run, ha.mono⟩
theorem tw_and {w u : WT} {rest : List Expr} (ha : PDT X F a w) (hb : PDW X F (.BoolOp .And (b :: rest) pos) u) : PDW X F (.BoolOp .And (a :: b :: rest) pos) (wAnd w u) := by
  refine ⟨pw_imp (pw_and ha.run hb.run) fun σ H Q ⟨ρ, S, rl, h⟩ => lt_mk ha.mono rl h fun k ρ1 hk S1 H1 u1 g1 r1 => ?_, fun ρ Q Q' h q => ha.mono _ _ _ (fun k ρ1 hk => ?_) q⟩
  · cases k with
    | true => exact lt_mk hb.mono r1 hk fun j ρ2 hj => hj.up u1 g1
    | false => exact hk S1 H1 u1 g1 r1
  · cases k with
    | true => exact hb.mono _ _ _ h hk
    | false => exact h _ _ hk
theorem tw_or {w u : WT} {rest : List Expr} (ha : PDT X F a w) (hb : PDW X F (.BoolOp .Or (b :: rest) pos) u) : PDW X F (.BoolOp .Or (a :: b :: rest) pos) (wOr w u) := by
  refine ⟨pw_imp (pw_or ha.run hb.run) fun σ H Q ⟨ρ, S, rl, h⟩ => lt_mk ha.mono rl h fun k ρ1 hk S1 H1 u1 g1 r1 => ?_, fun ρ Q Q' h q => ha.mono _ _ _ (fun k ρ1 hk => ?_) q⟩
  · cases k with
    | false => exact lt_mk hb.mono r1 hk fun j ρ2 hj => hj.up u1 g1
    | true => exact hk S1 H1 u1 g1 r1
  · cases k with
    | false => exact hb.mono _ _ _ h hk
    | true => exact h _ _ hk
theorem PDW.t {w : WT} (h : PDW X F e w) : PDT X F e w := ⟨h.run.pt, h.mono⟩

/-- and, or, not as values, by truth -/
def wAndV (wa wb : WE) : WE := fun ρ Q => wa ρ fun x ρ1 => got x.tru? fun k => if k = true then wb ρ1 Q else Q x ρ1
def wOrV (wa wb : WE) : WE := fun ρ Q => wa ρ fun x ρ1 => got x.tru? fun k => if k = true then Q x ρ1 else wb ρ1 Q
def wNotV (wa : WE) : WE := fun ρ Q => wa ρ fun x ρ1 => got x.tru? fun k => Q (.im (.bool (!k))) ρ1
theorem d_one {op} {w : WE} (h : PD X F a w) : PD X F (.BoolOp op [a] pos) w := ⟨pe_one h.run, h.mono⟩
theorem d_and {rest : List Expr} (ha : PD X F a wa) (hb : PD X F (.BoolOp .And (b :: rest) pos) wb) : PD X F (.BoolOp .And (a :: b :: rest) pos) (wAndV wa wb) := by
  refine ⟨pe_imp (pe_andT ha.run hb.run) fun σ H Q ⟨ρ, S, rl, h⟩ => le_mk ha.mono rl h fun x ρ1 hx S1 H1 v u1 g1 r1 vx => ?_, fun ρ Q Q' h q => ha.mono _ _ _ (fun x ρ1 hx => got_mono (fun k hk => ?_) hx) q⟩
  · obtain ⟨k, e, q⟩ := got_ex hx
    refine ⟨k, tru_of r1.fr vx e, ?_⟩
    cases k with
    | true => exact le_mk hb.mono r1 q fun j ρ2 hj => hj.up u1 g1
    | false => exact q S1 H1 v u1 g1 r1 vx
  · cases k with
    | true => exact hb.mono _ _ _ h hk
    | false => exact h _ _ hk
theorem d_or {rest : List Expr} (ha : PD X F a wa) (hb : PD X F (.BoolOp .Or (b :: rest) pos) wb) : PD X F (.BoolOp .Or (a :: b :: rest) pos) (wOrV wa wb) := by
  refine ⟨pe_imp (pe_orT ha.run hb.run) fun σ H Q ⟨ρ, S, rl, h⟩ => le_mk ha.mono rl h fun x ρ1 hx S1 H1 v u1 g1 r1 vx => ?_, fun ρ Q Q' h q => ha.mono _ _ _ (fun x ρ1 hx => got_mono (fun k hk => ?_) hx) q⟩
  · obtain ⟨k, e, q⟩ := got_ex hx
    refine ⟨k, tru_of r1.fr vx e, ?_⟩
    cases k with
    | false => exact le_mk hb.mono r1 q fun j ρ2 hj => hj.up u1 g1
    | true => exact q S1 H1 v u1 g1 r1 vx
  · cases k with
    | false => exact hb.mono _ _ _ h hk
    | true => exact h _ _ hk
theorem d_not (ha : PD X F a wa) : PD X F (.UnaryOp .Not a pos) (wNotV wa) := by
  refine ⟨pe_imp (pe_notT ha.run) fun σ H Q ⟨ρ, S, rl, h⟩ => le_mk ha.mono rl h fun x ρ1 hx S1 H1 v u1 g1 r1 vx => ?_, fun ρ Q Q' h q => ha.mono _ _ _ (fun x ρ1 hx => got_mono (fun k hk => h _ _ hk) hx) q⟩
  obtain ⟨k, e, q⟩ := got_ex hx
  exact ⟨k, tru_of r1.fr vx e, q S1 H1 _ u1 g1 r1 (.bl _)⟩
/-- a if t else b -/
def wIte (t : WT) (wa wb : WE) : WE := fun ρ Q => t ρ fun b ρ1 => if b = true then wa ρ1 Q else wb ρ1 Q
theorem d_ite {t : WT} (ht : PDT X F c t) (ha : PD X F a wa) (hb : PD X F b wb) : PD X F (.IfExp c a b pos) (wIte t wa wb) := by
  refine ⟨pe_imp (pe_ifExp ht.run ha.run hb.run) fun σ H Q ⟨ρ, S, rl, h⟩ => lt_mk ht.mono rl h fun k ρ1 hk S1 H1 u1 g1 r1 => ?_, fun ρ Q Q' h q => ht.mono _ _ _ (fun k ρ1 hk => ?_) q⟩
  · cases k with
    | true => exact le_mk ha.mono r1 hk fun j ρ2 hj => hj.up u1 g1
    | false => exact le_mk hb.mono r1 hk fun j ρ2 hj => hj.up u1 g1
  · cases k with
    | true => exact ha.mono _ _ _ h hk
    | false => exact hb.mono _ _ _ h hk

/-! ### arguments -/
def wN : WA := fun ρ Q => Q [] ρ
/-- an argument that is read -/
def wA (wa : WE) (wr : WA) : WA := fun ρ Q => wa ρ fun x ρ1 => wr ρ1 fun xs ρ2 => Q (x.calm :: xs) ρ2
/-- an argument that is handed on -/
def Sl.shr? : Sl → Option Sl
  | .im d => some (.im d)
  | .ow ds => some (.im (.list ds))
  | .src => some .src
  | _ => none
def wS (wa : WE) (wr : WA) : WA := fun ρ Q => wa ρ fun x ρ1 => got x.shr? fun y => wr ρ1 fun xs ρ2 => Q (y :: xs) ρ2
theorem a_nil : PDA X F [] wN := ⟨pa_imp pa_nil fun σ H Q ⟨ρ, S, rl, h⟩ => h S H [] (Same.refl _) (.refl _ _) rl .nil, fun ρ Q Q' h q => h _ _ q⟩
theorem paired_stay {ρ ρ' : List Sl} {S S' : Hp} {σ : L2.St} {H H' : Hp} : ∀ {vs : List V} {xs : List Sl}, Fr F S H → Same S S' → GrH F H H' → Paired (VX F ρ S σ H) vs xs → Paired (VX F ρ' S' σ H') vs (xs.map Sl.calm)
  | _, _, _, _, _, .nil => .nil
  | _, _, f, s, g, .cons h t => .cons (h.stay f s g) (paired_stay f s g t)
theorem a_cons {es : List Expr} {wr : WA} (ha : PD X F a wa) (hr : PDA X F es wr) (hs : starEach (a :: es) X.env = (false, eval a X.env) :: starEach es X.env := by rfl) : PDA X F (a :: es) (wA wa wr) := by
  refine ⟨pa_imp (pa_cons ha.run hr.run hs) fun σ H Q ⟨ρ, S, rl, h⟩ => ?_, fun ρ Q Q' h q => ha.mono _ _ _ (fun x ρ1 k => hr.mono _ _ _ (fun xs ρ2 k2 => h _ _ k2) k) q⟩
  refine le_mk ha.mono rl h fun x ρ1 hx S1 H1 v u1 g1 r1 vx => la_mk hr.mono r1 hx fun xs ρ2 hy S2 H2 vs u2 g2 r2 vy => ?_
  exact hy S2 H2 (v :: vs) (u1.trans u2) (g1.trans g2) r2 (.cons (vx.stay r1.fr u2 g2) vy)
theorem VX.shared {ρ : List Sl} {S : Hp} {σ : L2.St} {H : Hp} {v : V} {sl y : Sl} (r : Rel F ρ S σ H) (x : VX F ρ S σ H v sl) (e : sl.shr? = some y) : ∃ S', Same S S' ∧ Rel F ρ S' σ H ∧ VX F ρ S' σ H v y ∧ y.calm = y := by
  cases sl with
  | no => cases e
  | pk ds => cases e
  | im d => simp only [Sl.shr?, Option.some.injEq] at e; subst e; exact ⟨S, Same.refl _, r, x, rfl⟩
  | src => simp only [Sl.shr?, Option.some.injEq] at e; subst e; exact ⟨S, Same.refl _, r, x, rfl⟩
  | ow ds =>
    simp only [Sl.shr?, Option.some.injEq] at e
    subst e
    obtain ⟨S', u, r', d⟩ := x.share r (fun _ z => nomatch z) rfl
    exact ⟨S', u, r', d, rfl⟩
theorem a_s {es : List Expr} {wr : WA} (ha : PD X F a wa) (hr : PDA X F es wr) (hs : starEach (a :: es) X.env = (false, eval a X.env) :: starEach es X.env := by rfl) : PDA X F (a :: es) (wS wa wr) := by
  refine ⟨pa_imp (pa_cons ha.run hr.run hs) fun σ H Q ⟨ρ, S, rl, h⟩ => ?_, fun ρ Q Q' h q => ha.mono _ _ _ (fun x ρ1 k => got_mono (fun y k1 => hr.mono _ _ _ (fun xs ρ2 k2 => h _ _ k2) k1) k) q⟩
  refine le_mk ha.mono rl h fun x ρ1 hx S1 H1 v u1 g1 r1 vx => ?_
  obtain ⟨y, e, hx⟩ := got_ex hx
  obtain ⟨S1', u1', r1', vy, ec⟩ := vx.shared r1 e
  refine la_mk hr.mono r1' hx fun xs ρ2 hy S2 H2 vs u2 g2 r2 vys => ?_
  have vy2 := vy.stay (ρ' := ρ2) r1'.fr u2 g2
  rw [ec] at vy2
  exact hy S2 H2 (v :: vs) ((u1.trans u1').trans u2) (g1.trans g2) r2 (.cons vy2 vys)
/-- *a -/
def Sl.seq? (s : Sl) : Option (List D) := match s.lst? with
  | some ds => some ds
  | none => s.tup?
def wX (wa : WE) (wr : WA) : WA := fun ρ Q => wa ρ fun x ρ1 => got x.seq? fun ds => wr ρ1 fun xs ρ2 => Q (ds.map Sl.im ++ xs) ρ2
theorem VX.seq {ρ : List Sl} {S : Hp} {σ : L2.St} {H : Hp} {v : V} {sl : Sl} {ds : List D} (f : Fr F S H) (x : VX F ρ S σ H v sl) (e : sl.seq? = some ds) : ∃ a xs, v = .ref a ∧ (H a = some (.lst xs) ∨ H a = some (.tup xs)) ∧ DqAll S xs ds := by
  unfold Sl.seq? at e
  split at e
  · rename_i ds' e'
    cases e
    obtain ⟨a, xs, h1, h2, h3⟩ := x.lst f e'
    exact ⟨a, xs, h1, .inl h2, h3⟩
  · obtain ⟨a, xs, h1, h2, _, h3⟩ := x.tup f e
    exact ⟨a, xs, h1, .inr h2, h3⟩
theorem paired_im {ρ : List Sl} {S : Hp} {σ : L2.St} {H : Hp} : ∀ {xs : List V} {ds : List D}, DqAll S xs ds → Paired (VX F ρ S σ H) xs (ds.map Sl.im)
  | _, [], h => by cases h; exact .nil
  | _, d :: ds, h => by
    cases h with
    | cons h1 h2 => exact .cons h1 (paired_im h2)
theorem paired_app {α β : Type} {R : α → β → Prop} : ∀ {xs : List α} {ys : List β} {xs' : List α} {ys' : List β}, Paired R xs ys → Paired R xs' ys' → Paired R (xs ++ xs') (ys ++ ys')
  | _, _, _, _, .nil, h => h
  | _, _, _, _, .cons a b, h => .cons a (paired_app b h)
theorem a_x {es : List Expr} {wr : WA} {p : Pos} (ha : PD X F a wa) (hr : PDA X F es wr) (hs : starEach (.Starred a p :: es) X.env = (true, eval a X.env) :: starEach es X.env := by rfl) : PDA X F (.Starred a p :: es) (wX wa wr) := by
  refine ⟨pa_imp (StX.pa_star ha.run hr.run hs) fun σ H Q ⟨ρ, S, rl, h⟩ => ?_, fun ρ Q Q' h q => ha.mono _ _ _ (fun x ρ1 k => got_mono (fun y k1 => hr.mono _ _ _ (fun xs ρ2 k2 => h _ _ k2) k1) k) q⟩
  refine le_mk ha.mono rl h fun x ρ1 hx S1 H1 v u1 g1 r1 vx => ?_
  obtain ⟨ds, e, hx⟩ := got_ex hx
  obtain ⟨p, xs, rfl, hp, hd⟩ := vx.seq r1.fr e
  refine ⟨p, xs, rfl, hp.symm.imp .of .of, la_mk hr.mono r1 hx fun ys ρ2 hy S2 H2 vs u2 g2 r2 vys => ?_⟩
  exact hy S2 H2 (xs ++ vs) (u1.trans u2) (g1.trans g2) r2 (paired_app (paired_im (dqa_up u2 hd)) vys)

/-! ### displays, calls -/
def dats? : List Sl → Option (List D)
  | [] => some []
  | .im d :: r => match dats? r with
    | some ds => some (d :: ds)
    | none => none
  | _ :: _ => none
@[simp] theorem dats_nil : dats? [] = some [] := rfl
@[simp] theorem dats_map : ∀ ds : List D, dats? (ds.map Sl.im) = some ds
  | [] => rfl
  | d :: ds => by simp only [List.map_cons, dats?, dats_map ds]
theorem dats_of {ρ : List Sl} {S : Hp} {σ : L2.St} {H : Hp} : ∀ {vs : List V} {xs : List Sl} {ds : List D}, Paired (VX F ρ S σ H) vs xs → dats? xs = some ds → DqAll S vs ds
  | _, [], ds, .nil, e => by
    simp only [dats?, Option.some.injEq] at e
    subst e
    exact .nil
  | _, x :: xs, ds, .cons h t, e => by
    cases x with
    | im d =>
      simp only [dats?] at e
      split at e
      · rename_i es e'
        simp only [Option.some.injEq] at e
        subst e
        exact .cons h (dats_of t e')
      · cases e
    | _ => cases e
def wTup (w : WA) : WE := fun ρ Q => w ρ fun xs ρ1 => got (dats? xs) fun ds => ds.length ≤ 100000 ∧ Q (.im (.tuple ds)) ρ1
def wLst (w : WA) : WE := fun ρ Q => w ρ fun xs ρ1 => got (dats? xs) fun ds => ds.length ≤ 100000 ∧ Q (.ow ds) ρ1
theorem line_ok {n : Nat} (h : n ≤ 100000) : n ≤ sizeLine := by rw [sizeLine_eq]; omega
theorem line_lt {n : Nat} (h : n ≤ 100000) : n < sizeLine := by rw [sizeLine_eq]; omega
theorem d_tup {es : List Expr} {w : WA} {x1} (ha : PDA X F es w) : PD X F (.Tuple es x1 pos) (wTup w) := by
  refine ⟨pe_imp (pe_tup ha.run) fun σ H Q ⟨ρ, S, rl, h⟩ => la_mk ha.mono rl h fun xs ρ1 hx S1 H1 vs u1 g1 r1 vx => ?_, fun ρ Q Q' h q => ha.mono _ _ _ (fun x ρ1 k => got_mono (fun ds k1 => ⟨k1.1, h _ _ k1.2⟩) k) q⟩
  obtain ⟨ds, e, hz, q⟩ := got_ex hx
  have hd := dats_of vx e
  exact ⟨by rw [dqa_len hd]; exact line_ok hz, fun p hp => (q.up u1 g1).tup r1 hd hp⟩
theorem d_lst {es : List Expr} {w : WA} (ha : PDA X F es w) : PD X F (.List es pos) (wLst w) := by
  refine ⟨pe_imp (pe_lst ha.run) fun σ H Q ⟨ρ, S, rl, h⟩ => la_mk ha.mono rl h fun xs ρ1 hx S1 H1 vs u1 g1 r1 vx => ?_, fun ρ Q Q' h q => ha.mono _ _ _ (fun x ρ1 k => got_mono (fun ds k1 => ⟨k1.1, h _ _ k1.2⟩) k) q⟩
  obtain ⟨ds, e, hz, q⟩ := got_ex hx
  have hd := dats_of vx e
  exact ⟨by rw [dqa_len hd]; exact line_ok hz, fun p hp => (q.up u1 g1).lst r1 hd hp⟩
/-- a builtin, by a function on what it gets -/
abbrev GA := List Sl → (Sl → Prop) → Prop
def MonoA (g : GA) : Prop := ∀ x K K', (∀ z, K z → K' z) → g x K → g x K'
def OnA (F : Fm) (r : List V → Hp → VK → Prop) (g : GA) : Prop := ∀ ρ S σ H xs vs K Q, Rel F ρ S σ H → Paired (VX F ρ S σ H) vs xs → g xs K → Res F ρ S σ H Q K → r vs H Q
def wF (g : GA) (w : WA) : WE := fun ρ Q => w ρ fun xs ρ1 => g xs fun z => Q z ρ1
theorem mono_wF {g : GA} {w : WA} (m : Mono3 w) (mg : MonoA g) : Mono3 (wF g w) := fun ρ Q Q' h q => m _ _ _ (fun xs ρ1 k => mg _ _ _ (fun z kz => h _ _ kz) k) q
theorem fun_run {r : List V → Hp → VK → Prop} {g : GA} {w : WA} (hg : OnA F r g) (m : Mono3 w) : ∀ σ H Q, lE F (wF g w) σ H Q → tCB r (lA F w) σ H Q := fun σ H Q ⟨ρ, S, rl, h⟩ =>
  la_mk m rl h fun xs ρ1 hx S1 H1 vs u1 g1 r1 vx => hg ρ1 S1 σ H1 xs vs _ Q r1 vx hx fun z hz => hz.up u1 g1
theorem d_bi {id : String} {x : Str} {p : Pos} {es : List Expr} {r : List V → Hp → VK → Prop} {g : GA} {w : WA} (hc : CallR X (.builtin id) r) (hv : OnA F r g) (mg : MonoA g) (hgl : Gl X x) (hm : X.mg x = none) (hb : bootBuiltins x = some (.builtin id)) (ha : PDA X F (e :: es) w) (hn : x ≠ "__name__" := by decide) (hdb : (x == ("__debug__" : Str)) = false := by decide) (he : starEach (e :: es) X.env = (false, eval e X.env) :: starEach es X.env := by rfl) (hpl : (backTo pos (starEach es X.env)).any (·.1) = false := by rfl) : PD X F (.Call (.Name x p) (e :: es) [] pos) (wF g w) :=
  ⟨pe_imp (pe_callB hc hgl hm hb ha.run hn hdb he hpl) (fun_run hv ha.mono), mono_wF ha.mono mg⟩
theorem d_ty {T : String} {x : Str} {p : Pos} {es : List Expr} {r : List V → Hp → VK → Prop} {g : GA} {w : WA} (hc : CallR X (.type T) r) (hv : OnA F r g) (mg : MonoA g) (hgl : Gl X x) (hm : X.mg x = none) (hb : bootBuiltins x = some (.type T)) (ha : PDA X F (e :: es) w) (hn : x ≠ "__name__" := by decide) (hdb : (x == ("__debug__" : Str)) = false := by decide) (he : starEach (e :: es) X.env = (false, eval e X.env) :: starEach es X.env := by rfl) (hpl : (backTo pos (starEach es X.env)).any (·.1) = false := by rfl) : PD X F (.Call (.Name x p) (e :: es) [] pos) (wF g w) :=
  ⟨pe_imp (pe_callTy hc hgl hm hb ha.run hn hdb he hpl) (fun_run hv ha.mono), mono_wF ha.mono mg⟩
theorem d_bim {id : String} {x : Str} {p : Pos} {es : List Expr} {r : List V → Hp → VK → Prop} {g : GA} {w : WA} (hc : CallR X (.builtin id) r) (hv : OnA F r g) (mg : MonoA g) (hgl : Gl X x) (hm : X.mg x = some (.builtin id)) (ha : PDA X F (e :: es) w) (hdb : (x == ("__debug__" : Str)) = false := by decide) (he : starEach (e :: es) X.env = (false, eval e X.env) :: starEach es X.env := by rfl) (hpl : (backTo pos (starEach es X.env)).any (·.1) = false := by rfl) : PD X F (.Call (.Name x p) (e :: es) [] pos) (wF g w) :=
  ⟨pe_imp (pe_callBfun hc hgl hm ha.run hdb he hpl) (fun_run hv ha.mono), mono_wF ha.mono mg⟩
end
end DL

set_option Elab.async false
set_option linter.all false
set_option maxRecDepth 100000
namespace DL
open PySem PySem.Spec PyProof.Rows L2

@[simp] theorem int_i (i : Int) : Sl.int? (.im (.int i)) = some i := rfl
@[simp] theorem int_b (i : Bool) : Sl.int? (.im (.bool i)) = none := rfl
@[simp] theorem int_n : Sl.int? (.im .none) = none := rfl
@[simp] theorem int_t (ds : List D) : Sl.int? (.im (.tuple ds)) = none := rfl
@[simp] theorem int_l (ds : List D) : Sl.int? (.im (.list ds)) = none := rfl
@[simp] theorem int_s (s : Str) : Sl.int? (.im (.str s)) = none := rfl
@[simp] theorem int_o (ds : List D) : Sl.int? (.ow ds) = none := rfl
@[simp] theorem int_p (ds : List D) : Sl.int? (.pk ds) = none := rfl
@[simp] theorem bool_b (i : Bool) : Sl.bool? (.im (.bool i)) = some i := rfl
@[simp] theorem tup_t (ds : List D) : Sl.tup? (.im (.tuple ds)) = some ds := rfl
@[simp] theorem tup_i (i : Int) : Sl.tup? (.im (.int i)) = none := rfl
@[simp] theorem tup_b (i : Bool) : Sl.tup? (.im (.bool i)) = none := rfl
@[simp] theorem tup_n : Sl.tup? (.im .none) = none := rfl
@[simp] theorem tup_l (ds : List D) : Sl.tup? (.im (.list ds)) = none := rfl
@[simp] theorem tup_s (s : Str) : Sl.tup? (.im (.str s)) = none := rfl
@[simp] theorem tup_o (ds : List D) : Sl.tup? (.ow ds) = none := rfl
@[simp] theorem tup_p (ds : List D) : Sl.tup? (.pk ds) = none := rfl
@[simp] theorem lst_l (ds : List D) : Sl.lst? (.im (.list ds)) = some ds := rfl
@[simp] theorem lst_o (ds : List D) : Sl.lst? (.ow ds) = some ds := rfl
@[simp] theorem lst_p (ds : List D) : Sl.lst? (.pk ds) = some ds := rfl
@[simp] theorem lst_t (ds : List D) : Sl.lst? (.im (.tuple ds)) = none := rfl
@[simp] theorem lst_i (i : Int) : Sl.lst? (.im (.int i)) = none := rfl
@[simp] theorem lst_b (i : Bool) : Sl.lst? (.im (.bool i)) = none := rfl
@[simp] theorem lst_n : Sl.lst? (.im .none) = none := rfl
@[simp] theorem lst_s (s : Str) : Sl.lst? (.im (.str s)) = none := rfl
@[simp] theorem seq_l (ds : List D) : Sl.seq? (.im (.list ds)) = some ds := rfl
@[simp] theorem seq_o (ds : List D) : Sl.seq? (.ow ds) = some ds := rfl
@[simp] theorem seq_p (ds : List D) : Sl.seq? (.pk ds) = some ds := rfl
@[simp] theorem seq_t (ds : List D) : Sl.seq? (.im (.tuple ds)) = some ds := rfl
@[simp] theorem dat_i (d : D) : Sl.dat? (.im d) = some d := rfl
@[simp] theorem dat_o (ds : List D) : Sl.dat? (.ow ds) = some (.list ds) := rfl
@[simp] theorem dat_p (ds : List D) : Sl.dat? (.pk ds) = some (.list ds) := rfl
@[simp] theorem shr_i (d : D) : Sl.shr? (.im d) = some (.im d) := rfl
@[simp] theorem shr_o (ds : List D) : Sl.shr? (.ow ds) = some (.im (.list ds)) := rfl
@[simp] theorem shr_s : Sl.shr? .src = some .src := rfl
@[simp] theorem calm_i (d : D) : Sl.calm (.im d) = .im d := rfl
@[simp] theorem calm_o (ds : List D) : Sl.calm (.ow ds) = .pk ds := rfl
@[simp] theorem calm_p (ds : List D) : Sl.calm (.pk ds) = .pk ds := rfl
@[simp] theorem calm_s : Sl.calm .src = .src := rfl
@[simp] theorem dats_cons (d : D) (r : List Sl) : dats? (.im d :: r) = (match dats? r with | some ds => some (d :: ds) | none => none) := rfl
@[simp] theorem tru_i (i : Int) : Sl.tru? (.im (.int i)) = some (i != 0) := rfl
@[simp] theorem tru_b (i : Bool) : Sl.tru? (.im (.bool i)) = some i := rfl
@[simp] theorem tru_n : Sl.tru? (.im .none) = some false := rfl
@[simp] theorem tru_t (ds : List D) : Sl.tru? (.im (.tuple ds)) = some (!ds.isEmpty) := rfl
@[simp] theorem tru_l (ds : List D) : Sl.tru? (.im (.list ds)) = some (!ds.isEmpty) := rfl
@[simp] theorem tru_o (ds : List D) : Sl.tru? (.ow ds) = some (!ds.isEmpty) := rfl
@[simp] theorem tru_p (ds : List D) : Sl.tru? (.pk ds) = some (!ds.isEmpty) := rfl

section
variable {X : Cx} {F : Fm}
/-! ### ints -/
def iG (C : Int → Int → Prop) (f : Int → Int → Int) : G2 := fun x y K => got x.int? fun i => got y.int? fun j => C i j ∧ K (.im (.int (f i j)))
def cG (p : Int → Int → Bool) : G2 := fun x y K => got x.int? fun i => got y.int? fun j => K (.im (.bool (p i j)))
theorem mono_iG {C f} : Mono2 (iG C f) := fun x y K K' h g => got_mono (fun i gi => got_mono (fun j gj => ⟨gj.1, h _ gj.2⟩) gi) g
theorem mono_cG {p} : Mono2 (cG p) := fun x y K K' h g => got_mono (fun i gi => got_mono (fun j gj => h _ gj) gi) g
theorem on_iG {C f} : On2 F (rI C fun i j => .int (f i j)) (iG C f) := fun ρ S σ H x y v u K Q r vx vy g hK => by
  obtain ⟨i, e1, g⟩ := got_ex g
  obtain ⟨j, e2, c, k⟩ := got_ex g
  exact ⟨i, j, int_of vx e1, int_of vy e2, c, (hK _ k).now r (.int _)⟩
theorem on_cG {p : Int → Int → Bool} : On2 F (rI0 fun i j => .bl (p i j)) (cG p) := fun ρ S σ H x y v u K Q r vx vy g hK => by
  obtain ⟨i, e1, g⟩ := got_ex g
  obtain ⟨j, e2, k⟩ := got_ex g
  exact ⟨i, j, int_of vx e1, int_of vy e2, (hK _ k).now r (.bl _)⟩
theorem flat_cG {p : Int → Int → Bool} : Flat2 F (rI0 fun i j => .bl (p i j)) (cG p) := fun ρ S σ H x y v u K Q r vx vy g hK => by
  obtain ⟨i, e1, g⟩ := got_ex g
  obtain ⟨j, e2, k⟩ := got_ex g
  exact ⟨i, j, int_of vx e1, int_of vy e2, hK _ _ k rfl⟩
def okDiv (j : Int) : Prop := j ≠ 0 ∧ j.natAbs.log2 < 9000
def okMul (i j : Int) : Prop := CMulW i j ∨ CMul i j
theorem op_div : OpR X (binaryOp .FloorDiv) (rI (fun _ j => okDiv j) fun i j => .int (i.fdiv j)) := opI fun _ _ _ _ _ _ _ hc q => floordiv_int hc.1 q (.inl (PyProof.noPylong_of_log2 hc.2))
theorem op_mulA : OpR X (binaryOp .Mult) (rI okMul fun i j => .int (i * j)) := opI fun _ _ _ _ _ _ _ hc q => mul_int q (hc.elim CMulW.ok CMul.ok)
def divG : G2 := iG (fun _ j => okDiv j) fun i j => i.fdiv j
def modG : G2 := iG (fun _ j => j ≠ 0) fun i j => i.fmod j
def subG : G2 := fun x y K => got x.int? fun i => got y.int? fun j => K (.im (.int (i - j)))
theorem mono_subG : Mono2 subG := fun x y K K' h g => got_mono (fun i gi => got_mono (fun j gj => h _ gj) gi) g
theorem on_subG : On2 F (rI0 fun i j => .int (i - j)) subG := fun ρ S σ H x y v u K Q r vx vy g hK => by
  obtain ⟨i, e1, g⟩ := got_ex g
  obtain ⟨j, e2, k⟩ := got_ex g
  exact ⟨i, j, int_of vx e1, int_of vy e2, (hK _ k).now r (.int _)⟩
def powG : G2 := iG CPow fun i j => i ^ j.toNat
def shlG : G2 := iG CPow fun i j => i * 2 ^ j.toNat

/-! ### + and * -/
def addG : G2 := fun x y K => match x.int?, y.int? with
  | some i, some j => K (.im (.int (i + j)))
  | _, _ => match x.tup?, y.tup? with
    | some xs, some ys => xs.length + ys.length ≤ 100000 ∧ K (.im (.tuple (xs ++ ys)))
    | _, _ => match x.lst?, y.lst? with
      | some xs, some ys => xs.length + ys.length ≤ 100000 ∧ K (.ow (xs ++ ys))
      | _, _ => False
theorem mono_addG : Mono2 addG := fun x y K K' h g => by
  unfold addG at g ⊢
  generalize x.int? = a1 at g ⊢
  generalize y.int? = a2 at g ⊢
  generalize x.tup? = a3 at g ⊢
  generalize y.tup? = a4 at g ⊢
  generalize x.lst? = a5 at g ⊢
  generalize y.lst? = a6 at g ⊢
  cases a1 <;> cases a2 <;> cases a3 <;> cases a4 <;> cases a5 <;> cases a6 <;> first | exact g.elim | exact h _ g | exact ⟨g.1, h _ g.2⟩
def addR (K : PySem.W.Frag) : R2 := fun x y H Q => (∃ i j, x = .int i ∧ y = .int j ∧ Q (.int (i + j)) H) ∨ rCatA K x y H Q ∨ rCat x y H Q
theorem op_addA : OpR X (binaryOp .Add) (addR X.K) := OpR.or op_add (OpR.or op_catA op_cat)
theorem cat_len {S : Hp} {xs ys : List V} {ds es : List D} (h1 : DqAll S xs ds) (h2 : DqAll S ys es) (h : ds.length + es.length ≤ 100000) : xs.length + ys.length ≤ sizeLine := by
  rw [dqa_len h1, dqa_len h2]; exact line_ok h
theorem on_addG : On2 F (addR X.K) addG := fun ρ S σ H x y v u K Q r vx vy g hK => by
  unfold addG at g
  split at g
  · rename_i i j e1 e2
    exact .inl ⟨i, j, int_of vx e1, int_of vy e2, (hK _ g).now r (.int _)⟩
  · split at g
    · rename_i ds es e1 e2
      obtain ⟨a, xs, rfl, h1, h1', h2⟩ := vx.tup r.fr e1
      obtain ⟨b, ys, rfl, k1, k1', k2⟩ := vy.tup r.fr e2
      refine .inr (.inl ⟨a, b, xs, ys, rfl, rfl, .of h1, .of k1, cat_len h2 k2 g.1, fun z => ?_, fun _ z => ?_, fun _ _ p hp => (hK _ g.2).tup r (dqa_app h2 k2) hp⟩)
      · subst z; cases h2; exact (hK _ g.2).now r (Dq.tup k1' k2)
      · subst z
        cases k2
        have q := (hK _ g.2)
        rw [List.append_nil] at q
        exact q.now r (Dq.tup h1' h2)
    · split at g
      · rename_i ds es e1 e2
        obtain ⟨a, xs, rfl, h1, h2⟩ := vx.lst r.fr e1
        obtain ⟨b, ys, rfl, k1, k2⟩ := vy.lst r.fr e2
        exact .inr (.inr ⟨a, b, xs, ys, rfl, rfl, h1, k1, cat_len h2 k2 g.1, fun p hp => (hK _ g.2).lst r (dqa_app h2 k2) hp⟩)
      · exact g.elim
def mulG : G2 := fun x y K => match x.int?, y.int? with
  | some i, some j => okMul i j ∧ K (.im (.int (i * j)))
  | _, _ => match x.lst?, y.int? with
    | some xs, some k => -(2 ^ 63) ≤ k ∧ k < 2 ^ 63 ∧ xs.length * k.toNat ≤ 100000 ∧ K (.ow (List.replicate k.toNat xs).flatten)
    | _, _ => False
theorem mono_mulG : Mono2 mulG := fun x y K K' h g => by
  unfold mulG at g ⊢
  generalize x.int? = a1 at g ⊢
  generalize y.int? = a2 at g ⊢
  generalize x.lst? = a5 at g ⊢
  cases a1 <;> cases a2 <;> cases a5 <;> first | exact g.elim | exact ⟨g.1, h _ g.2⟩ | exact ⟨g.1, g.2.1, g.2.2.1, h _ g.2.2.2⟩
def mulR : R2 := fun x y H Q => rI okMul (fun i j => .int (i * j)) x y H Q ∨ rRep x y H Q
theorem op_mulB : OpR X (binaryOp .Mult) mulR := OpR.or op_mulA op_rep
theorem on_mulG : On2 F mulR mulG := fun ρ S σ H x y v u K Q r vx vy g hK => by
  unfold mulG at g
  split at g
  · rename_i i j e1 e2
    exact .inl ⟨i, j, int_of vx e1, int_of vy e2, g.1, (hK _ g.2).now r (.int _)⟩
  · split at g
    · rename_i ds k e1 e2
      obtain ⟨a, xs, rfl, h1, h2⟩ := vx.lst r.fr e1
      exact .inr ⟨a, k, xs, rfl, int_of vy e2, h1, g.1, g.2.1, by rw [dqa_len h2]; exact line_ok g.2.2.1, fun p hp => (hK _ g.2.2.2).lst r (dqa_rep h2 _) hp⟩
    · exact g.elim

/-! ### == and != -/
def eqG : G2 := fun x y K => got x.dat? fun d => got y.dat? fun e => (d.depth ≤ 60 ∨ e.depth ≤ 60) ∧ K (.im (.bool (PyData.eqv d e)))
def neG : G2 := fun x y K => got x.dat? fun d => got y.dat? fun e => (d.depth ≤ 60 ∨ e.depth ≤ 60) ∧ K (.im (.bool (!PyData.eqv d e)))
theorem mono_eqG : Mono2 eqG := fun x y K K' h g => got_mono (fun i gi => got_mono (fun j gj => ⟨gj.1, h _ gj.2⟩) gi) g
theorem mono_neG : Mono2 neG := fun x y K K' h g => got_mono (fun i gi => got_mono (fun j gj => ⟨gj.1, h _ gj.2⟩) gi) g
def eqR (f : Bool → Bool) : R2 := fun x y H Q => ∃ d e, Dq H x d ∧ Dq H y e ∧ (d.depth ≤ 60 ∨ e.depth ≤ 60) ∧ Q (.bl (f (PyData.eqv d e))) H
theorem room_eq {n : Nat} {d e : D} (h : n + 190 < cLine) (c : d.depth ≤ 60 ∨ e.depth ≤ 60) : n + min d.depth e.depth < cLine := by
  have : min d.depth e.depth ≤ 60 := by rcases c with c | c <;> omega
  omega
theorem op_eqP (hX : Okx X) : OpR X (compareOp .Eq) (eqR id) := by
  intro pins s σ H x y v u Q I rx ry h
  obtain ⟨d, e, hd, he, c, q⟩ := h
  obtain ⟨as, r1⟩ := Dp.reads I d x v (dq_dp hd) rx
  obtain ⟨bs, r2⟩ := Dp.reads I e y u (dq_dp he) ry
  exact SeqAt.eq_plain r1 r2 (dq_plain hd) (dq_plain he) (room_eq hX.room c) ⟨.bl _, H, I, rfl, q⟩
theorem op_neP (hX : Okx X) : OpR X (compareOp .NotEq) (eqR Bool.not) := by
  intro pins s σ H x y v u Q I rx ry h
  obtain ⟨d, e, hd, he, c, q⟩ := h
  obtain ⟨as, r1⟩ := Dp.reads I d x v (dq_dp hd) rx
  obtain ⟨bs, r2⟩ := Dp.reads I e y u (dq_dp he) ry
  exact SeqAt.ne_plain r1 r2 (dq_plain hd) (dq_plain he) (room_eq hX.room c) ⟨.bl _, H, I, rfl, q⟩
theorem on_eqG : On2 F (eqR id) eqG := fun ρ S σ H x y v u K Q r vx vy g hK => by
  obtain ⟨d, e1, g⟩ := got_ex g
  obtain ⟨e, e2, c, k⟩ := got_ex g
  exact ⟨d, e, vx.dat r.fr e1, vy.dat r.fr e2, c, (hK _ k).now r (.bl _)⟩
theorem on_neG : On2 F (eqR Bool.not) neG := fun ρ S σ H x y v u K Q r vx vy g hK => by
  obtain ⟨d, e1, g⟩ := got_ex g
  obtain ⟨e, e2, c, k⟩ := got_ex g
  exact ⟨d, e, vx.dat r.fr e1, vy.dat r.fr e2, c, (hK _ k).now r (.bl _)⟩
theorem flat_eqG : Flat2 F (eqR id) eqG := fun ρ S σ H x y v u K Q r vx vy g hK => by
  obtain ⟨d, e1, g⟩ := got_ex g
  obtain ⟨e, e2, c, k⟩ := got_ex g
  exact ⟨d, e, vx.dat r.fr e1, vy.dat r.fr e2, c, hK _ _ k rfl⟩

/-! ### in, not in -/
def inG (f : Bool → Bool) : G2 := fun x y K => got x.dat? fun d => got y.seq? fun ds => d.depth ≤ 60 ∧ K (.im (.bool (f (ds.any fun z => PyData.eqv z d))))
theorem mono_inG {f} : Mono2 (inG f) := fun x y K K' h g => got_mono (fun i gi => got_mono (fun j gj => ⟨gj.1, h _ gj.2⟩) gi) g
def inR (f : Bool → Bool) : R2 := fun x y H Q => ∃ d ds, Dq H x d ∧ (Dq H y (.list ds) ∨ Dq H y (.tuple ds)) ∧ d.depth ≤ 60 ∧ Q (.bl (f (ds.any fun z => PyData.eqv z d))) H
theorem room_in1 {n a : Nat} {d : D} (h : n + 190 < cLine) (c : d.depth ≤ 60) : n + 1 + min a d.depth < cLine := by
  have : min a d.depth ≤ 60 := by omega
  omega
theorem plain_l {ds : List D} (h : (PyData.list ds).plain = true) : PyData.plainAll ds = true := by simpa only [PyData.plain] using h
theorem plain_t {ds : List D} (h : (PyData.tuple ds).plain = true) : PyData.plainAll ds = true := by simpa only [PyData.plain] using h
theorem op_inP (hX : Okx X) : OpR X (compareOp .In) (inR id) := by
  intro pins s σ H x y v u Q I rx ry h
  obtain ⟨d, ds, hd, he, c, q⟩ := h
  obtain ⟨as, r1⟩ := Dp.reads I d x v (dq_dp hd) rx
  rcases he with he | he
  · obtain ⟨bs, r2⟩ := Dp.reads I _ y u (dq_dp he) ry
    exact SeqAt.in_list_data r2 r1 (plain_l (dq_plain he)) (dq_plain hd) (room_in1 hX.room c) ⟨.bl _, H, I, rfl, q⟩
  · obtain ⟨bs, r2⟩ := Dp.reads I _ y u (dq_dp he) ry
    exact SeqAt.in_tuple_data r2 r1 (plain_t (dq_plain he)) (dq_plain hd) (room_in1 hX.room c) ⟨.bl _, H, I, rfl, q⟩
theorem op_ninP (hX : Okx X) : OpR X (compareOp .NotIn) (inR Bool.not) := by
  intro pins s σ H x y v u Q I rx ry h
  obtain ⟨d, ds, hd, he, c, q⟩ := h
  obtain ⟨as, r1⟩ := Dp.reads I d x v (dq_dp hd) rx
  rcases he with he | he
  · obtain ⟨bs, r2⟩ := Dp.reads I _ y u (dq_dp he) ry
    exact SeqAt.notIn_list_data r2 r1 (plain_l (dq_plain he)) (dq_plain hd) (room_in1 hX.room c) ⟨.bl _, H, I, rfl, q⟩
  · obtain ⟨bs, r2⟩ := Dp.reads I _ y u (dq_dp he) ry
    exact SeqAt.notIn_tuple_data r2 r1 (plain_t (dq_plain he)) (dq_plain hd) (room_in1 hX.room c) ⟨.bl _, H, I, rfl, q⟩
theorem VX.seqD {ρ : List Sl} {S : Hp} {σ : L2.St} {H : Hp} {v : V} {sl : Sl} {ds : List D} (f : Fr F S H) (x : VX F ρ S σ H v sl) (e : sl.seq? = some ds) : Dq H v (.list ds) ∨ Dq H v (.tuple ds) := by
  obtain ⟨a, xs, rfl, h, d⟩ := x.seq f e
  rcases h with h | h
  · exact .inl (.lst h (dqa_up f.sub d))
  · exact .inr (.tup h (dqa_up f.sub d))
theorem on_inG {f} : On2 F (inR f) (inG f) := fun ρ S σ H x y v u K Q r vx vy g hK => by
  obtain ⟨d, e1, g⟩ := got_ex g
  obtain ⟨ds, e2, c, k⟩ := got_ex g
  exact ⟨d, ds, vx.dat r.fr e1, vy.seqD r.fr e2, c, (hK _ k).now r (.bl _)⟩

/-! ### is, is not -/
def isN : Sl → Bool
  | .im .none => true
  | _ => false
def isG (f : Bool → Bool) : G2 := fun x y K => match y with
  | .im .none => K (.im (.bool (f (isN x))))
  | .im (.bool b) => got x.bool? fun a => K (.im (.bool (f (decide (a = b)))))
  | _ => False
theorem mono_isG {f} : Mono2 (isG f) := fun x y K K' h g => by
  unfold isG at g ⊢
  split
  · exact h _ g
  · exact got_mono (fun a k => h _ k) g
  · split at g <;> simp_all
def isR (f : Bool → Bool) : R2 := fun x y H Q => (y = .non ∧ Q (.bl (f (decide (x = .non)))) H) ∨ ∃ a b, x = .bl a ∧ y = .bl b ∧ Q (.bl (f (decide (a = b)))) H
theorem op_isP : OpR X (compareOp .Is) (isR id) := OpR.or op_isN op_isBl
theorem op_isntP : OpR X (compareOp .IsNot) (isR Bool.not) := OpR.or op_notN op_notBl
theorem isN_of {ρ : List Sl} {S : Hp} {σ : L2.St} {H : Hp} {v : V} {sl : Sl} (x : VX F ρ S σ H v sl) : decide (v = .non) = isN sl := by
  cases sl with
  | no => exact x.elim
  | im d =>
    cases d with
    | none => rw [dq_non x]; rfl
    | bool b => rw [dq_bool x]; rfl
    | int b => rw [dq_int x]; rfl
    | str b => cases x; rfl
    | list b => cases x; rfl
    | tuple b => cases x; rfl
    | dict b => cases x
  | ow ds => obtain ⟨a, xs, rfl, _⟩ := x; rfl
  | pk ds => obtain ⟨a, xs, rfl, _⟩ := x; rfl
  | src => obtain ⟨a, xs, _, rfl⟩ := x; rfl
theorem on_isG {f} : On2 F (isR f) (isG f) := fun ρ S σ H x y v u K Q r vx vy g hK => by
  unfold isG at g
  split at g
  · refine .inl ⟨dq_non vy, ?_⟩
    rw [isN_of vx]
    exact (hK _ g).now r (.bl _)
  · obtain ⟨a, e, k⟩ := got_ex g
    exact .inr ⟨a, _, bool_of vx e, dq_bool vy, (hK _ k).now r (.bl _)⟩
  · exact g.elim

/-! ### -a -/
def negG : G1 := fun x K => got x.int? fun i => K (.im (.int (-i)))
theorem mono_negG : Mono1 negG := fun x K K' h g => got_mono (fun i gi => h _ gi) g
theorem on_negG : On1 F (rU fun i => .int (-i)) negG := fun ρ S σ H x v K Q r vx g hK => by
  obtain ⟨i, e1, k⟩ := got_ex g
  exact ⟨i, int_of vx e1, (hK _ k).now r (.int _)⟩

/-! ### subscripts -/
def ixG : G2 := fun x y K => got x.seq? fun ds => got y.int? fun i => got (atI ds i) fun d => K (.im d)
theorem mono_ixG : Mono2 ixG := fun x y K K' h g => got_mono (fun i gi => got_mono (fun j gj => got_mono (fun d gd => h _ gd) gj) gi) g
theorem dqa_atI {S : Hp} {xs : List V} {ds : List D} (h : DqAll S xs ds) {i : Int} {d : D} (e : atI ds i = some d) : ∃ v, atI xs i = some v ∧ Dq S v d := by
  unfold atI at e ⊢
  rw [← dqa_len h] at e
  cases q : ixN xs.length i with
  | none => rw [q] at e; cases e
  | some j =>
    rw [q] at e
    exact dqa_to h e
def ixR (K : PySem.W.Frag) : R2 := fun x y H Q => rIxL K x y H Q ∨ rIxT K x y H Q
theorem ix_A : IxR X (ixR X.K) := ix_list.or ix_tup
theorem on_ixG : On2 F (ixR X.K) ixG := fun ρ S σ H x y v u K Q r vx vy g hK => by
  obtain ⟨ds, e1, g⟩ := got_ex g
  obtain ⟨i, e2, g⟩ := got_ex g
  obtain ⟨d, e3, k⟩ := got_ex g
  obtain ⟨a, xs, rfl, h, hd⟩ := vx.seq r.fr e1
  obtain ⟨z, hz, dz⟩ := dqa_atI hd e3
  rcases h with h | h
  · exact .inl ⟨a, xs, i, z, rfl, int_of vy e2, .of h, hz, (hK _ k).now r dz⟩
  · exact .inr ⟨a, xs, i, z, rfl, int_of vy e2, .of h, hz, (hK _ k).now r dz⟩
theorem d_ix {a b : Expr} {wa wb : WE} {pos : Pos} (ha : PD X F a wa) (hb : PD X F b wb) (hs : PlainIx b) : PD X F (.Subscript a b pos) (w2 ixG wa wb) :=
  ⟨pe_imp (pe_ix ix_A ha.run hb.run hs) (two_run (ta := a) on_ixG ha.mono hb.mono), mono_w2 ha.mono hb.mono mono_ixG⟩

/-! ### slices -/
abbrev WO := List Sl → (Option Int → List Sl → Prop) → Prop
def GotO (F : Fm) (S : Hp) (σ : L2.St) (H : Hp) (Q : Option Int → Hp → Prop) (o : Option Int) (ρ' : List Sl) : Prop := ∀ S' H', Same S S' → GrH F H H' → Rel F ρ' S' σ H' → Q o H'
structure PDO (X : Cx) (F : Fm) (e : Option Expr) (w : WO) : Prop where
  run : ∃ t, PO X e t ∧ ∀ σ H Q, (∃ ρ S, Rel F ρ S σ H ∧ w ρ (GotO F S σ H Q)) → t σ H Q
  mono : Mono3 w
def wO0 : WO := fun ρ Q => Q none ρ
def wO1 (w : WE) : WO := fun ρ Q => w ρ fun x ρ1 => got x.int? fun i => Q (some i) ρ1
theorem o_none : PDO X F none wO0 := ⟨⟨_, po_none, fun σ H Q ⟨ρ, S, r, h⟩ => h S H (Same.refl _) (.refl _ _) r⟩, fun ρ Q Q' h q => h _ _ q⟩
theorem o_some {e : Expr} {w : WE} (h : PD X F e w) : PDO X F (some e) (wO1 w) :=
  ⟨⟨_, po_some h.run, fun σ H Q ⟨ρ, S, r, q⟩ => le_mk h.mono r q fun x ρ1 hx S1 H1 v u1 g1 r1 vx => by
    obtain ⟨i, e, k⟩ := got_ex hx
    exact ⟨i, int_of vx e, k S1 H1 u1 g1 r1⟩⟩, fun ρ Q Q' h' q => h.mono _ _ _ (fun x ρ1 k => got_mono (fun i ki => h' _ _ ki) k) q⟩
def cutD (ds : List D) (lo hi : Option Int) : List D := (ds.drop (HT.sIx ds.length 0 lo)).take (HT.sIx ds.length ds.length hi - HT.sIx ds.length 0 lo)
theorem dqa_cut {S : Hp} {xs : List V} {ds : List D} (h : DqAll S xs ds) (lo hi : Option Int) : DqAll S (cutV xs lo hi) (cutD ds lo hi) := by
  unfold cutV cutD
  rw [dqa_len h]
  exact dqa_take _ (dqa_drop _ h)
def slG (x : Sl) (lo hi : Option Int) (K : Sl → Prop) : Prop := match x.tup? with
  | some ds => K (.im (.tuple (cutD ds lo hi)))
  | none => got x.lst? fun ds => K (.ow (cutD ds lo hi))
def wSl (wa : WE) (wl wh : WO) : WE := fun ρ Q => wa ρ fun x ρ1 => wl ρ1 fun lo ρ2 => wh ρ2 fun hi ρ3 => slG x.calm lo hi fun z => Q z ρ3
theorem mono_slG {x : Sl} {lo hi : Option Int} {K K' : Sl → Prop} (h : ∀ z, K z → K' z) (g : slG x lo hi K) : slG x lo hi K' := by
  unfold slG at g ⊢
  split
  · rename_i ds e; rw [e] at g; exact h _ g
  · rename_i e; rw [e] at g; exact got_mono (fun ds k => h _ k) g
theorem cut_all {S : Hp} {xs : List V} {ds : List D} (hd : DqAll S xs ds) {lo hi : Option Int} (z : HT.sIx xs.length 0 lo = 0 ∧ HT.sIx xs.length xs.length hi = xs.length) : cutD ds lo hi = ds := by
  unfold cutD
  rw [← dqa_len hd, z.1, z.2, List.drop_zero, Nat.sub_zero, dqa_len hd, List.take_length]
theorem d_sl {a : Expr} {lo hi : Option Expr} {wa : WE} {wl wh : WO} {p2 pos : Pos} (ha : PD X F a wa) (hl : PDO X F lo wl) (hh : PDO X F hi wh) : PD X F (.Subscript a (.Slice lo hi none p2) pos) (wSl wa wl wh) := by
  obtain ⟨tl, pl, il⟩ := hl.run
  obtain ⟨th, ph, ih⟩ := hh.run
  refine ⟨pe_imp (pe_slice (sl_list.or sl_tupA) ha.run pl ph) fun σ H Q ⟨ρ, S, rl, h⟩ => ?_, fun ρ Q Q' h q => ha.mono _ _ _ (fun x ρ1 k1 => hl.mono _ _ _ (fun lo ρ2 k2 => hh.mono _ _ _ (fun hi ρ3 k3 => mono_slG (fun z kz => h _ _ kz) k3) k2) k1) q⟩
  refine le_mk ha.mono rl h fun x ρ1 hx S1 H1 v u1 g1 r1 vx => ?_
  refine il σ H1 _ ⟨ρ1, S1, r1, hl.mono _ _ _ (fun lo ρ2 hlo S2 H2 u2 g2 r2 => ?_) hx⟩
  refine ih σ H2 _ ⟨ρ2, S2, r2, hh.mono _ _ _ (fun hi ρ3 hhi S3 H3 u3 g3 r3 => ?_) hlo⟩
  have vx' := vx.stay (ρ' := ρ3) r1.fr (u2.trans u3) (g2.trans g3)
  have up : ∀ {z}, Got F S σ H Q z ρ3 → Got F S3 σ H3 Q z ρ3 := fun k => k.up (u1.trans (u2.trans u3)) (g1.trans (g2.trans g3))
  unfold slG at hhi
  split at hhi
  · rename_i ds e
    obtain ⟨b, xs, rfl, h1, h1', hd⟩ := vx'.tup r3.fr e
    refine .inr ⟨b, xs, rfl, .of h1, fun z => ?_, fun _ p hp => (up hhi).tup r3 (dqa_cut hd _ _) hp⟩
    rw [cut_all hd z] at hhi
    exact (up hhi).now r3 (Dq.tup h1' hd)
  · obtain ⟨ds, e, k⟩ := got_ex hhi
    obtain ⟨b, xs, rfl, h1, hd⟩ := vx'.lst r3.fr e
    exact .inl ⟨b, xs, rfl, .of h1, fun p hp => (up k).lst r3 (dqa_cut hd _ _) hp⟩
/-- a[::-1] of a list -/
def revG : G1 := fun x K => got x.lst? fun ds => K (.ow ds.reverse)
theorem mono_revG : Mono1 revG := fun x K K' h g => got_mono (fun i gi => h _ gi) g
theorem d_revL {a : Expr} {wa : WE} {k : Nat} {p1 p2 p3 pos : Pos} (ha : PD X F a wa) : PD X F (.Subscript a (.Slice none none (some (.UnaryOp .USub (.Constant (.int 1) k p1) p2)) p3) pos) (w1 revG wa) := by
  refine ⟨pe_imp (pe_revL ha.run) fun σ H Q ⟨ρ, S, rl, h⟩ => le_mk ha.mono rl h fun x ρ1 hx S1 H1 v u1 g1 r1 vx => ?_, mono_w1 ha.mono mono_revG⟩
  obtain ⟨ds, e, q⟩ := got_ex hx
  obtain ⟨b, xs, rfl, h1, hd⟩ := vx.lst r1.fr e
  exact ⟨b, xs, rfl, .of h1, fun p hp => (q.up u1 g1).lst r1 (dqa_rev hd) hp⟩
end
end DL

set_option Elab.async false
set_option linter.all false
set_option maxRecDepth 100000
namespace DL
open PySem PySem.Spec PyProof.Rows L2
/-! ### enumerate of a list or a tuple, from any count -/
set_option maxHeartbeats 2000000 in
theorem meets_enum1 {v : Value} {o : Obj} {H : Heap → Prop} (B : Begins v o H) :
    Meets (Builtin.«enumerate.__new__» ⟨[.type "enumerate", v], []⟩) (fun _ R s => H s.heap ∧
      R (.ok (.ret (.ref (s.heap.push o).objs.size))) { s with heap := (s.heap.push o).push { cls := .type "enumerate", data := .fields #[.none, .bool false, .ref s.heap.objs.size, rawInt 0, .none, .none] } }) := by
  refine .of_wp fun prog w A R s ha => ?_
  obtain ⟨hp, gg, dd, tk, os⟩ := s
  obtain ⟨hb, ha⟩ := ha
  have hsub := sub_enumerate
  have go : ∀ {A' : Around} {E : Value → Shared → Prop} {Q : Value → Shared → Prop}, Q (.ref hp.objs.size) ⟨hp.push o, gg, dd, tk, os⟩ → wpAny (model prog w) A' (pyIter v) Q E ⟨hp, gg, dd, tk, os⟩ := fun q =>
    B.iter prog w _ _ ⟨hp, gg, dd, tk, os⟩ _ hb q
  wp_walk using go
  refine wpAny_stack_any fun st => wpAny_pure ?_
  split
  · rename_i c _ _ _ _ _
    cases (c == Value.type "enumerate") <;> (wp_walk using go; exact ⟨_, rfl, ha⟩)
  · wp_walk using go
    exact ⟨_, rfl, ha⟩

section
variable {P : Program} {w : World} {A : Around} {E : Value → Shared → Prop} {s : Shared}
theorem enum_begins1 {v : Value} {o : Obj} {H : Heap → Prop} {Q : Value → Shared → Prop} (B : Begins v o H) (hb : H s.heap)
    (h : ∀ g, IsEnum g (s.heap.objs.size + 1) s.heap.objs.size 0 .none → g.get? s.heap.objs.size = some o → (∀ b x, s.heap.get? b = some x → g.get? b = some x) → Q (.ref (s.heap.objs.size + 1)) { s with heap := g }) :
    wpAny (model P w) A (call (.type "enumerate") [v]) Q E s := by
  have size1 : (s.heap.push o).objs.size = s.heap.objs.size + 1 := Heap.size_push ..
  refine callType_new F.called_enumerate (by decide) (F.typeCall_enumerate_1 _) (F.newCall_enumerate_1 _) (fun ob => F.args_object_init_2 ob _) F.entry_enumerate_new (meets_enum1 B) ⟨hb, ?_⟩
  show _ ∧ _
  rw [size1]
  have last := Heap.get?_push_size (s.heap.push o) (o := { cls := .type "enumerate", data := .fields #[.none, .bool false, .ref s.heap.objs.size, rawInt 0, .none, .none] }) rfl
  rw [size1] at last
  exact ⟨⟨_, last, rfl⟩, h _ last (Heap.get?_push_of_some _ (Heap.get?_push_size _ B.free)) fun b x q => Heap.get?_push_of_some _ (Heap.get?_push_of_some _ q)⟩
end

/-- the items of a list or a tuple that stands at a -/
def SqA (K : PySem.W.Frag) (H : Hp) (a : Addr) (xs : List V) : Prop := SqL K H a xs ∨ SqT K H a xs
/-- pairs of a count from k on and an item -/
def ItE (rd : Hp → List V → Prop) (k : Int) : It :=
  ⟨fun i H => ∃ (xs : List V) (x : V), rd H xs ∧ xs[i]? = some x,
   fun i H v H' => ∃ T x, v = .ref T ∧ H T = none ∧ H' = upd H T (.tup [.int (k + (i : Nat)), x]) ∧ ∀ xs, rd H xs → xs[i]? = some x,
   fun i H => ∃ xs : List V, rd H xs ∧ xs.length ≤ i⟩
theorem enum_step {X : Cx} {pins : List (Addr × Obj)} {σ : L2.St} {H : Hp} {s : Shared} {E : Value → Shared → Prop} {elts : List Expr} {kk : Nat} {tpos : Pos} {e it : Addr} {fp : List Addr} {n i : Nat} {k : Int} {Pv : Nat → Value → Prop} {St : Nat → Heap → Prop} {old : Value} {rd : Hp → List V → Prop}
    (I : Inv X pins σ H s) (hf : ∀ b ∈ [e, it], FpOk X pins H b) (D : Draws X.prog X.w X.A.in1 it fp n Pv St) (he : IsEnum s.heap e it (k + (i : Nat)) old) (hst : St i s.heap) (hi : i < n) (hne : e ≠ it) (hef : e ∉ fp)
    {xs : List V} (hr : rd H xs) (inj : ∀ ys, rd H ys → ys = xs) (hv : ∀ u, Pv i u → ∃ x, xs[i]? = some x ∧ RelV x u) {tn : Heap → Prop} (keep : ∀ h, St (i + 1) h → tn h) (kin : ∀ h h', St (i + 1) h → (∀ b, b ≠ e → h'.get? b = h.get? b) → St (i + 1) h') :
    wpAny (model X.prog X.w) X.A (pyNext (.ref e)) (fun r s1 => ∃ u, r = some u ∧
      wpAny (model X.prog X.w) X.A (letOwnedTupleGo (.Tuple elts kk tpos) (.ref e) u) (fun _ s2 => ∃ x H', Inv X pins σ H' s2 ∧ RelV x u ∧ (ItE rd k).yld i H x H' ∧ ((∃ old, IsEnum s2.heap e it (k + ((i + 1 : Nat) : Int)) old) ∧ tn s2.heap) ∧ ∀ b ∈ [e, it], H' b = none) E s1) E s := by
  have el : e < s.heap.objs.size := Heap.lt_size he
  have itl : it < s.heap.objs.size := by obtain ⟨_, q⟩ := D.live _ _ hst; exact Heap.lt_size q
  refine wpAny_pyNext_enum_itemC D he hst hi hne hef fun u g tk hu ho st' hT hz hk => ?_
  obtain ⟨x, hx, rx⟩ := hv u hu
  refine ⟨_, rfl, wpAny_letOwnedTupleGo_enum (s := { s with heap := g, toks := tk + 1 }) ho fun g2 he2 sb => ?_⟩
  have hT2 : g2.get? s.heap.objs.size = some { cls := .type "tuple", data := .seq #[.int (k + (i : Nat)) tk, u] } := (sb.2 _ (Nat.ne_of_gt el)).trans hT
  have new : ObjOk X.prog X.w (upd H s.heap.objs.size (.tup [.int (k + (i : Nat)), x])) g2 s.heap.objs.size (.tup [.int (k + (i : Nat)), x]) :=
    ⟨by show 2 ≤ sizeLine; decide, [.int (k + (i : Nat)) tk, u], .cons ⟨_, rfl⟩ (.cons rx .nil), ⟨_, hT2, rfl, _, rfl⟩⟩
  have I1 := I.turnedNew (t' := tk + 1) (ch := [e, it]) (h' := g2) (fun b ob hb q => (sb.2 b (fun z => hb (by simp [z]))).trans (hk b ob (fun z => hb (by simp [z])) (fun z => hb (by simp [z])) q)) hf (Nat.le_refl _) new
  refine ⟨.ref s.heap.objs.size, _, I1, rfl, ⟨_, x, rfl, I.hok.fresh (Nat.le_refl _), rfl, fun ys hy => by rw [inj ys hy]; exact hx⟩, ⟨⟨u, ?_⟩, keep _ (kin _ _ st' fun b hb => sb.2 b hb)⟩, fun b hb => ?_⟩
  · have e1 : k + ((i + 1 : Nat) : Int) = k + (i : Nat) + 1 := by omega
    rw [e1]; exact he2
  · have lt : b < s.heap.objs.size := by
      rcases List.mem_cons.mp hb with z | z
      · rw [z]; exact el
      · rw [List.mem_singleton.mp z]; exact itl
    rw [upd_ne (Nat.ne_of_lt lt)]
    exact (hf b hb).1
theorem turn_enumT {P : Program} {w : World} {K : PySem.W.Frag} {elts : List Expr} {kk : Nat} {tpos : Pos} (a e it : Addr) (k : Int) (ht : it ≠ a) (hea : e ≠ a) :
    Turn P w K (.Tuple elts kk tpos) (ItE (fun H xs => SqT K H a xs) k) [e, it] e (fun i h => (∃ old, IsEnum h e it (k + (i : Nat)) old) ∧ h.IsTupleIter it a i ∧ e ≠ it) where
  mem := by simp
  obj := fun i h st b hb => by
    obtain ⟨⟨old, he⟩, ⟨o, ho, hc, hd⟩, _⟩ := st
    rcases List.mem_cons.mp hb with z | z
    · rw [z]; exact ⟨_, he, fun v q => nomatch q⟩
    · rw [List.mem_singleton.mp z]; exact ⟨o, ho, fun v q => by rw [hd] at q; cases q⟩
  keep := fun i h h' st kp => let ⟨⟨old, he⟩, hi, hne⟩ := st; ⟨⟨old, kp e (by simp) _ he⟩, hi.at fun o q => kp it (by simp) o q, hne⟩
  item := by
    intro X hP hw hK hc i pins s σ H E I hf st hg
    subst hP hw hK
    obtain ⟨⟨old, he⟩, hit, hne⟩ := st
    obtain ⟨xs, x, hq, hx⟩ := hg
    obtain ⟨its, rv, p, hz⟩ := I.tuple hq
    have lenx := rv.length
    have hlt : i < its.toArray.size := by
      rw [List.size_toArray, ← lenx]
      exact (List.getElem?_eq_some_iff.mp hx).1
    have D := Draws.tuple (prog := X.prog) (w := X.w) (A := X.A.in1) (I.ok.hd hc) it a (Ne.symm ht) its.toArray
    refine enum_step (elts := elts) (kk := kk) (tpos := tpos) (fp := [it, a]) (St := fun i h => h.IsTupleIter it a i ∧ h.IsTuple a its.toArray) (rd := fun H xs => SqT X.K H a xs) (tn := fun h => h.IsTupleIter it a (i + 1) ∧ e ≠ it) I hf
      D he ⟨hit, p⟩ hlt hne (by simp [hne, hea]) hq (fun ys hy => I.tuple_inj hy hq) (fun u hu => ?_) (fun h hs => ⟨hs.1, hne⟩) (fun h h' hs eq => ⟨hs.1.at fun o q => (eq it (Ne.symm hne)).trans q, hs.2.at fun o q => (eq a (Ne.symm hea)).trans q⟩)
    obtain ⟨u', hu', ru⟩ := rv.get hx
    have e1 : u = u' := by simp at hu; exact Option.some.inj (hu.symm.trans hu')
    rw [e1]
    exact ⟨x, hx, ru⟩
  done := by
    intro X hP hw hK hc i pins s σ H E I hf st hg
    subst hP hw hK
    obtain ⟨⟨old, he⟩, hit, hne⟩ := st
    obtain ⟨xs, hq, hx⟩ := hg
    obtain ⟨its, rv, p, hz⟩ := I.tuple hq
    obtain ⟨f0, f1, f2, f3, f4, f5⟩ := hf it (by simp)
    have lenx := rv.length
    have D := Draws.tuple (prog := X.prog) (w := X.w) (A := X.A.in1) (I.ok.hd hc) it a (Ne.symm ht) its.toArray
    by_cases h : i = its.toArray.size
    · subst h
      exact wpAny_pyNext_enum_endD D he ⟨hit, p⟩ fun h' eb => ⟨rfl, I.turned (t' := s.toks) (fun b o hb q => eb b o hb q) f0 f1 f3 f4 f5⟩
    · have D' : Draws X.prog X.w X.A.in1 it [it, a] i (fun j v => its.toArray[j]? = some v ∧ j < i ∧ False) (fun j h => j = i ∧ h.IsTupleIter it a i ∧ h.IsTuple a its.toArray) :=
        ⟨fun j h st => D.live i h st.2, fun j h h' st hk => ⟨st.1, D.frame i h h' st.2 hk⟩, fun j s Q E hj st hQ => absurd st.1 (by omega), fun s Q E st hE => by
          refine wpAny_nextOf_tuple_end (I.ok.hd hc) st.2.1 st.2.2 (by simp; omega) hE⟩
      exact wpAny_pyNext_enum_endD D' he ⟨rfl, hit, p⟩ fun h' eb => ⟨rfl, I.turned (t' := s.toks) (fun b o hb q => eb b o hb q) f0 f1 f3 f4 f5⟩
  self := fun A i s Q E st h => let ⟨⟨_, he⟩, _⟩ := st; wpAny_pyIter_enum he h
theorem turn_enumL {P : Program} {w : World} {K : PySem.W.Frag} {elts : List Expr} {kk : Nat} {tpos : Pos} (a e it : Addr) (k : Int) (ht : it ≠ a) (hea : e ≠ a) :
    Turn P w K (.Tuple elts kk tpos) (ItE (fun H xs => SqL K H a xs) k) [e, it] e (fun i h => (∃ old, IsEnum h e it (k + (i : Nat)) old) ∧ h.IsListIter it a i ∧ e ≠ it) where
  mem := by simp
  obj := fun i h st b hb => by
    obtain ⟨⟨old, he⟩, ⟨o, ho, hc, hd⟩, _⟩ := st
    rcases List.mem_cons.mp hb with z | z
    · rw [z]; exact ⟨_, he, fun v q => nomatch q⟩
    · rw [List.mem_singleton.mp z]; exact ⟨o, ho, fun v q => by rw [hd] at q; cases q⟩
  keep := fun i h h' st kp => let ⟨⟨old, he⟩, hi, hne⟩ := st; ⟨⟨old, kp e (by simp) _ he⟩, hi.at fun o q => kp it (by simp) o q, hne⟩
  item := by
    intro X hP hw hK hc i pins s σ H E I hf st hg
    subst hP hw hK
    obtain ⟨⟨old, he⟩, hit, hne⟩ := st
    obtain ⟨xs, x, hq, hx⟩ := hg
    obtain ⟨its, rv, p, hz⟩ := I.list hq
    have lenx := rv.length
    have hlt : i < its.toArray.size := by
      rw [List.size_toArray, ← lenx]
      exact (List.getElem?_eq_some_iff.mp hx).1
    have D := Draws.list (prog := X.prog) (w := X.w) (A := X.A.in1) (I.ok.hd hc) it a (Ne.symm ht) its.toArray
    refine enum_step (elts := elts) (kk := kk) (tpos := tpos) (fp := [it, a]) (St := fun i h => h.IsListIter it a i ∧ h.IsList a its.toArray) (rd := fun H xs => SqL X.K H a xs) (tn := fun h => h.IsListIter it a (i + 1) ∧ e ≠ it) I hf
      D he ⟨hit, p.isList⟩ hlt hne (by simp [hne, hea]) hq (fun ys hy => I.list_inj hy hq) (fun u hu => ?_) (fun h hs => ⟨hs.1, hne⟩) (fun h h' hs eq => ⟨hs.1.at fun o q => (eq it (Ne.symm hne)).trans q, hs.2.at fun o q => (eq a (Ne.symm hea)).trans q⟩)
    obtain ⟨u', hu', ru⟩ := rv.get hx
    have e1 : u = u' := by simp at hu; exact Option.some.inj (hu.symm.trans hu')
    rw [e1]
    exact ⟨x, hx, ru⟩
  done := by
    intro X hP hw hK hc i pins s σ H E I hf st hg
    subst hP hw hK
    obtain ⟨⟨old, he⟩, hit, hne⟩ := st
    obtain ⟨xs, hq, hx⟩ := hg
    obtain ⟨its, rv, p, hz⟩ := I.list hq
    obtain ⟨f0, f1, f2, f3, f4, f5⟩ := hf it (by simp)
    have lenx := rv.length
    have D := Draws.list (prog := X.prog) (w := X.w) (A := X.A.in1) (I.ok.hd hc) it a (Ne.symm ht) its.toArray
    have D' : Draws X.prog X.w X.A.in1 it [it, a] i (fun j v => its.toArray[j]? = some v ∧ j < i ∧ False) (fun j h => j = i ∧ h.IsListIter it a i ∧ h.IsList a its.toArray) :=
      ⟨fun j h st => D.live i h st.2, fun j h h' st hk => ⟨st.1, D.frame i h h' st.2 hk⟩, fun j s Q E hj st hQ => absurd st.1 (by omega), fun s Q E st hE => by
        refine wpAny_nextOf_list_end (I.ok.hd hc) st.2.1 st.2.2 (by simp; omega) hE⟩
    exact wpAny_pyNext_enum_endD D' he ⟨rfl, hit, p.isList⟩ fun h' eb => ⟨rfl, I.turned (t' := s.toks) (fun b o hb q => eb b o hb q) f0 f1 f3 f4 f5⟩
  self := fun A i s Q E st h => let ⟨⟨_, he⟩, _⟩ := st; wpAny_pyIter_enum he h
end DL

set_option Elab.async false
set_option linter.all false
set_option maxRecDepth 100000
namespace DL
open PySem PySem.Spec PyProof.Rows L2

/-! ### statements -/
structure DE where
  nx : List Sl → Prop
  rt : D → Prop
  bk : List Sl → Prop := fun _ => False
  ct : List Sl → Prop := fun _ => False
abbrev WS := DE → List Sl → Prop
def GotS (F : Fm) (S : Hp) (P : L2.St → Hp → Prop) (ρ' : List Sl) : Prop := ∀ S' σ' H', Same S S' → Rel F ρ' S' σ' H' → P σ' H'
def GotR (F : Fm) (S : Hp) (P : VK) (d : D) : Prop := ∀ S' H' v, Same S S' → Fr F S' H' → Dq S' v d → P v H'
def lowE (F : Fm) (S : Hp) (D : Ends) : DE := ⟨GotS F S D.nx, GotR F S D.rt, GotS F S D.bk, GotS F S D.ct⟩
structure DE.le (D D' : DE) : Prop where
  nx : ∀ ρ, D.nx ρ → D'.nx ρ
  rt : ∀ d, D.rt d → D'.rt d
  bk : ∀ ρ, D.bk ρ → D'.bk ρ
  ct : ∀ ρ, D.ct ρ → D'.ct ρ
theorem DE.le.refl (D : DE) : D.le D := ⟨fun _ h => h, fun _ h => h, fun _ h => h, fun _ h => h⟩
def MonoS (w : WS) : Prop := ∀ D D' ρ, D.le D' → w D ρ → w D' ρ
def lS (F : Fm) (w : WS) : TS := fun D σ H => ∃ ρ S, Rel F ρ S σ H ∧ w (lowE F S D) ρ
structure PSD (X : Cx) (F : Fm) (st : Stmt) (w : WS) : Prop where
  run : PS X st (lS F w)
  mono : MonoS w
structure PSsD (X : Cx) (F : Fm) (st : List Stmt) (w : WS) : Prop where
  run : PSs X st (lS F w)
  mono : MonoS w
theorem ps_imp {X : Cx} {e : Stmt} {t t' : TS} (h : PS X e t) (i : ∀ D σ H, t' D σ H → t D σ H) : PS X e t' := ⟨fun pins s σ H D I q => h.run pins s σ H D I (i D σ H q)⟩
theorem pss_imp {X : Cx} {e : List Stmt} {t t' : TS} (h : PSs X e t) (i : ∀ D σ H, t' D σ H → t D σ H) : PSs X e t' := ⟨fun pins s σ H D I q => h.run pins s σ H D I (i D σ H q)⟩
section
variable {X : Cx} {F : Fm} {ρ ρ' : List Sl} {S S' : Hp} {σ σ' : L2.St} {H H' : Hp}
theorem GotS.up {P : L2.St → Hp → Prop} (h : GotS F S P ρ) (s : Same S S') : GotS F S' P ρ := fun S2 σ2 H2 a r => h S2 σ2 H2 (s.trans a) r
theorem GotR.up {P : VK} {d : D} (h : GotR F S P d) (s : Same S S') : GotR F S' P d := fun S2 H2 v a r q => h S2 H2 v (s.trans a) r q
theorem low_up {D : Ends} (s : Same S S') : (lowE F S D).le (lowE F S' D) := ⟨fun _ h => h.up s, fun _ h => h.up s, fun _ h => h.up s, fun _ h => h.up s⟩
theorem GotS.now {P : L2.St → Hp → Prop} (h : GotS F S P ρ) (r : Rel F ρ S σ H) : P σ H := h S σ H (Same.refl _) r

def wNx : WS := fun D ρ => D.nx ρ
def wSq (a b : WS) : WS := fun D ρ => a { D with nx := fun ρ' => b D ρ' } ρ
theorem s_nil : PSsD X F [] wNx := ⟨pss_imp pss_nil fun D σ H ⟨ρ, S, r, h⟩ => GotS.now h r, fun D D' ρ l h => l.nx _ h⟩
theorem s_cons {st : Stmt} {rest : List Stmt} {a b : WS} (h1 : PSD X F st a) (h2 : PSsD X F rest b) : PSsD X F (st :: rest) (wSq a b) := by
  refine ⟨pss_imp (pss_cons h1.run h2.run) fun D σ H ⟨ρ, S, r, h⟩ => ?_, fun D D' ρ l h => ?_⟩
  · have h' : a { lowE F S D with nx := fun ρ' => b (lowE F S D) ρ' } ρ := h
    exact ⟨ρ, S, r, h1.mono { lowE F S D with nx := fun ρ' => b (lowE F S D) ρ' } (lowE F S { D with nx := lS F b D }) ρ ⟨fun ρ' q => fun S' σ' H' u r' => ⟨ρ', S', r', h2.mono (lowE F S D) (lowE F S' D) _ (low_up u) q⟩, fun _ q => q, fun _ q => q, fun _ q => q⟩ h'⟩
  exact h1.mono { D with nx := fun ρ' => b D ρ' } { D' with nx := fun ρ' => b D' ρ' } ρ ⟨fun ρ' q => h2.mono D D' _ l q, l.rt, l.bk, l.ct⟩ h
theorem s_one {st : Stmt} {a : WS} (h : PSD X F st a) : PSsD X F [st] a := ⟨pss_one h.run, h.mono⟩

/-! ### stores -/
/-- what a slot may take -/
def Sl.sto? : Sl → Option Sl
  | .im d => some (.im d)
  | .ow ds => some (.ow ds)
  | .src => some .src
  | _ => none
@[simp] theorem sto_i (d : D) : Sl.sto? (.im d) = some (.im d) := rfl
@[simp] theorem sto_o (ds : List D) : Sl.sto? (.ow ds) = some (.ow ds) := rfl
@[simp] theorem sto_s : Sl.sto? .src = some .src := rfl
theorem Rel.put (r : Rel F ρ S σ H) {v : V} {sl y : Sl} (x : VX F ρ S σ H v sl) (e : sl.sto? = some y) (i : Nat) : Rel F (ρ.set i y) S (σ.set i (some v)) H := by
  have ey : sl = y := by cases sl <;> cases e <;> rfl
  subst ey
  refine ⟨by rw [List.length_set, List.length_set]; exact r.len, r.fr, fun j sl' q => ?_, fun j k ds es q1 q2 q => ?_⟩
  · by_cases hj : i = j
    · subst hj
      by_cases hi : i < ρ.length
      · rw [List.getElem?_set_self hi] at q
        rw [List.getElem?_set_self (by rw [← r.len]; exact hi)]
        simp only [Option.some.injEq] at q
        subst q
        cases sl with
        | no => trivial
        | im d => exact ⟨v, rfl, x⟩
        | ow ds => obtain ⟨a, xs, rfl, h1, h2, h3, h4, _⟩ := x; exact ⟨a, xs, rfl, h1, h2, h3, h4⟩
        | pk ds => cases e
        | src => obtain ⟨p, c, h1, rfl⟩ := x; exact ⟨p, c, h1, rfl⟩
      · rw [List.getElem?_eq_none (by rw [List.length_set]; omega)] at q; cases q
    · rw [List.getElem?_set_ne hj] at q
      rw [List.getElem?_set_ne hj]
      exact r.slots j sl' q
  · have old : ∀ {m : Nat} {fs : List D}, m ≠ i → (ρ.set i sl)[m]? = some (.ow fs) → ρ[m]? = some (.ow fs) := fun hm q => by rwa [List.getElem?_set_ne (Ne.symm hm)] at q
    have new : ∀ {m : Nat} {fs gs : List D}, m ≠ i → (ρ.set i sl)[m]? = some (.ow fs) → (ρ.set i sl)[i]? = some (.ow gs) → (σ.set i (some v))[i]? = (σ.set i (some v))[m]? → False := fun {m fs gs} hm q1 q2 q => by
      have hi : i < ρ.length := by
        have := (List.getElem?_eq_some_iff.mp q2).1
        rwa [List.length_set] at this
      rw [List.getElem?_set_self hi] at q2
      simp only [Option.some.injEq] at q2
      subst q2
      obtain ⟨a, xs, rfl, _, _, _, _, h5⟩ := x
      rw [List.getElem?_set_self (by rw [← r.len]; exact hi), List.getElem?_set_ne (Ne.symm hm)] at q
      exact h5 m fs (old hm q1) q.symm
    by_cases hj : j = i
    · by_cases hk : k = i
      · rw [hj, hk]
      · subst hj; exact (new hk q2 q1 q).elim
    · by_cases hk : k = i
      · subst hk; exact (new hj q1 q2 q.symm).elim
      · refine r.apart j k ds es (old hj q1) (old hk q2) ?_
        rwa [List.getElem?_set_ne (Ne.symm hj), List.getElem?_set_ne (Ne.symm hk)] at q
theorem Rel.putD (r : Rel F ρ S σ H) {v : V} {d : D} (x : Dq S v d) (i : Nat) : Rel F (ρ.set i (.im d)) S (σ.set i (some v)) H := r.put (sl := .im d) x rfl i
/-- an owned list gets other items -/
theorem Rel.items (r : Rel F ρ S σ H) {i : Nat} {ds es : List D} {a : Addr} {ys : List V} (e : ρ[i]? = some (.ow ds)) (hs : σ[i]? = some (some (.ref a))) (hd : DqAll S ys es) : Rel F (ρ.set i (.ow es)) S σ (upd H a (.lst ys)) := by
  obtain ⟨a', xs, e1, e2, e3, e4, e5⟩ := r.slots i _ e
  rw [hs] at e1
  cases e1
  have hi : i < ρ.length := (List.getElem?_eq_some_iff.mp e).1
  have nS : ∀ b o, S b = some o → b ≠ a := fun b o q z => by subst z; rw [e3] at q; cases q
  have ns : ¬ F.isS a := fun z => r.fr.srcH a z e4
  refine ⟨by rw [List.length_set]; exact r.len, ⟨fun b o q => by rw [upd_ne (nS b o q)]; exact r.fr.sub b o q, r.fr.up, r.fr.out, fun b o q n => ?_, fun p c q => ?_, r.fr.srcH⟩, fun j sl q => ?_, fun j k fs gs q1 q2 q => ?_⟩
  · have z : b ≠ a := fun z => by subst z; rw [e4] at q; cases q
    rw [upd_ne z]; exact r.fr.keep b o q n
  · obtain ⟨⟨h0, l, m, t, cs, h1, h2, h3⟩, n1, n2⟩ := r.fr.src p c q
    have z1 : p ≠ a := fun z => ns ⟨p, c, q, .inl z.symm⟩
    have z2 : c ≠ a := fun z => ns ⟨p, c, q, .inr z.symm⟩
    exact ⟨⟨h0, l, m, t, cs, by rw [upd_ne z1]; exact h1, by rw [upd_ne z2]; exact h2, h3⟩, n1, n2⟩
  · by_cases hj : i = j
    · subst hj
      rw [List.getElem?_set_self hi] at q
      cases q
      exact ⟨a, ys, hs, upd_same, e3, e4, hd⟩
    · rw [List.getElem?_set_ne hj] at q
      have w := r.slots j sl q
      cases sl with
      | no => trivial
      | im d => exact w
      | ow fs =>
        obtain ⟨a', xs', w1, w2, w3, w4, w5⟩ := w
        have z : a' ≠ a := fun z => by subst z; exact hj (r.apart i j _ _ e q (hs.trans w1.symm))
        exact ⟨a', xs', w1, by rw [upd_ne z]; exact w2, w3, w4, w5⟩
      | pk _ => exact w
      | src => exact w
  · have back : ∀ {m : Nat} {us : List D}, (ρ.set i (.ow es))[m]? = some (.ow us) → ∃ us', ρ[m]? = some (.ow us') := fun {m us} q => by
      by_cases hm : i = m
      · subst hm; exact ⟨_, e⟩
      · rw [List.getElem?_set_ne hm] at q; exact ⟨_, q⟩
    obtain ⟨_, b1⟩ := back q1
    obtain ⟨_, b2⟩ := back q2
    exact r.apart j k _ _ b1 b2 q

/-- data that is handed on -/
def Sl.shd? : Sl → Option D
  | .im d => some d
  | .ow ds => some (.list ds)
  | _ => none
@[simp] theorem shd_i (d : D) : Sl.shd? (.im d) = some d := rfl
@[simp] theorem shd_o (ds : List D) : Sl.shd? (.ow ds) = some (.list ds) := rfl
theorem VX.shd {v : V} {sl : Sl} {d : D} (r : Rel F ρ S σ H) (x : VX F ρ S σ H v sl) (e : sl.shd? = some d) : ∃ S', Same S S' ∧ Rel F ρ S' σ H ∧ Dq S' v d := by
  cases sl with
  | im d' => exact x.share r (fun _ z => nomatch z) e
  | ow ds => exact x.share r (fun _ z => nomatch z) e
  | _ => cases e

/-- name = e -/
def wSet (i : Nat) (w : WE) : WS := fun D ρ => w ρ fun x ρ1 => got x.sto? fun y => D.nx (ρ1.set i y)
theorem mono_wSet {i : Nat} {w : WE} (m : Mono3 w) : MonoS (wSet i w) := fun D D' ρ l h => m _ _ _ (fun x ρ1 k => got_mono (fun y ky => l.nx _ ky) k) h
theorem set_run {i : Nat} {w : WE} (m : Mono3 w) : ∀ D σ H, lS F (wSet i w) D σ H → tAsg (lE F w) (gName i) D σ H := fun D σ H ⟨ρ, S, rl, h⟩ =>
  le_mk m rl h fun x ρ1 hx S1 H1 v u1 g1 r1 vx => by
    obtain ⟨y, e, q⟩ := got_ex hx
    exact q S1 _ H1 u1 (r1.put vx e i)
theorem d_set {i : Nat} {x : Str} {e : Expr} {w : WE} {pos pos' : Pos} (hN : X.N.Nodup) (hi : X.N[i]? = some x) (hx : Loc X.env.scope x) (he : PD X F e w) (hs : swapsWith e (some (.Name x pos')) pos.line X.env = pure false := by rfl) (hf : X.fn x = true ∨ X.env.scope.names.lookup x = some .local := by first | exact .inl rfl | exact .inr rfl | assumption) :
    PSD X F (.Assign [.Name x pos'] e pos) (wSet i w) :=
  ⟨ps_imp (ps_set hN hi hx he.run hs hf) (set_run he.mono), mono_wSet he.mono⟩

/-! ### targets -/
abbrev TGD := D → List Sl → (List Sl → Prop) → Prop
abbrev TGDs := List D → List Sl → (List Sl → Prop) → Prop
/-- only the slots ts are stored to -/
def Only (ts : List Nat) (σ σ' : L2.St) : Prop := σ'.length = σ.length ∧ ∀ i, i ∉ ts → σ'[i]? = σ[i]?
theorem Only.refl (ts : List Nat) (σ : L2.St) : Only ts σ σ := ⟨rfl, fun _ _ => rfl⟩
theorem Only.trans {ts us : List Nat} {σ σ1 σ2 : L2.St} (a : Only ts σ σ1) (b : Only us σ1 σ2) : Only (ts ++ us) σ σ2 :=
  ⟨b.1.trans a.1, fun i hi => (b.2 i fun z => hi (List.mem_append_right _ z)).trans (a.2 i fun z => hi (List.mem_append_left _ z))⟩
def lG (F : Fm) (ts : List Nat) (g : TGD) : TG := fun v σ H Q => ∃ ρ S d, Rel F ρ S σ H ∧ Dq S v d ∧ g d ρ fun ρ' => ∀ σ', Only ts σ σ' → Rel F ρ' S σ' H → Q σ' H
def lGs (F : Fm) (ts : List Nat) (g : TGDs) : TGs := fun vs σ H Q => ∃ ρ S ds, Rel F ρ S σ H ∧ DqAll S vs ds ∧ g ds ρ fun ρ' => ∀ σ', Only ts σ σ' → Rel F ρ' S σ' H → Q σ' H
structure PGD (X : Cx) (F : Fm) (ts : List Nat) (t : Expr) (g : TGD) : Prop where
  run : PG X t (lG F ts g)
  mono : ∀ d ρ Q Q', (∀ ρ', Q ρ' → Q' ρ') → g d ρ Q → g d ρ Q'
structure PGDs (X : Cx) (F : Fm) (ts : List Nat) (t : List Expr) (g : TGDs) : Prop where
  run : PGs X t (lGs F ts g)
  mono : ∀ d ρ Q Q', (∀ ρ', Q ρ' → Q' ρ') → g d ρ Q → g d ρ Q'
def uN (i : Nat) : TGD := fun d ρ Q => Q (ρ.set i (.im d))
def uNil : TGDs := fun ds ρ Q => ds = [] ∧ Q ρ
def uCons (g : TGD) (gs : TGDs) : TGDs := fun ds ρ Q => match ds with
  | d :: r => g d ρ fun ρ' => gs r ρ' Q
  | [] => False
def uT (gs : TGDs) : TGD := fun d ρ Q => match d with
  | .tuple ds => gs ds ρ Q
  | _ => False
theorem pg_imp {t : Expr} {g g' : TG} (h : PG X t g) (i : ∀ v σ H Q, g' v σ H Q → g v σ H Q) : PG X t g' := ⟨fun pins s σ H v u Q I r q => h.run pins s σ H v u Q I r (i v σ H Q q)⟩
theorem pgs_imp {t : List Expr} {g g' : TGs} (h : PGs X t g) (i : ∀ v σ H Q, g' v σ H Q → g v σ H Q) : PGs X t g' := ⟨fun pins s σ H v u Q I r q => h.run pins s σ H v u Q I r (i v σ H Q q)⟩
theorem g_name {i : Nat} {x : Str} {pos : Pos} (hN : X.N.Nodup) (hi : X.N[i]? = some x) (hx : Loc X.env.scope x) (hf : X.fn x = true ∨ X.env.scope.names.lookup x = some .local := by first | exact .inl rfl | exact .inr rfl | assumption) : PGD X F [i] (.Name x pos) (uN i) :=
  ⟨pg_imp (pg_name hN hi hx hf) fun v σ H Q ⟨ρ, S, d, r, x, h⟩ => h _ ⟨List.length_set, fun j hj => List.getElem?_set_ne fun z => hj (by simp [z])⟩ (r.putD x i), fun d ρ Q Q' h q => h _ q⟩
theorem gs_nil : PGDs X F [] [] uNil := ⟨pgs_imp pgs_nil fun v σ H Q ⟨ρ, S, d, r, x, e, h⟩ => by subst e; cases x; exact ⟨rfl, h _ (Only.refl _ _) r⟩, fun d ρ Q Q' h q => ⟨q.1, h _ q.2⟩⟩
theorem gs_cons {e : Expr} {es : List Expr} {g : TGD} {gs : TGDs} {ts us : List Nat} (h1 : PGD X F ts e g) (h2 : PGDs X F us es gs) (hs : (assignEach (e :: es) X.env).map (·.2) = assign e X.env :: (assignEach es X.env).map (·.2) := by rfl) : PGDs X F (ts ++ us) (e :: es) (uCons g gs) := by
  refine ⟨pgs_imp (pgs_cons h1.run h2.run hs) fun v σ H Q ⟨ρ, S, ds, r, x, h⟩ => ?_, fun ds ρ Q Q' h q => ?_⟩
  · cases x with
    | nil => exact h.elim
    | cons x1 x2 => exact ⟨_, _, rfl, ρ, S, _, r, x1, h1.mono _ _ _ _ (fun ρ' h' σ' o' r' => ⟨ρ', S, _, r', x2, h2.mono _ _ _ _ (fun ρ2 h2' σ2 o2 r2 => h2' σ2 (o'.trans o2) r2) h'⟩) h⟩
  · cases ds with
    | nil => exact q
    | cons d r => exact h1.mono _ _ _ _ (fun ρ' h' => h2.mono _ _ _ _ h h') q
theorem g_tup {es : List Expr} {k n : Nat} {gs : TGDs} {pos : Pos} {ts : List Nat} (hc : X.calm = true) (h : PGDs X F ts es gs) (hl : ∀ ds ρ Q, gs ds ρ Q → ds.length = n) (hn : (assignEach es X.env).length = n := by rfl) (hst : (assignEach es X.env).findIdx? (·.1) = none := by rfl) : PGD X F ts (.Tuple es k pos) (uT gs) := by
  refine ⟨pg_imp (pg_tup hc h.run hn hst) fun v σ H Q ⟨ρ, S, d, r, x, q⟩ => ?_, fun d ρ Q Q' h' q => ?_⟩
  · cases d with
    | tuple ds =>
      cases x with
      | tup x1 x2 => exact ⟨_, _, rfl, .of (r.fr.sub _ _ x1), by rw [dqa_len x2]; exact hl _ _ _ q, ρ, S, ds, r, x2, q⟩
    | _ => exact q.elim
  · cases d with
    | tuple ds => exact h.mono _ _ _ _ h' q
    | _ => exact q
theorem ul_nil : ∀ ds ρ Q, uNil ds ρ Q → ds.length = 0 := fun ds ρ Q q => by rw [q.1]; rfl
theorem ul_cons {g : TGD} {gs : TGDs} {n : Nat} (h : ∀ ds ρ Q, gs ds ρ Q → ds.length = n) (hx : ∀ d ρ Q, g d ρ Q → ∃ ρ', Q ρ') : ∀ ds ρ Q, uCons g gs ds ρ Q → ds.length = n + 1 := fun ds ρ Q q => by
  cases ds with
  | nil => exact q.elim
  | cons d r =>
    obtain ⟨ρ', q'⟩ := hx d ρ _ q
    rw [List.length_cons, h _ _ _ q']
theorem ux_n {i : Nat} : ∀ d ρ Q, uN i d ρ Q → ∃ ρ', Q ρ' := fun d ρ Q q => ⟨_, q⟩
theorem ux_nil : ∀ ds ρ Q, uNil ds ρ Q → ∃ ρ', Q ρ' := fun d ρ Q q => ⟨_, q.2⟩
theorem ux_cons {g : TGD} {gs : TGDs} (h1 : ∀ d ρ Q, g d ρ Q → ∃ ρ', Q ρ') (h2 : ∀ d ρ Q, gs d ρ Q → ∃ ρ', Q ρ') : ∀ ds ρ Q, uCons g gs ds ρ Q → ∃ ρ', Q ρ' := fun ds ρ Q q => by
  cases ds with
  | nil => exact q.elim
  | cons d r => obtain ⟨ρ', q'⟩ := h1 _ _ _ q; exact h2 _ _ _ q'
theorem ux_t {gs : TGDs} (h2 : ∀ d ρ Q, gs d ρ Q → ∃ ρ', Q ρ') : ∀ d ρ Q, uT gs d ρ Q → ∃ ρ', Q ρ' := fun d ρ Q q => by
  cases d with
  | tuple ds => exact h2 _ _ _ q
  | _ => exact q.elim

/-- target = e -/
def wAsg (g : TGD) (w : WE) : WS := fun D ρ => w ρ fun x ρ1 => got x.shd? fun d => g d ρ1 D.nx
theorem d_asg {tg e : Expr} {w : WE} {g : TGD} {pos : Pos} {ts : List Nat} (he : PD X F e w) (hg : PGD X F ts tg g) (hs : swapsWithSole [tg] e pos.line X.env = pure false := by rfl) (hw : swappedStores [tg] e X.env = pure none := by rfl) (h1 : (assignEach [tg] X.env).map (·.2) = [assign tg X.env] := by rfl) :
    PSD X F (.Assign [tg] e pos) (wAsg g w) := by
  refine ⟨ps_imp (ps_asg he.run hg.run hs hw h1) fun D σ H ⟨ρ, S, rl, h⟩ => le_mk he.mono rl h fun x ρ1 hx S1 H1 v u1 g1 r1 vx => ?_, fun D D' ρ l h => he.mono _ _ _ (fun x ρ1 k => got_mono (fun d kd => hg.mono _ _ _ _ l.nx kd) k) h⟩
  obtain ⟨d, e', q⟩ := got_ex hx
  obtain ⟨S2, u2, r2, dd⟩ := vx.shd r1 e'
  exact ⟨ρ1, S2, d, r2, dd, hg.mono _ _ _ _ (fun ρ' h' σ' _ r' => h' S2 σ' H1 (u1.trans u2) r') q⟩
/-- a, b = e1, e2 -/
def wPar (ix : List Nat) (w : WA) : WS := fun D ρ => w ρ fun xs ρ1 => got (dats? xs) fun ds => match ix, ds with
  | [i, j], [d, e] => D.nx ((ρ1.set i (.im d)).set j (.im e))
  | [i, j, k], [d, e, f] => D.nx (((ρ1.set i (.im d)).set j (.im e)).set k (.im f))
  | _, _ => False
theorem mono_wPar {ix : List Nat} {w : WA} (m : Mono3 w) : MonoS (wPar ix w) := fun D D' ρ l h => m _ _ _ (fun x ρ1 k => got_mono (fun ds kd => by
  split at kd <;> first | exact l.nx _ kd | exact kd.elim) k) h
theorem d_par {i j : Nat} {x y : Str} {a b : Expr} {w : WA} {px py pt pos : Pos} {kt k2 pt2} (hc : X.calm = true) (hN : X.N.Nodup) (hi : X.N[i]? = some x) (hj : X.N[j]? = some y) (hij : i ≠ j)
    (hx : X.env.scope.names.lookup x = some .local) (hy : X.env.scope.names.lookup y = some .local) (ha : PDA X F [a, b] w)
    (hw : swappedStores [.Tuple [.Name x px, .Name y py] kt pt] (.Tuple [a, b] k2 pt2) X.env = pure (some [x, y]))
    (hs : swapsWithSole [.Tuple [.Name x px, .Name y py] kt pt] (.Tuple [a, b] k2 pt2) pos.line X.env = pure false := by rfl) :
    PSD X F (.Assign [.Tuple [.Name x px, .Name y py] kt pt] (.Tuple [a, b] k2 pt2) pos) (wPar [i, j] w) := by
  refine ⟨ps_imp (ps_par hc hN hi hj hij hx hy ha.run hw hs) fun D σ H ⟨ρ, S, rl, h⟩ => la_mk ha.mono rl h fun xs ρ1 hx S1 H1 vs u1 g1 r1 vx => ?_, mono_wPar ha.mono⟩
  obtain ⟨ds, e, q⟩ := got_ex hx
  have hd := dats_of vx e
  split at q
  · rename_i i' j' d f e1
    cases e1
    cases hd with
    | cons h1 h2 =>
      cases h2 with
      | cons h2 h3 =>
        cases h3
        exact ⟨_, _, rfl, q S1 _ H1 u1 ((r1.putD h1 i).putD h2 j)⟩
  · rename_i e1; cases e1
  · exact q.elim
theorem d_par3 {i j k : Nat} {x y z : Str} {a b c : Expr} {w : WA} {px py pz pt pos : Pos} {kt k2 pt2} (hc : X.calm = true) (hN : X.N.Nodup) (hi : X.N[i]? = some x) (hj : X.N[j]? = some y) (hk : X.N[k]? = some z) (hij : i ≠ j) (hik : i ≠ k) (hjk : j ≠ k)
    (hx : X.env.scope.names.lookup x = some .local) (hy : X.env.scope.names.lookup y = some .local) (hz : X.env.scope.names.lookup z = some .local) (ha : PDA X F [a, b, c] w)
    (hw : swappedStores [.Tuple [.Name x px, .Name y py, .Name z pz] kt pt] (.Tuple [a, b, c] k2 pt2) X.env = pure (some [x, y, z]))
    (hs : swapsWithSole [.Tuple [.Name x px, .Name y py, .Name z pz] kt pt] (.Tuple [a, b, c] k2 pt2) pos.line X.env = pure false := by rfl) :
    PSD X F (.Assign [.Tuple [.Name x px, .Name y py, .Name z pz] kt pt] (.Tuple [a, b, c] k2 pt2) pos) (wPar [i, j, k] w) := by
  refine ⟨ps_imp (ps_par3 hc hN hi hj hk hij hik hjk hx hy hz ha.run hw hs) fun D σ H ⟨ρ, S, rl, h⟩ => la_mk ha.mono rl h fun xs ρ1 hx S1 H1 vs u1 g1 r1 vx => ?_, mono_wPar ha.mono⟩
  obtain ⟨ds, e, q⟩ := got_ex hx
  have hd := dats_of vx e
  split at q
  · rename_i e1; cases e1
  · rename_i i' j' k' d f g e1
    cases e1
    cases hd with
    | cons h1 h2 =>
      cases h2 with
      | cons h2 h3 =>
        cases h3 with
        | cons h3 h4 =>
          cases h4
          exact ⟨_, _, _, rfl, q S1 _ H1 u1 (((r1.putD h1 i).putD h2 j).putD h3 k)⟩
  · exact q.elim

/-- name[k] = e -/
def wSetI (i : Nat) (wk we : WE) : WS := fun D ρ => we ρ fun y ρ1 => got y.shd? fun d => (∃ es, ρ1[i]? = some (.ow es)) ∧ wk ρ1 fun kx ρ2 => got kx.int? fun k => match ρ2[i]? with
  | some (.ow ds) => got (ixN ds.length k) fun j => D.nx (ρ2.set i (.ow (ds.set j d)))
  | _ => False
theorem d_setI {i : Nat} {x : Str} {k e : Expr} {wk we : WE} {p1 p2 pos : Pos} (hv : PE X (.Name x p1) (tVar i)) (hk : PD X F k wk) (he : PD X F e we)
    (hsub : ∀ v, assign (.Subscript (.Name x p1) k p2) X.env v = (do
      let ov ← holding [v] (eval (.Name x p1) X.env)
      let iv ← holding [v, ov] (eval k X.env)
      standAt p2
      holding [v, ov, iv] (setItem ov iv v)
      release [v, ov, iv] []) := by intro _; rfl)
    (hs : swapsWithSole [.Subscript (.Name x p1) k p2] e pos.line X.env = pure false := by rfl) (hw : swappedStores [.Subscript (.Name x p1) k p2] e X.env = pure none := by rfl) (h1 : (assignEach [.Subscript (.Name x p1) k p2] X.env).map (·.2) = [assign (.Subscript (.Name x p1) k p2) X.env] := by rfl) :
    PSD X F (.Assign [.Subscript (.Name x p1) k p2] e pos) (wSetI i wk we) := by
  refine ⟨ps_imp (ps_asg he.run (pg_sub hv hk.run set_list hsub) hs hw h1) fun D σ H ⟨ρ, S, rl, h⟩ => le_mk he.mono rl h fun y ρ1 hy S1 H1 v u1 g1 r1 vy => ?_, fun D D' ρ l h => he.mono _ _ _ (fun y ρ1 k1 => got_mono (fun d kd => ⟨kd.1, hk.mono _ _ _ (fun kx ρ2 k2 => got_mono (fun n kn => ?_) k2) kd.2⟩) k1) h⟩
  · obtain ⟨d, e', ⟨es, ee⟩, q⟩ := got_ex hy
    obtain ⟨S2, u2, r2, dd⟩ := vy.shd r1 e'
    obtain ⟨a, zs, f1, f2, _⟩ := r2.slots i _ ee
    refine ⟨.ref a, f1, le_mk hk.mono r2 q fun kx ρ2 hkx S3 H3 w u3 g3 r3 vk => ?_⟩
    obtain ⟨n, en, q3⟩ := got_ex hkx
    split at q3
    · rename_i ds er
      obtain ⟨j, ej, q4⟩ := got_ex q3
      obtain ⟨b, xs, e1, e2, e3, e4, e5⟩ := r3.slots i _ er
      rw [f1] at e1
      cases e1
      refine ⟨a, xs, n, j, rfl, int_of vk en, e2, by rw [dqa_len e5]; exact ej, ?_⟩
      exact q4 S3 σ _ (u1.trans (u2.trans u3)) (r3.items er f1 (dqa_set j e5 (dq_up u3 dd)))
    · exact q3.elim
  · split at kn
    · exact got_mono (fun j kj => l.nx _ kj) kn
    · exact kn.elim
end
end DL

set_option Elab.async false
set_option linter.all false
set_option maxRecDepth 100000
namespace DL
open PySem PySem.Spec PyProof.Rows L2
section
variable {X : Cx} {F : Fm} {ρ ρ' : List Sl} {S S' : Hp} {σ σ' : L2.St} {H H' : Hp} {e c : Expr} {pos : Pos}

/-! ### return, if, pass, an expression alone -/
def wRet (w : WE) : WS := fun D ρ => w ρ fun x ρ1 => got x.shd? fun d => D.rt d
theorem d_ret {w : WE} (he : PD X F e w) : PSD X F (.Return (some e) pos) (wRet w) := by
  refine ⟨ps_imp (ps_ret he.run) fun D σ H ⟨ρ, S, rl, h⟩ => le_mk he.mono rl h fun x ρ1 hx S1 H1 v u1 g1 r1 vx => ?_, fun D D' ρ l h => he.mono _ _ _ (fun x ρ1 k => got_mono (fun d kd => l.rt _ kd) k) h⟩
  obtain ⟨d, e', q⟩ := got_ex hx
  obtain ⟨S2, u2, r2, dd⟩ := vx.shd r1 e'
  exact q S2 H1 v (u1.trans u2) r2.fr dd
def wIf (t : WT) (a b : WS) : WS := fun D ρ => t ρ fun k ρ1 => if k = true then a D ρ1 else b D ρ1
theorem d_if {t : WT} {a b : WS} {p q : List Stmt} (ht : PDT X F c t) (ha : PSsD X F p a) (hb : PSsD X F q b) : PSD X F (.If c p q pos) (wIf t a b) := by
  refine ⟨ps_imp (ps_if ht.run ha.run hb.run) fun D σ H ⟨ρ, S, rl, h⟩ => lt_mk ht.mono rl h fun k ρ1 hk S1 H1 u1 g1 r1 => ?_, fun D D' ρ l h => ht.mono _ _ _ (fun k ρ1 hk => ?_) h⟩
  · cases k with
    | true => exact ⟨ρ1, S1, r1, ha.mono _ _ _ (low_up u1) hk⟩
    | false => exact ⟨ρ1, S1, r1, hb.mono _ _ _ (low_up u1) hk⟩
  · cases k with
    | true => exact ha.mono _ _ _ l hk
    | false => exact hb.mono _ _ _ l hk
def wDrop (w : WE) : WS := fun D ρ => w ρ fun x ρ1 => D.nx ρ1
theorem d_expr {w : WE} (he : PD X F e w) (hs : swapsWith e none pos.line X.env = pure false := by rfl) : PSD X F (.Expr e pos) (wDrop w) :=
  ⟨ps_imp (ps_expr he.run hs) fun D σ H ⟨ρ, S, rl, h⟩ => le_mk he.mono rl h fun x ρ1 hx S1 H1 v u1 g1 r1 vx => hx S1 σ H1 u1 r1, fun D D' ρ l h => he.mono _ _ _ (fun x ρ1 k => l.nx _ k) h⟩

/-! ### append, extend, pop, insert on an owned list -/
def wApp (i : Nat) (w : WE) : WS := fun D ρ => (∃ es, ρ[i]? = some (.ow es)) ∧ w ρ fun x ρ1 => got x.shd? fun d => match ρ1[i]? with
  | some (.ow ds) => ds.length ≤ 100000 ∧ D.nx (ρ1.set i (.ow (ds ++ [d])))
  | _ => False
theorem d_app {i : Nat} {x : Str} {p1 p2 p3 pos : Pos} {w : WE} (hv : PE X (.Name x p1) (tVar i)) (he : PD X F e w)
    (hpe : ∀ {t : TA}, PA X [e] t → PE X (.Call (.Attribute (.Name x p1) "append" p2) [e] [] p3) (tBM X.K "list" rAppend (tVar i) t))
    (hst : starEach [e] X.env = (false, eval e X.env) :: starEach [] X.env := by rfl)
    (hs : swapsWith (.Call (.Attribute (.Name x p1) "append" p2) [e] [] p3) none pos.line X.env = pure false := by rfl) : PSD X F (.Expr (.Call (.Attribute (.Name x p1) "append" p2) [e] [] p3) pos) (wApp i w) := by
  refine ⟨ps_imp (ps_expr (hpe (pa_cons he.run pa_nil hst)) hs) fun D σ H ⟨ρ, S, rl, ⟨es, ee⟩, h⟩ => ?_, fun D D' ρ l h => ⟨h.1, he.mono _ _ _ (fun x ρ1 k => got_mono (fun d kd => ?_) k) h.2⟩⟩
  · obtain ⟨a, zs, f1, f2, f3, _⟩ := rl.slots i _ ee
    refine ⟨.ref a, f1, .inl ⟨rfl, zs, .of f2⟩, le_mk he.mono rl h fun y ρ1 hy S1 H1 v u1 g1 r1 vy => ?_⟩
    obtain ⟨d, e', q⟩ := got_ex hy
    obtain ⟨S2, u2, r2, dd⟩ := vy.shd r1 e'
    split at q
    · rename_i ds er
      obtain ⟨b, xs, e1, e2, e3, e4, e5⟩ := r2.slots i _ er
      rw [f1] at e1
      cases e1
      exact ⟨a, xs, v, rfl, rfl, e2, by rw [dqa_len e5]; exact line_lt q.1, q.2 S2 σ _ (u1.trans u2) (r2.items er f1 (dqa_app e5 (.cons dd .nil)))⟩
    · exact q.elim
  · split at kd
    · exact ⟨kd.1, l.nx _ kd.2⟩
    · exact kd.elim
/-- x.pop() alone -/
def wPop (i : Nat) : WS := fun D ρ => match ρ[i]? with
  | some (.ow ds) => ds ≠ [] ∧ D.nx (ρ.set i (.ow ds.dropLast))
  | _ => False
theorem dqa_dropLast {xs : List V} {ds : List D} (h : DqAll S xs ds) : DqAll S xs.dropLast ds.dropLast := by
  rw [List.dropLast_eq_take, List.dropLast_eq_take, dqa_len h]
  exact dqa_take _ h
theorem last_there {xs : List V} {ds : List D} (h : DqAll S xs ds) (n : ds ≠ []) : ∃ y, xs[xs.length - 1]? = some y := by
  have l := dqa_len h
  have : 0 < xs.length := by rw [l]; exact List.length_pos_iff.mpr n
  exact ⟨xs[xs.length - 1], List.getElem?_eq_getElem (by omega)⟩
theorem d_pop {i : Nat} {x : Str} {p1 p2 p3 pos : Pos} (hpe : PE X (.Call (.Attribute (.Name x p1) "pop" p2) [] [] p3) (tBM0 X.K "list" rPop (tVar i)))
    (hs : swapsWith (.Call (.Attribute (.Name x p1) "pop" p2) [] [] p3) none pos.line X.env = pure false := by rfl) : PSD X F (.Expr (.Call (.Attribute (.Name x p1) "pop" p2) [] [] p3) pos) (wPop i) := by
  refine ⟨ps_imp (ps_expr hpe hs) fun D σ H ⟨ρ, S, rl, h⟩ => ?_, fun D D' ρ l h => ?_⟩
  · unfold wPop at h
    split at h
    · rename_i ds er
      obtain ⟨b, xs, e1, e2, e3, e4, e5⟩ := rl.slots i _ er
      obtain ⟨y, hy⟩ := last_there e5 h.1
      exact ⟨.ref b, e1, .inl ⟨rfl, xs, .of e2⟩, b, xs, y, rfl, rfl, e2, hy, h.2 S σ _ (Same.refl _) (rl.items er e1 (dqa_dropLast e5))⟩
    · exact h.elim
  · unfold wPop at h ⊢
    split
    · rename_i ds er; rw [er] at h; exact ⟨h.1, l.nx _ h.2⟩
    · split at h <;> simp_all

/-! ### what is walked -/
/-- J yields the items ds, one by one; what it reads is shared -/
structure Yl (F : Fm) (S : Hp) (J : It) (ds : List D) : Prop where
  go : ∀ S' H i, Same S S' → Fr F S' H → i < ds.length → J.go i H
  stop : ∀ S' H, Same S S' → Fr F S' H → J.stop ds.length H
  yld : ∀ S' H i x H', Same S S' → Fr F S' H → i < ds.length → J.yld i H x H' → ∃ d, ds[i]? = some d ∧ ((H' = H ∧ Dq S' x d) ∨ ∃ T zs es, x = .ref T ∧ H T = none ∧ H' = upd H T (.tup zs) ∧ DqAll S' zs es ∧ d = .tuple es)
abbrev WI := List Sl → (List D → List Sl → Prop) → Prop
def GotI (F : Fm) (S : Hp) (σ : L2.St) (H : Hp) (R : It → Hp → Prop) (ds : List D) (ρ' : List Sl) : Prop := ∀ S' H' J, Same S S' → GrH F H H' → Rel F ρ' S' σ H' → Yl F S' J ds → R J H'
structure PID (X : Cx) (F : Fm) (tg iter : Expr) (w : WI) : Prop where
  run : ∃ t, PI X tg iter t ∧ ∀ σ H R, (∃ ρ S, Rel F ρ S σ H ∧ w ρ (GotI F S σ H R)) → t σ H R
  mono : Mono3 w
theorem rel_new {x : V} {d : D} {i : Nat} {ds : List D} (r : Rel F ρ S σ H) (y : (H' = H ∧ Dq S x d) ∨ ∃ T zs es, x = .ref T ∧ H T = none ∧ H' = upd H T (.tup zs) ∧ DqAll S zs es ∧ d = .tuple es) : ∃ S', Same S S' ∧ Rel F ρ S' σ H' ∧ Dq S' x d := by
  rcases y with ⟨rfl, q⟩ | ⟨T, zs, es, rfl, hT, rfl, q, rfl⟩
  · exact ⟨S, Same.refl _, r, q⟩
  · have u := same_new (o := .tup zs) (free_S r.fr hT)
    exact ⟨_, u, r.newS hT, .tup upd_same (dqa_up u q)⟩
/-- a list or a tuple -/
def wIt (w : WE) : WI := fun ρ Q => w ρ fun x ρ1 => match x with
  | .im (.list ds) => Q ds ρ1
  | .ow ds => Q ds ρ1
  | .im (.tuple ds) => Q ds ρ1
  | _ => False
theorem yl_list {K : PySem.W.Frag} {a : Addr} {xs : List V} {ds : List D} (hS : S a = some (.lst xs)) (hd : DqAll S xs ds) : Yl F S (Itl K a) ds := by
  have l := dqa_len hd
  refine ⟨fun S' H i u f hi => ?_, fun S' H u f => ⟨xs, .of (f.sub _ _ (u _ _ hS)), by omega⟩, fun S' H i x H' u f hi y => ?_⟩
  · have hi' : i < xs.length := by omega
    exact ⟨xs, xs[i], .of (f.sub _ _ (u _ _ hS)), List.getElem?_eq_getElem hi'⟩
  · obtain ⟨rfl, y⟩ := y
    obtain ⟨d, e1, e2⟩ := dqa_at hd (y xs (.of (f.sub _ _ (u _ _ hS))))
    exact ⟨d, e1, .inl ⟨rfl, dq_up u e2⟩⟩
theorem yl_tup {K : PySem.W.Frag} {a : Addr} {xs : List V} {ds : List D} (hS : S a = some (.tup xs)) (hd : DqAll S xs ds) : Yl F S (Itt K a) ds := by
  have l := dqa_len hd
  refine ⟨fun S' H i u f hi => ?_, fun S' H u f => ⟨xs, .of (f.sub _ _ (u _ _ hS)), by omega⟩, fun S' H i x H' u f hi y => ?_⟩
  · have hi' : i < xs.length := by omega
    exact ⟨xs, xs[i], .of (f.sub _ _ (u _ _ hS)), List.getElem?_eq_getElem hi'⟩
  · obtain ⟨rfl, y⟩ := y
    obtain ⟨d, e1, e2⟩ := dqa_at hd (y xs (.of (f.sub _ _ (u _ _ hS))))
    exact ⟨d, e1, .inl ⟨rfl, dq_up u e2⟩⟩
def iLT (K : PySem.W.Frag) (tl : TE) : TI := fun σ H R => tl σ H fun x H1 => ∃ a, x = .ref a ∧ ((∃ xs, SqL K H1 a xs) ∧ R (Itl K a) H1 ∨ (∃ xs, SqT K H1 a xs) ∧ R (Itt K a) H1)
theorem one_fp {pins : List (Addr × Obj)} {s : Shared} (I : Inv X pins σ H s) : ∀ b ∈ [s.heap.objs.size], FpOk X pins H b := fun b hb => by
  rw [List.mem_singleton.mp hb]
  exact I.fpOk (Nat.le_refl _) (I.hok.fresh (Nat.le_refl _))
theorem pi_lt {tg l : Expr} {tl : TE} (hl : PE X l tl) : PI X tg l (iLT X.K tl) := by
  refine ⟨fun pins s σ H R I h => thn (hl.run pins s σ H _ I h) fun v s1 ⟨x, H1, I1, r1, a, ex, q⟩ => ?_⟩
  subst ex
  cases r1
  have Ik := fun (o : Obj) => I1.kept (t' := s1.toks) (h' := s1.heap.push o) fun b u q => Heap.get?_push_of_some _ q
  rcases q with ⟨⟨xs, q1⟩, q2⟩ | ⟨⟨xs, q1⟩, q2⟩
  · obtain ⟨its, _, p, _⟩ := I1.list q1
    exact wpAny_pyIter_list p.isList ⟨_, _, _, _, H1, rfl, Ik _, turn_list a _, ⟨_, Heap.get?_push_size _ rfl, rfl, rfl⟩, one_fp I1, q2⟩
  · obtain ⟨its, _, p, _⟩ := I1.tuple q1
    exact wpAny_pyIter_tuple (show s1.heap.IsTuple a its.toArray from p) ⟨_, _, _, _, H1, rfl, Ik _, turn_tuple a _, ⟨_, Heap.get?_push_size _ rfl, rfl, rfl⟩, one_fp I1, q2⟩
theorem i_it {tg : Expr} {w : WE} (h : PD X F e w) : PID X F tg e (wIt w) := by
  refine ⟨⟨_, pi_lt h.run, fun σ H R ⟨ρ, S, rl, q⟩ => le_mk h.mono rl q fun x ρ1 hx S1 H1 v u1 g1 r1 vx => ?_⟩, fun ρ Q Q' h' q => h.mono _ _ _ (fun x ρ1 k => ?_) q⟩
  · split at hx
    · rename_i ds
      cases vx with
      | lst h1 h2 => exact ⟨_, rfl, .inl ⟨⟨_, .of (r1.fr.sub _ _ h1)⟩, hx S1 H1 _ u1 g1 r1 (yl_list h1 h2)⟩⟩
    · rename_i ds
      obtain ⟨S2, u2, r2, d2⟩ := vx.share r1 (fun _ z => nomatch z) rfl
      cases d2 with
      | lst h1 h2 => exact ⟨_, rfl, .inl ⟨⟨_, .of (r2.fr.sub _ _ h1)⟩, hx S2 H1 _ (u1.trans u2) g1 r2 (yl_list h1 h2)⟩⟩
    · rename_i ds
      cases vx with
      | tup h1 h2 => exact ⟨_, rfl, .inr ⟨⟨_, .of (r1.fr.sub _ _ h1)⟩, hx S1 H1 _ u1 g1 r1 (yl_tup h1 h2)⟩⟩
    · exact hx.elim
  · split at k <;> first | exact h' _ _ k | exact k.elim

/-! ### enumerate, zip, range -/
def enD (k : Int) : List D → List D
  | [] => []
  | d :: ds => .tuple [.int k, d] :: enD (k + 1) ds
theorem enD_len : ∀ (k : Int) (ds : List D), (enD k ds).length = ds.length
  | _, [] => rfl
  | k, d :: ds => by rw [enD, List.length_cons, List.length_cons, enD_len]
theorem enD_at : ∀ (k : Int) (ds : List D) (i : Nat) (d : D), ds[i]? = some d → (enD k ds)[i]? = some (.tuple [.int (k + (i : Nat)), d])
  | _, [], i, d, h => by simp at h
  | k, e :: ds, 0, d, h => by simp at h; subst h; simp [enD]
  | k, e :: ds, i + 1, d, h => by
    have := enD_at (k + 1) ds i d (by simpa using h)
    rw [enD, List.getElem?_cons_succ, this]
    congr 4
    omega
theorem yl_enum {rd : Hp → List V → Prop} {xs : List V} {ds : List D} {k : Int} (h1 : ∀ S' H, Same S S' → Fr F S' H → rd H xs) (hd : DqAll S xs ds) : Yl F S (ItE rd k) (enD k ds) := by
  have l := dqa_len hd
  refine ⟨fun S' H i u f hi => ?_, fun S' H u f => ⟨xs, h1 _ _ u f, by rw [enD_len]; omega⟩, fun S' H i x H' u f hi y => ?_⟩
  · rw [enD_len] at hi
    have hi' : i < xs.length := by omega
    exact ⟨xs, xs[i], h1 _ _ u f, List.getElem?_eq_getElem hi'⟩
  · obtain ⟨T, x', rfl, hT, rfl, y⟩ := y
    obtain ⟨d, e1, e2⟩ := dqa_at hd (y xs (h1 _ _ u f))
    exact ⟨_, enD_at k ds i d e1, .inr ⟨T, _, _, rfl, hT, rfl, .cons (.int _) (.cons (dq_up u e2) .nil), rfl⟩⟩
def iEn (K : PySem.W.Frag) (ta : TA) : TI := fun σ H R => ta σ H fun vs H1 => ∃ a k, ((vs = [.ref a] ∧ k = 0) ∨ (vs = [.ref a, .int k] ∧ -(2 ^ 63) ≤ k ∧ k < 2 ^ 63)) ∧
  ((∃ xs, SqL K H1 a xs) ∧ R (ItE (fun H xs => SqL K H a xs) k) H1 ∨ (∃ xs, SqT K H1 a xs) ∧ R (ItE (fun H xs => SqT K H a xs) k) H1)
theorem en_fp {pins : List (Addr × Obj)} {s : Shared} (I : Inv X pins σ H s) : ∀ b ∈ [s.heap.objs.size + 1, s.heap.objs.size], FpOk X pins H b := fun b hb => by
  have le : s.heap.objs.size ≤ b := by
    rcases List.mem_cons.mp hb with z | z
    · rw [z]; exact Nat.le_succ _
    · rw [List.mem_singleton.mp z]; exact Nat.le_refl _
  exact I.fpOk le (I.hok.fresh le)
theorem en_go {pins : List (Addr × Obj)} {s1 : Shared} {H1 : Hp} {R : It → Hp → Prop} {us : List Value} {vs : List V} {elts : List Expr} {kk : Nat} {tpos : Pos} (I1 : Inv X pins σ H1 s1) (r1 : Vals vs us)
    (q1 : ∃ a k, ((vs = [.ref a] ∧ k = 0) ∨ (vs = [.ref a, .int k] ∧ -(2 ^ 63) ≤ k ∧ k < 2 ^ 63)) ∧ ((∃ xs, SqL X.K H1 a xs) ∧ R (ItE (fun H xs => SqL X.K H a xs) k) H1 ∨ (∃ xs, SqT X.K H1 a xs) ∧ R (ItE (fun H xs => SqT X.K H a xs) k) H1)) :
    wpAny (model X.prog X.w) X.A (call (.type "enumerate") us) (fun v s2 => wpAny (model X.prog X.w) X.A (pyIter v) (PIE X pins σ (.Tuple elts kk tpos) R) X.xe s2) X.xe s1 := by
  obtain ⟨a, k, hv, q⟩ := q1
  have fin : ∀ {h' : Heap}, IsEnum h' (s1.heap.objs.size + 1) s1.heap.objs.size (k + (0 : Nat)) .none → (∀ b o, s1.heap.get? b = some o → h'.get? b = some o) →
      (((∃ xs, SqL X.K H1 a xs) ∧ h'.IsListIter s1.heap.objs.size a 0 ∧ R (ItE (fun H xs => SqL X.K H a xs) k) H1) ∨ ((∃ xs, SqT X.K H1 a xs) ∧ h'.IsTupleIter s1.heap.objs.size a 0 ∧ R (ItE (fun H xs => SqT X.K H a xs) k) H1)) →
      wpAny (model X.prog X.w) X.A (pyIter (.ref (s1.heap.objs.size + 1))) (PIE X pins σ (.Tuple elts kk tpos) R) X.xe { s1 with heap := h' } := fun {h'} he hk q => by
    refine wpAny_pyIter_enum he ?_
    have I2 := I1.kept (t' := s1.toks) hk
    rcases q with ⟨⟨xs, q1⟩, hit, q2⟩ | ⟨⟨xs, q1⟩, hit, q2⟩
    · obtain ⟨its, _, p, _⟩ := I1.list q1
      have lt : a < s1.heap.objs.size := p.lt
      exact ⟨_, _, _, _, H1, rfl, I2, turn_enumL a _ _ k (Nat.ne_of_gt lt) (Nat.ne_of_gt (Nat.lt_succ_of_lt lt)), ⟨⟨.none, he⟩, hit, Nat.succ_ne_self _⟩, en_fp I1, q2⟩
    · obtain ⟨its, _, p, _⟩ := I1.tuple q1
      have lt : a < s1.heap.objs.size := p.lt
      exact ⟨_, _, _, _, H1, rfl, I2, turn_enumT a _ _ k (Nat.ne_of_gt lt) (Nat.ne_of_gt (Nat.lt_succ_of_lt lt)), ⟨⟨.none, he⟩, hit, Nat.succ_ne_self _⟩, en_fp I1, q2⟩
  have k0 : ∀ {h' : Heap} {j : Int}, k = j → IsEnum h' (s1.heap.objs.size + 1) s1.heap.objs.size j .none → IsEnum h' (s1.heap.objs.size + 1) s1.heap.objs.size (k + (0 : Nat)) .none := fun e z => by
    rw [e]; simpa using z
  rcases hv with ⟨rfl, e⟩ | ⟨rfl, e1, e2⟩
  · cases r1 with
    | cons r rr =>
      cases rr
      cases r
      rcases q with ⟨⟨xs, q1⟩, q2⟩ | ⟨⟨xs, q1⟩, q2⟩
      · obtain ⟨its, _, p, _⟩ := I1.list q1
        exact enum_begins1 (begins_list a its.toArray) p.isList fun g he ho hk => fin (k0 e he) hk (.inl ⟨⟨xs, q1⟩, ⟨_, ho, rfl, rfl⟩, q2⟩)
      · obtain ⟨its, _, p, _⟩ := I1.tuple q1
        exact enum_begins1 (begins_tuple a its.toArray) p fun g he ho hk => fin (k0 e he) hk (.inr ⟨⟨xs, q1⟩, ⟨_, ho, rfl, rfl⟩, q2⟩)
  · cases r1 with
    | cons r rr =>
      cases rr with
      | cons r' rr =>
        cases rr
        cases r
        obtain ⟨t, rfl⟩ := r'
        rcases q with ⟨⟨xs, q1⟩, q2⟩ | ⟨⟨xs, q1⟩, q2⟩
        · obtain ⟨its, _, p, _⟩ := I1.list q1
          exact enum_begins (begins_list a its.toArray) p.isList e1 e2 fun g he ho _ hk => fin (k0 rfl he) hk (.inl ⟨⟨xs, q1⟩, ⟨_, ho, rfl, rfl⟩, q2⟩)
        · obtain ⟨its, _, p, _⟩ := I1.tuple q1
          exact enum_begins (begins_tuple a its.toArray) p e1 e2 fun g he ho _ hk => fin (k0 rfl he) hk (.inr ⟨⟨xs, q1⟩, ⟨_, ho, rfl, rfl⟩, q2⟩)
theorem pi_en {a : Expr} {es : List Expr} {ta : TA} {p tpos : Pos} {elts : List Expr} {kk : Nat} (hg : Gl X "enumerate") (hm : X.mg "enumerate" = none) (ha : PA X (a :: es) ta) (hs : starEach (a :: es) X.env = (false, eval a X.env) :: starEach es X.env := by rfl)
    (hpl : (backTo pos (starEach es X.env)).any (·.1) = false := by rfl) : PI X (.Tuple elts kk tpos) (.Call (.Name "enumerate" p) (a :: es) [] pos) (iEn X.K ta) :=
  ⟨fun pins s σ H R I h => Call_ (ld_blt I hg hm boot_enumerate (PyProof.Rows.callWith_type1 (thn (ha.run pos pins s σ H _ I h) fun us s1 ⟨vs, H1, I1, r1, q1⟩ => en_go I1 r1 q1) hs hpl))⟩
/-- enumerate(e), enumerate(e, k) -/
def sqD? : D → Option (List D)
  | .list ds => some ds
  | .tuple ds => some ds
  | _ => none
theorem sqD_of {d : D} {ds : List D} (h : sqD? d = some ds) : d = .list ds ∨ d = .tuple ds := by
  cases d <;> cases h
  · exact .inl rfl
  · exact .inr rfl
def wEn (w : WA) : WI := fun ρ Q => w ρ fun xs ρ1 => match xs with
  | [x] => got x.shd? fun d => got (sqD? d) fun ds => Q (enD 0 ds) ρ1
  | [x, y] => got x.shd? fun d => got y.int? fun k => -(2 ^ 62) ≤ k ∧ k < 2 ^ 62 ∧ got (sqD? d) fun ds => Q (enD k ds) ρ1
  | _ => False
theorem en_one {x : V} {d : D} {a : Addr} {ds : List D} (f : Fr F S H) {R : It → Hp → Prop} {K : PySem.W.Frag} {k : Int} (hd : Dq S x d) (e : d = .list ds ∨ d = .tuple ds) (hR : ∀ J, Yl F S J (enD k ds) → R J H) :
    ∃ a, x = .ref a ∧ ((∃ xs, SqL K H a xs) ∧ R (ItE (fun H xs => SqL K H a xs) k) H ∨ (∃ xs, SqT K H a xs) ∧ R (ItE (fun H xs => SqT K H a xs) k) H) := by
  rcases e with rfl | rfl
  · cases hd with
    | lst h1 h2 => exact ⟨_, rfl, .inl ⟨⟨_, .of (f.sub _ _ h1)⟩, hR _ (yl_enum (fun S' H' u f' => .of (f'.sub _ _ (u _ _ h1))) h2)⟩⟩
  · cases hd with
    | tup h1 h2 => exact ⟨_, rfl, .inr ⟨⟨_, .of (f.sub _ _ h1)⟩, hR _ (yl_enum (fun S' H' u f' => .of (f'.sub _ _ (u _ _ h1))) h2)⟩⟩
theorem i_en {a : Expr} {es : List Expr} {w : WA} {p tpos : Pos} {elts : List Expr} {kk : Nat} (hg : Gl X "enumerate") (hm : X.mg "enumerate" = none) (ha : PDA X F (a :: es) w) (hs : starEach (a :: es) X.env = (false, eval a X.env) :: starEach es X.env := by rfl)
    (hpl : (backTo pos (starEach es X.env)).any (·.1) = false := by rfl) : PID X F (.Tuple elts kk tpos) (.Call (.Name "enumerate" p) (a :: es) [] pos) (wEn w) := by
  refine ⟨⟨_, pi_en hg hm ha.run hs hpl, fun σ H R ⟨ρ, S, rl, q⟩ => la_mk ha.mono rl q fun xs ρ1 hx S1 H1 vs u1 g1 r1 vx => ?_⟩, fun ρ Q Q' h' q => ha.mono _ _ _ (fun x ρ1 k => ?_) q⟩
  · split at hx
    · rename_i x
      obtain ⟨d, e, hx⟩ := got_ex hx
      cases vx with
      | cons v1 v2 =>
        cases v2
        obtain ⟨S2, u2, r2, dd⟩ := v1.shd r1 e
        have fin : ∀ ds, (d = .list ds ∨ d = .tuple ds) → GotI F S σ H R (enD 0 ds) ρ1 → _ := fun ds z k => en_one (a := 0) r2.fr (K := X.K) dd z fun J y => k S2 H1 J (u1.trans u2) g1 r2 y
        obtain ⟨ds, es, hx⟩ := got_ex hx
        obtain ⟨b, rfl, q⟩ := fin ds (sqD_of es) hx
        exact ⟨b, 0, .inl ⟨rfl, rfl⟩, q⟩
    · rename_i x y
      obtain ⟨d, e, hx⟩ := got_ex hx
      obtain ⟨k, ek, b1, b2, hx⟩ := got_ex hx
      cases vx with
      | cons v1 v2 =>
        cases v2 with
        | cons v2 v3 =>
          cases v3
          obtain ⟨S2, u2, r2, dd⟩ := v1.shd r1 e
          have ey := int_of v2 ek
          subst ey
          have fin : ∀ ds, (d = .list ds ∨ d = .tuple ds) → GotI F S σ H R (enD k ds) ρ1 → _ := fun ds z k => en_one (a := 0) r2.fr (K := X.K) dd z fun J y => k S2 H1 J (u1.trans u2) g1 r2 y
          obtain ⟨ds, es, hx⟩ := got_ex hx
          obtain ⟨b, rfl, q⟩ := fin ds (sqD_of es) hx
          exact ⟨b, k, .inr ⟨rfl, by omega, by omega⟩, q⟩
    · exact hx.elim
  · split at k
    · exact got_mono (fun d kd => got_mono (fun ds ks => h' _ _ ks) kd) k
    · exact got_mono (fun d kd => got_mono (fun j kj => ⟨kj.1, kj.2.1, got_mono (fun ds ks => h' _ _ ks) kj.2.2⟩) kd) k
    · exact k.elim
/-- zip of two lists, of two tuples -/
def zpD : List D → List D → List D
  | d :: ds, e :: es => .tuple [d, e] :: zpD ds es
  | _, _ => []
theorem zpD_len : ∀ ds es : List D, (zpD ds es).length = min ds.length es.length
  | [], _ => by simp [zpD]
  | _ :: _, [] => by simp [zpD]
  | d :: ds, e :: es => by rw [zpD, List.length_cons, zpD_len, List.length_cons, List.length_cons]; omega
theorem zpD_at : ∀ (ds es : List D) (i : Nat) (d e : D), ds[i]? = some d → es[i]? = some e → (zpD ds es)[i]? = some (.tuple [d, e])
  | [], _, i, d, e, h, _ => by simp at h
  | _ :: _, [], i, d, e, _, h => by simp at h
  | a :: ds, b :: es, 0, d, e, h1, h2 => by simp at h1 h2; subst h1 h2; simp [zpD]
  | a :: ds, b :: es, i + 1, d, e, h1, h2 => by
    rw [zpD, List.getElem?_cons_succ]
    exact zpD_at ds es i d e (by simpa using h1) (by simpa using h2)
theorem yl_zipL {K : PySem.W.Frag} {a b : Addr} {xs ys : List V} {ds es : List D} (hS : S a = some (.lst xs)) (hd : DqAll S xs ds) (kS : S b = some (.lst ys)) (kd : DqAll S ys es) : Yl F S (Itz K a b) (zpD ds es) := by
  have l1 := dqa_len hd
  have l2 := dqa_len kd
  have rd : ∀ S' H, Same S S' → Fr F S' H → SqL K H a xs ∧ SqL K H b ys := fun S' H u f => ⟨.of (f.sub _ _ (u _ _ hS)), .of (f.sub _ _ (u _ _ kS))⟩
  refine ⟨fun S' H i u f hi => ?_, fun S' H u f => ⟨xs, ys, (rd _ _ u f).1, (rd _ _ u f).2, by rw [zpD_len]; omega⟩, fun S' H i x H' u f hi y => ?_⟩
  · rw [zpD_len] at hi
    have h1 : i < xs.length := by omega
    have h2 : i < ys.length := by omega
    exact ⟨xs, ys, xs[i], ys[i], (rd _ _ u f).1, (rd _ _ u f).2, List.getElem?_eq_getElem h1, List.getElem?_eq_getElem h2⟩
  · obtain ⟨T, x', y', rfl, hT, rfl, y1, y2⟩ := y
    obtain ⟨d, e1, e2⟩ := dqa_at hd (y1 xs (rd _ _ u f).1)
    obtain ⟨d', e1', e2'⟩ := dqa_at kd (y2 ys (rd _ _ u f).2)
    exact ⟨_, zpD_at ds es i d d' e1 e1', .inr ⟨T, _, _, rfl, hT, rfl, .cons (dq_up u e2) (.cons (dq_up u e2') .nil), rfl⟩⟩
theorem yl_zipT {K : PySem.W.Frag} {a b : Addr} {xs ys : List V} {ds es : List D} (hS : S a = some (.tup xs)) (hd : DqAll S xs ds) (kS : S b = some (.tup ys)) (kd : DqAll S ys es) : Yl F S (RZ.ItzT K a b) (zpD ds es) := by
  have l1 := dqa_len hd
  have l2 := dqa_len kd
  have rd : ∀ S' H, Same S S' → Fr F S' H → SqT K H a xs ∧ SqT K H b ys := fun S' H u f => ⟨.of (f.sub _ _ (u _ _ hS)), .of (f.sub _ _ (u _ _ kS))⟩
  refine ⟨fun S' H i u f hi => ?_, fun S' H u f => ⟨xs, ys, (rd _ _ u f).1, (rd _ _ u f).2, by rw [zpD_len]; omega⟩, fun S' H i x H' u f hi y => ?_⟩
  · rw [zpD_len] at hi
    have h1 : i < xs.length := by omega
    have h2 : i < ys.length := by omega
    exact ⟨xs, ys, xs[i], ys[i], (rd _ _ u f).1, (rd _ _ u f).2, List.getElem?_eq_getElem h1, List.getElem?_eq_getElem h2⟩
  · obtain ⟨T, x', y', rfl, hT, rfl, y1, y2⟩ := y
    obtain ⟨d, e1, e2⟩ := dqa_at hd (y1 xs (rd _ _ u f).1)
    obtain ⟨d', e1', e2'⟩ := dqa_at kd (y2 ys (rd _ _ u f).2)
    exact ⟨_, zpD_at ds es i d d' e1 e1', .inr ⟨T, _, _, rfl, hT, rfl, .cons (dq_up u e2) (.cons (dq_up u e2') .nil), rfl⟩⟩
def wZp (w : WA) : WI := fun ρ Q => w ρ fun xs ρ1 => match dats? xs with
  | some [.list ds, .list es] => Q (zpD ds es) ρ1
  | some [.tuple ds, .tuple es] => Q (zpD ds es) ρ1
  | _ => False
theorem i_zp {a b : Expr} {w : WA} {p tpos : Pos} {elts : List Expr} {kk : Nat} (hg : Gl X "zip") (hm : X.mg "zip" = none) (ha : PDA X F [a, b] w) (hs : starEach [a, b] X.env = (false, eval a X.env) :: starEach [b] X.env := by rfl)
    (hpl : (backTo pos (starEach [b] X.env)).any (·.1) = false := by rfl) : PID X F (.Tuple elts kk tpos) (.Call (.Name "zip" p) [a, b] [] pos) (wZp w) := by
  refine ⟨⟨_, RZ.pi_zipA hg hm ha.run hs hpl, fun σ H R ⟨ρ, S, rl, q⟩ => la_mk ha.mono rl q fun xs ρ1 hx S1 H1 vs u1 g1 r1 vx => ?_⟩, fun ρ Q Q' h' q => ha.mono _ _ _ (fun x ρ1 k => ?_) q⟩
  · split at hx
    · rename_i ds es e
      cases dats_of vx e with
      | cons h1 h2 =>
        cases h2 with
        | cons h2 h3 =>
          cases h3
          cases h1 with
          | lst a1 a2 =>
            cases h2 with
            | lst b1 b2 => exact ⟨_, _, _, _, rfl, .inl ⟨.of (r1.fr.sub _ _ a1), .of (r1.fr.sub _ _ b1), hx S1 H1 _ u1 g1 r1 (yl_zipL a1 a2 b1 b2)⟩⟩
    · rename_i ds es e
      cases dats_of vx e with
      | cons h1 h2 =>
        cases h2 with
        | cons h2 h3 =>
          cases h3
          cases h1 with
          | tup a1 a2 =>
            cases h2 with
            | tup b1 b2 => exact ⟨_, _, _, _, rfl, .inr ⟨.of (r1.fr.sub _ _ a1), .of (r1.fr.sub _ _ b1), hx S1 H1 _ u1 g1 r1 (yl_zipT a1 a2 b1 b2)⟩⟩
    · exact hx.elim
  · split at k <;> first | exact h' _ _ k | exact k.elim
/-- range -/
def rgD (lo c : Int) : Nat → List D
  | 0 => []
  | n + 1 => .int lo :: rgD (lo + c) c n
theorem rgD_len : ∀ (n : Nat) (lo c : Int), (rgD lo c n).length = n
  | 0, _, _ => rfl
  | n + 1, lo, c => by rw [rgD, List.length_cons, rgD_len]
theorem rgD_at : ∀ (n : Nat) (lo c : Int) (i : Nat), i < n → (rgD lo c n)[i]? = some (.int (lo + (i : Nat) * c))
  | 0, _, _, i, h => by omega
  | n + 1, lo, c, 0, h => by simp [rgD]
  | n + 1, lo, c, i + 1, h => by
    rw [rgD, List.getElem?_cons_succ, rgD_at n (lo + c) c i (by omega)]
    congr 2
    have e : ((i + 1 : Nat) : Int) * c = (i : Nat) * c + c := by rw [Int.natCast_add, Int.add_mul]; simp
    rw [e]
    omega
theorem yl_range {lo : Int} {n : Nat} : Yl F S (Itr lo n) (rgD lo 1 n) := by
  refine ⟨fun S' H i u f hi => ?_, fun S' H u f => ?_, fun S' H i x H' u f hi y => ?_⟩
  · rw [rgD_len] at hi; exact hi
  · rw [rgD_len]; exact Nat.le_refl _
  · rw [rgD_len] at hi
    obtain ⟨rfl, rfl⟩ := y
    refine ⟨_, rgD_at n lo 1 i hi, .inl ⟨rfl, ?_⟩⟩
    rw [Int.mul_one]
    exact .int _
theorem yl_rangeC {lo c : Int} {n : Nat} : Yl F S (Itc lo c n) (rgD lo c n) := by
  refine ⟨fun S' H i u f hi => ?_, fun S' H u f => ?_, fun S' H i x H' u f hi y => ?_⟩
  · rw [rgD_len] at hi; exact hi
  · rw [rgD_len]; exact Nat.le_refl _
  · rw [rgD_len] at hi
    obtain ⟨rfl, rfl⟩ := y
    exact ⟨_, rgD_at n lo c i hi, .inl ⟨rfl, .int _⟩⟩
def wRg (w : WA) : WI := fun ρ Q => w ρ fun xs ρ1 => match xs with
  | [x] => got x.int? fun j => -(2 ^ 62) ≤ j ∧ j < 2 ^ 62 ∧ Q (rgD 0 1 j.toNat) ρ1
  | [x, y] => got x.int? fun i => got y.int? fun j => (-(2 ^ 62) ≤ i ∧ i < 2 ^ 62 ∧ -(2 ^ 62) ≤ j ∧ j < 2 ^ 62) ∧ Q (rgD i 1 (j - i).toNat) ρ1
  | [x, y, z] => got x.int? fun i => got y.int? fun j => got z.int? fun c => (-(2 ^ 62) ≤ i ∧ i < 2 ^ 62 ∧ -(2 ^ 62) ≤ j ∧ j < 2 ^ 62) ∧ c = -1 ∧ Q (rgD i (-1) (i - j).toNat) ρ1
  | _ => False
theorem mono_wRg {w : WA} (m : Mono3 w) : Mono3 (wRg w) := fun ρ Q Q' h' q => m _ _ _ (fun x ρ1 k => by
  split at k
  · exact got_mono (fun j kj => ⟨kj.1, kj.2.1, h' _ _ kj.2.2⟩) k
  · exact got_mono (fun i ki => got_mono (fun j kj => ⟨kj.1, h' _ _ kj.2⟩) ki) k
  · exact got_mono (fun i ki => got_mono (fun j kj => got_mono (fun c kc => ⟨kc.1, kc.2.1, h' _ _ kc.2.2⟩) kj) ki) k
  · exact k.elim) q
theorem i_rg1 {tg a : Expr} {w : WA} {p : Pos} (hg : Gl X "range") (hm : X.mg "range" = none) (ha : PDA X F [a] w) (hl : ∀ ρ Q, w ρ Q → w ρ fun xs ρ' => xs.length = 1 ∧ Q xs ρ') (hs : starEach [a] X.env = [(false, eval a X.env)] := by rfl) : PID X F tg (.Call (.Name "range" p) [a] [] pos) (wRg w) := by
  refine ⟨⟨_, pi_range1 hg hm ha.run hs, fun σ H R ⟨ρ, S, rl, q⟩ => la_mk ha.mono rl (hl _ _ q) fun xs ρ1 ⟨hlen, hx⟩ S1 H1 vs u1 g1 r1 vx => ?_⟩, mono_wRg ha.mono⟩
  match xs, hlen, vx with
  | [x], _, .cons v1 .nil =>
    obtain ⟨j, e, b1, b2, k⟩ := got_ex hx
    exact ⟨j, by rw [int_of v1 e], b1, b2, k S1 H1 _ u1 g1 r1 yl_range⟩
theorem i_rg2 {tg a b : Expr} {w : WA} {p : Pos} (hg : Gl X "range") (hm : X.mg "range" = none) (ha : PDA X F [a, b] w) (hl : ∀ ρ Q, w ρ Q → w ρ fun xs ρ' => xs.length = 2 ∧ Q xs ρ') (hs : starEach [a, b] X.env = [(false, eval a X.env), (false, eval b X.env)] := by rfl) (hs2 : starEach [b] X.env = [(false, eval b X.env)] := by rfl) : PID X F tg (.Call (.Name "range" p) [a, b] [] pos) (wRg w) := by
  refine ⟨⟨_, pi_range2 hg hm ha.run hs hs2, fun σ H R ⟨ρ, S, rl, q⟩ => la_mk ha.mono rl (hl _ _ q) fun xs ρ1 ⟨hlen, hx⟩ S1 H1 vs u1 g1 r1 vx => ?_⟩, mono_wRg ha.mono⟩
  match xs, hlen, vx with
  | [x, y], _, .cons v1 (.cons v2 .nil) =>
    obtain ⟨i, e1, hx⟩ := got_ex hx
    obtain ⟨j, e2, b, k⟩ := got_ex hx
    exact ⟨i, j, by rw [int_of v1 e1, int_of v2 e2], b, k S1 H1 _ u1 g1 r1 yl_range⟩
theorem i_rg3 {tg a b c : Expr} {w : WA} {p : Pos} (hg : Gl X "range") (hm : X.mg "range" = none) (ha : PDA X F [a, b, c] w) (hl : ∀ ρ Q, w ρ Q → w ρ fun xs ρ' => xs.length = 3 ∧ Q xs ρ') {t : TI} (hp : PI X tg (.Call (.Name "range" p) [a, b, c] [] pos) (iRng3 (lA F w))) : PID X F tg (.Call (.Name "range" p) [a, b, c] [] pos) (wRg w) := by
  refine ⟨⟨_, hp, fun σ H R ⟨ρ, S, rl, q⟩ => la_mk ha.mono rl (hl _ _ q) fun xs ρ1 ⟨hlen, hx⟩ S1 H1 vs u1 g1 r1 vx => ?_⟩, mono_wRg ha.mono⟩
  match xs, hlen, vx with
  | [x, y, z], _, .cons v1 (.cons v2 (.cons v3 .nil)) =>
    obtain ⟨i, e1, hx⟩ := got_ex hx
    obtain ⟨j, e2, hx⟩ := got_ex hx
    obtain ⟨c, e3, b, rfl, k⟩ := got_ex hx
    exact ⟨i, j, -1, _, by rw [int_of v1 e1, int_of v2 e2, int_of v3 e3], RgC.neg b.1 b.2.1 b.2.2.1 b.2.2.2, k S1 H1 _ u1 g1 r1 yl_rangeC⟩

/-! ### for, while -/
def loopD (g : TGD) (b : WS) (E : DE) : List D → List Sl → Prop
  | [], ρ => E.nx ρ
  | d :: ds, ρ => g d ρ fun ρ1 => b { E with nx := loopD g b E ds, ct := loopD g b E ds, bk := E.nx } ρ1
theorem loop_mono {g : TGD} {b : WS} (mg : ∀ d ρ Q Q', (∀ ρ', Q ρ' → Q' ρ') → g d ρ Q → g d ρ Q') (mb : MonoS b) {E E' : DE} (l : E.le E') : ∀ ds ρ, loopD g b E ds ρ → loopD g b E' ds ρ
  | [], ρ, h => l.nx _ h
  | d :: ds, ρ, h => mg _ _ _ _ (fun ρ1 h1 => mb { E with nx := loopD g b E ds, ct := loopD g b E ds, bk := E.nx } { E' with nx := loopD g b E' ds, ct := loopD g b E' ds, bk := E'.nx } _ ⟨loop_mono mg mb l ds, l.rt, l.nx, loop_mono mg mb l ds⟩ h1) h
def wFor (w : WI) (g : TGD) (b : WS) : WS := fun E ρ => w ρ fun ds ρ1 => loopD g b E ds ρ1
theorem d_for {tg iter : Expr} {body : List Stmt} {w : WI} {g : TGD} {b : WS} {ts : List Nat} (hp : PassesOwn (model X.prog X.w) X.A X.env X.xe) (hc : X.calm = true) (hi : PID X F tg iter w) (hg : PGD X F ts tg g) (hb : PSsD X F body b)
    (hs : ∀ x, foldedSetIterable iter X.env x = pure x := by intro _; rfl) : PSD X F (.For tg iter body [] pos) (wFor w g b) := by
  obtain ⟨t, ht, it⟩ := hi.run
  refine ⟨ps_imp (ps_for hp hc ht hg.run hb.run hs) fun D σ H ⟨ρ, S, rl, h⟩ => ?_, fun D D' ρ l h => hi.mono _ _ _ (fun ds ρ1 k => loop_mono hg.mono hb.mono l ds ρ1 k) h⟩
  refine it σ H _ ⟨ρ, S, rl, hi.mono _ _ _ (fun ds ρ1 k S1 H1 J u1 g1 r1 y => ?_) h⟩
  have k : loopD g b (lowE F S1 D) ds ρ1 := loop_mono hg.mono hb.mono (low_up u1) ds ρ1 k
  refine ⟨fun i m σ' H' => m = ds.length - i ∧ i ≤ ds.length ∧ ∃ ρ' S', Rel F ρ' S' σ' H' ∧ Same S1 S' ∧ loopD g b (lowE F S1 D) (ds.drop i) ρ', ⟨_, rfl, Nat.zero_le _, ρ1, S1, r1, Same.refl _, k⟩, ?_⟩
  rintro i m σ' H' ⟨rfl, hle, ρ', S', r', u', k'⟩
  by_cases hlt : i < ds.length
  · refine .inr ⟨y.go S' H' i u' r'.fr hlt, fun σ2 H2 => ∃ ρ2 S2, Rel F ρ2 S2 σ2 H2 ∧ Same S1 S2 ∧ loopD g b (lowE F S1 D) (ds.drop (i + 1)) ρ2, fun σ2 H2 q => ⟨ds.length - (i + 1), by omega, rfl, hlt, q⟩, fun x H2 yx => ?_⟩
    obtain ⟨d, ed, hx⟩ := y.yld S' H' i x H2 u' r'.fr hlt yx
    obtain ⟨S2, u2, r2, dd⟩ := rel_new (i := i) (ds := ds) r' hx
    have es : ds.drop i = d :: ds.drop (i + 1) := by
      rw [List.drop_eq_getElem_cons hlt]
      congr 1
      rw [List.getElem?_eq_getElem hlt] at ed
      exact Option.some.inj ed
    rw [es] at k'
    refine ⟨ρ', S2, d, r2, dd, hg.mono _ _ _ _ (fun ρ3 h3 σ3 _ r3 => ⟨ρ3, S2, r3, hb.mono { lowE F S1 D with nx := loopD g b (lowE F S1 D) (ds.drop (i + 1)), ct := loopD g b (lowE F S1 D) (ds.drop (i + 1)), bk := (lowE F S1 D).nx } _ _ ?_ h3⟩) k'⟩
    have up : ∀ {ρ4 : List Sl}, loopD g b (lowE F S1 D) (ds.drop (i + 1)) ρ4 → GotS F S2 (fun σ2 H2 => ∃ ρ2 S2, Rel F ρ2 S2 σ2 H2 ∧ Same S1 S2 ∧ loopD g b (lowE F S1 D) (ds.drop (i + 1)) ρ2) ρ4 := fun h4 S5 σ5 H5 u5 r5 => ⟨_, S5, r5, (u'.trans u2).trans u5, h4⟩
    exact ⟨fun _ h4 => up h4, fun _ h4 => GotR.up h4 (u'.trans u2), fun _ h4 => GotS.up h4 (u'.trans u2), fun _ h4 => up h4⟩
  · have ei : i = ds.length := by omega
    subst ei
    rw [List.drop_length] at k'
    exact .inl ⟨y.stop S' H' u' r'.fr, k' S' σ' H' u' r'⟩
def whD (t : WT) (b : WS) (D : DE) : Nat → List Sl → Prop
  | 0, _ => False
  | n + 1, ρ => t ρ fun k ρ1 => if k = true then b { D with nx := whD t b D n, ct := whD t b D n, bk := D.nx } ρ1 else D.nx ρ1
theorem wh_mono {t : WT} {b : WS} (mt : Mono3 t) (mb : MonoS b) {D D' : DE} (l : D.le D') : ∀ n ρ, whD t b D n ρ → whD t b D' n ρ
  | 0, _, h => h
  | n + 1, ρ, h => mt _ _ _ (fun k ρ1 h1 => by
    cases k with
    | true => exact mb { D with nx := whD t b D n, ct := whD t b D n, bk := D.nx } { D' with nx := whD t b D' n, ct := whD t b D' n, bk := D'.nx } _ ⟨wh_mono mt mb l n, l.rt, l.nx, wh_mono mt mb l n⟩ h1
    | false => exact l.nx _ h1) h
def wWh (t : WT) (b : WS) : WS := fun D ρ => ∃ n, whD t b D n ρ
theorem d_wh {body : List Stmt} {t : WT} {b : WS} (hp : PassesOwn (model X.prog X.w) X.A X.env X.xe) (ht : PDT X F c t) (hb : PSsD X F body b) : PSD X F (.While c body [] pos) (wWh t b) := by
  refine ⟨ps_imp (ps_while hp ht.run hb.run) fun D σ H ⟨ρ, S, rl, n, h⟩ => ?_, fun D D' ρ l ⟨n, h⟩ => ⟨n, wh_mono ht.mono hb.mono l n ρ h⟩⟩
  refine ⟨fun m σ' H' => ∃ ρ' S', Rel F ρ' S' σ' H' ∧ Same S S' ∧ whD t b (lowE F S D) m ρ', ⟨n, ρ, S, rl, Same.refl _, h⟩, ?_⟩
  rintro m σ' H' ⟨ρ', S', r', u', k'⟩
  cases m with
  | zero => exact k'.elim
  | succ m =>
    refine lt_mk ht.mono r' k' fun k ρ1 hk S1 H1 u1 g1 r1 => ?_
    cases k with
    | false => exact hk S1 σ' H1 (u'.trans u1) r1
    | true =>
      refine ⟨fun σ2 H2 => ∃ ρ2 S2, Rel F ρ2 S2 σ2 H2 ∧ Same S S2 ∧ whD t b (lowE F S D) m ρ2, fun σ2 H2 q => ⟨m, Nat.lt_succ_self _, q⟩, ρ1, S1, r1, hb.mono { lowE F S D with nx := whD t b (lowE F S D) m, ct := whD t b (lowE F S D) m, bk := (lowE F S D).nx } _ _ ?_ hk⟩
      have up : ∀ {ρ4 : List Sl}, whD t b (lowE F S D) m ρ4 → GotS F S1 (fun σ2 H2 => ∃ ρ2 S2, Rel F ρ2 S2 σ2 H2 ∧ Same S S2 ∧ whD t b (lowE F S D) m ρ2) ρ4 := fun h4 S5 σ5 H5 u5 r5 => ⟨_, S5, r5, (u'.trans u1).trans u5, h4⟩
      exact ⟨fun _ h4 => up h4, fun _ h4 => GotR.up h4 (u'.trans u1), fun _ h4 => GotS.up h4 (u'.trans u1), fun _ h4 => up h4⟩
end
end DL

set_option Elab.async false
set_option linter.all false
set_option maxRecDepth 100000
namespace DL
open PySem PySem.Spec PyProof.Rows L2
/-! ### comprehensions -/
def wipeD (ρ : List Sl) : List Nat → List Sl
  | [] => ρ
  | v :: vs => (wipeD ρ vs).set v .no
def keepI : Sl → Sl
  | .im d => .im d
  | _ => .no
def restD (vs : List Nat) : Nat → List Sl → List Sl → List Sl
  | i, o :: os, n :: ns => (if vs.contains i then keepI o else n) :: restD vs (i + 1) os ns
  | _, _, ns => ns
section
variable {F : Fm} {ρ ρ' : List Sl} {S S' : Hp} {σ σ' : L2.St} {H H' : Hp} {vs : List Nat}
theorem restD_len : ∀ (i : Nat) (o n : List Sl), (restD vs i o n).length = n.length
  | _, [], _ => rfl
  | _, _ :: _, [] => rfl
  | i, o :: os, n :: ns => by rw [restD, List.length_cons, List.length_cons, restD_len]
theorem restD_at : ∀ (i : Nat) (o n : List Sl) (j : Nat) (sl : Sl), o.length = n.length → (restD vs i o n)[j]? = some sl → (i + j ∉ vs ∧ n[j]? = some sl) ∨ (i + j ∈ vs ∧ ∃ s, o[j]? = some s ∧ sl = keepI s)
  | i, [], [], j, sl, _, h => by simp [restD] at h
  | i, o :: os, n :: ns, 0, sl, _, h => by
    simp only [restD, List.getElem?_cons_zero, Option.some.injEq] at h
    by_cases c : vs.contains i = true
    · rw [if_pos c] at h; exact .inr ⟨by simpa using c, o, rfl, h.symm⟩
    · rw [if_neg c] at h; exact .inl ⟨by simpa using c, by simp [h]⟩
  | i, o :: os, n :: ns, j + 1, sl, l, h => by
    simp only [restD, List.getElem?_cons_succ] at h ⊢
    have := restD_at (i + 1) os ns j sl (by simpa using l) h
    rwa [show i + 1 + j = i + (j + 1) by omega] at this
theorem wipeD_len : ∀ vs : List Nat, (wipeD ρ vs).length = ρ.length
  | [] => rfl
  | v :: vs => by rw [wipeD, List.length_set, wipeD_len vs]
theorem Rel.set_no (r : Rel F ρ S σ H) (v : Nat) : Rel F (ρ.set v .no) S (σ.set v none) H := by
  refine ⟨by rw [List.length_set, List.length_set]; exact r.len, r.fr, fun i sl q => ?_, fun i j ds es q1 q2 q => ?_⟩
  · by_cases hi : v = i
    · subst hi
      by_cases hv : v < ρ.length
      · rw [List.getElem?_set_self hv] at q; cases q; trivial
      · rw [List.getElem?_eq_none (by rw [List.length_set]; omega)] at q; cases q
    · rw [List.getElem?_set_ne hi] at q ⊢; exact r.slots i sl q
  · have f : ∀ {k : Nat} {fs : List D}, (ρ.set v .no)[k]? = some (.ow fs) → v ≠ k ∧ ρ[k]? = some (.ow fs) := fun {k fs} z => by
      by_cases hk : v = k
      · subst hk
        by_cases hv : v < ρ.length
        · rw [List.getElem?_set_self hv] at z; cases z
        · rw [List.getElem?_eq_none (by rw [List.length_set]; omega)] at z; cases z
      · rw [List.getElem?_set_ne hk] at z; exact ⟨hk, z⟩
    obtain ⟨n1, a1⟩ := f q1
    obtain ⟨n2, a2⟩ := f q2
    rw [List.getElem?_set_ne n1, List.getElem?_set_ne n2] at q
    exact r.apart i j ds es a1 a2 q
theorem Rel.wipe (r : Rel F ρ S σ H) : ∀ vs : List Nat, Rel F (wipeD ρ vs) S (L2.wipe σ vs) H
  | [] => r
  | v :: vs => (r.wipe vs).set_no v
theorem wipe_out (σ : L2.St) : ∀ (vs : List Nat) (i : Nat), i ∉ vs → (L2.wipe σ vs)[i]? = σ[i]?
  | [], i, _ => rfl
  | v :: vs, i, h => by
    rw [L2.wipe, List.getElem?_set_ne (fun z => h (by simp [z])), wipe_out σ vs i (fun z => h (List.mem_cons_of_mem _ z))]
theorem wipe_in (σ : L2.St) : ∀ (vs : List Nat) (i : Nat), i ∈ vs → i < σ.length → (L2.wipe σ vs)[i]? = some none
  | v :: vs, i, h, hl => by
    by_cases e : v = i
    · subst e; rw [L2.wipe, List.getElem?_set_self (by rw [L2.wipe_length]; exact hl)]
    · rw [L2.wipe, List.getElem?_set_ne e]
      exact wipe_in σ vs i (by rcases List.mem_cons.mp h with z | z; exact absurd z.symm e; exact z) hl
theorem wipe_eq (h : Only vs (L2.wipe σ vs) σ') : L2.wipe σ' vs = L2.wipe σ vs := by
  apply List.ext_getElem?
  intro i
  have hl : σ'.length = σ.length := by rw [h.1, L2.wipe_length]
  by_cases hi : i ∈ vs
  · by_cases hb : i < σ.length
    · rw [wipe_in σ' vs i hi (by omega), wipe_in σ vs i hi hb]
    · rw [List.getElem?_eq_none (by rw [L2.wipe_length]; omega), List.getElem?_eq_none (by rw [L2.wipe_length]; omega)]
  · rw [wipe_out σ' vs i hi, h.2 i hi]
/-- behind a turn: the block's own slots as they were -/
theorem Rel.rest {ρ3 : List Sl} (r : Rel F ρ S σ H) (r3 : Rel F ρ3 S' σ' H') (u : Same S S') (o : Only vs (L2.wipe σ vs) σ') : Rel F (restD vs 0 ρ ρ3) S' σ H' := by
  have hl : σ'.length = σ.length := by rw [o.1, L2.wipe_length]
  have l3 : ρ.length = ρ3.length := by rw [r.len, r3.len, hl]
  have old : ∀ {i : Nat}, i ∉ vs → σ'[i]? = σ[i]? := fun hi => by rw [o.2 _ hi, wipe_out σ vs _ hi]
  refine ⟨by rw [restD_len, ← l3]; exact r.len, r3.fr, fun i sl q => ?_, fun i j ds es q1 q2 q => ?_⟩
  · rcases restD_at 0 ρ ρ3 i sl l3 q with ⟨n, e⟩ | ⟨n, s, e, es⟩
    · rw [Nat.zero_add] at n
      have w := r3.slots i sl e
      rw [old n] at w
      exact w
    · subst es
      have w := r.slots i s e
      cases s with
      | im d => obtain ⟨x, e1, e2⟩ := w; exact ⟨x, e1, dq_up u e2⟩
      | no => trivial
      | ow _ => trivial
      | pk _ => trivial
      | src => trivial
  · have f : ∀ {k : Nat} {fs : List D}, (restD vs 0 ρ ρ3)[k]? = some (.ow fs) → k ∉ vs ∧ ρ3[k]? = some (.ow fs) := fun {k fs} z => by
      rcases restD_at 0 ρ ρ3 k _ l3 z with ⟨n, e⟩ | ⟨n, s, e, es⟩
      · rw [Nat.zero_add] at n; exact ⟨n, e⟩
      · cases s <;> cases es
    obtain ⟨n1, a1⟩ := f q1
    obtain ⟨n2, a2⟩ := f q2
    rw [← old n1, ← old n2] at q
    exact r3.apart i j ds es a1 a2 q

/-- the frame with a list that is being made at L -/
def Fm.more (F : Fm) (L : Addr) (o : HO) : Fm := ⟨upd F.H0 L o, F.S0, F.sa⟩
theorem Rel.more {L : Addr} {o : HO} (r : Rel F ρ S σ H) (hL : H L = some o) (hS : S L = none) (h0 : F.S0 L = none) (hn : ∀ (i : Nat) (es : List D), ρ[i]? = some (.ow es) → σ[i]? ≠ some (some (.ref L))) : Rel (F.more L o) ρ S σ H := by
  refine ⟨r.len, ⟨r.fr.sub, r.fr.up, fun b h1 h2 => ?_, fun b x q n => ?_, r.fr.src, fun b hb => ?_⟩, fun i sl q => ?_, r.apart⟩
  · by_cases z : b = L
    · subst z; exact hS
    · have h1' : upd F.H0 L o b ≠ none := h1
      rw [upd_ne z] at h1'; exact r.fr.out b h1' h2
  · by_cases z : b = L
    · subst z
      have q' : upd F.H0 b o b = some x := q
      rw [upd_same] at q'; rw [hL, q']
    · have q' : upd F.H0 L o b = some x := q
      rw [upd_ne z] at q'; exact r.fr.keep b x q' n
  · show upd F.H0 L o b ≠ none
    by_cases z : b = L
    · subst z; rw [upd_same]; simp
    · rw [upd_ne z]; exact r.fr.srcH b hb
  · have w := r.slots i sl q
    cases sl with
    | ow ds =>
      obtain ⟨a, xs, e1, e2, e3, e4, e5⟩ := w
      refine ⟨a, xs, e1, e2, e3, ?_, e5⟩
      have z : a ≠ L := fun z => by subst z; exact hn i ds q e1
      show upd F.H0 L o a = none
      rw [upd_ne z]; exact e4
    | _ => exact w
theorem Rel.less {L : Addr} {o : HO} (h : F.H0 L = none) (hs : ∀ b, F.isS b → F.H0 b ≠ none) (r : Rel (F.more L o) ρ S σ H) : Rel F ρ S σ H := by
  have old : ∀ {b : Addr}, F.H0 b ≠ none → upd F.H0 L o b = F.H0 b := fun {b} hb => upd_ne fun z => by subst z; exact hb h
  refine ⟨r.len, ⟨r.fr.sub, r.fr.up, fun b h1 h2 => r.fr.out b (show upd F.H0 L o b ≠ none by rw [old h1]; exact h1) h2, fun b x q n => r.fr.keep b x (show upd F.H0 L o b = some x by rw [old (by rw [q]; simp)]; exact q) n, r.fr.src, hs⟩, fun i sl q => ?_, r.apart⟩
  have w := r.slots i sl q
  cases sl with
  | ow ds =>
      obtain ⟨a, xs, e1, e2, e3, e4, e5⟩ := w
      refine ⟨a, xs, e1, e2, e3, ?_, e5⟩
      have e4' : upd F.H0 L o a = none := e4
      have z : a ≠ L := fun z => by subst z; rw [upd_same] at e4'; cases e4'
      rw [upd_ne z] at e4'; exact e4'
  | _ => exact w
/-! ### the rule -/
def compD (g : TGD) (tt : WT) (te : WE) (vs : List Nat) : List D → List D → List Sl → (List D → List Sl → Prop) → Prop
  | [], acc, ρ, Q => Q acc ρ
  | x :: xs, acc, ρ, Q => g x (wipeD ρ vs) fun ρ1 => tt ρ1 fun b ρ2 => if b = true then te ρ2 fun y ρ3 => got y.shd? fun d => acc.length ≤ 100000 ∧ compD g tt te vs xs (acc ++ [d]) (restD vs 0 ρ ρ3) Q else compD g tt te vs xs acc (restD vs 0 ρ ρ2) Q
theorem comp_mono {g : TGD} {tt : WT} {te : WE} {vs : List Nat} (mg : ∀ d ρ Q Q', (∀ ρ', Q ρ' → Q' ρ') → g d ρ Q → g d ρ Q') (mt : Mono3 tt) (me : Mono3 te) {Q Q' : List D → List Sl → Prop} (h : ∀ a ρ, Q a ρ → Q' a ρ) : ∀ xs acc ρ, compD g tt te vs xs acc ρ Q → compD g tt te vs xs acc ρ Q'
  | [], acc, ρ, q => h _ _ q
  | x :: xs, acc, ρ, q => mg _ _ _ _ (fun ρ1 q1 => mt _ _ _ (fun b ρ2 q2 => by
    cases b with
    | true => exact me _ _ _ (fun y ρ3 q3 => got_mono (fun d qd => ⟨qd.1, comp_mono mg mt me h xs _ _ qd.2⟩) q3) q2
    | false => exact comp_mono mg mt me h xs _ _ q2) q1) q
def wLc (w : WI) (g : TGD) (tt : WT) (te : WE) (vs : List Nat) : WE := fun ρ Q => w ρ fun ds ρ1 => compD g tt te vs ds [] ρ1 fun acc ρ2 => Q (.ow acc) ρ2
theorem mono_wLc {w : WI} {g : TGD} {tt : WT} {te : WE} {vs : List Nat} (mw : Mono3 w) (mg : ∀ d ρ Q Q', (∀ ρ', Q ρ' → Q' ρ') → g d ρ Q → g d ρ Q') (mt : Mono3 tt) (me : Mono3 te) : Mono3 (wLc w g tt te vs) := fun ρ Q Q' h q => mw _ _ _ (fun ds ρ1 k => comp_mono mg mt me (fun a ρ2 k2 => h _ _ k2) _ _ _ k) q
/-- the tests of a comprehension -/
structure PDTs (X : Cx) (F : Fm) (ifs : List Expr) (w : WT) : Prop where
  run : PTs X ifs (lT F w)
  mono : Mono3 w
def wYes : WT := fun ρ Q => Q true ρ
variable {X : Cx}
theorem pts_imp {e : List Expr} {t t' : TT} (h : PTs X e t) (i : ∀ σ H Q, t' σ H Q → t σ H Q) : PTs X e t' := ⟨fun pins s σ H Q I q => h.run pins s σ H Q I (i σ H Q q)⟩
theorem ts_nil : PDTs X F [] wYes := ⟨pts_imp pts_nil fun σ H Q ⟨ρ, S, r, h⟩ => h S H (Same.refl _) (.refl _ _) r, fun ρ Q Q' h q => h _ _ q⟩
theorem ts_one {c : Expr} {w : WT} (h : PDT X F c w) : PDTs X F [c] w := ⟨pts_one h.run, h.mono⟩
theorem lc_run {wi : TI} {w : WI} {g : TGD} {tt : WT} {te : WE} {ts : List Nat} (it : ∀ σ H R, (∃ ρ S, Rel F ρ S σ H ∧ w ρ (GotI F S σ H R)) → wi σ H R) (mw : Mono3 w) (hts : ∀ i ∈ ts, i ∈ vs)
    (mg : ∀ d ρ Q Q', (∀ ρ', Q ρ' → Q' ρ') → g d ρ Q → g d ρ Q') (mt : Mono3 tt) (me : Mono3 te) {Tg : TG} {Tt : TT} {Te : TE} (ig : ∀ (F' : Fm) v σ H Q, lG F' ts g v σ H Q → Tg v σ H Q) (itt : ∀ (F' : Fm) σ H Q, lT F' tt σ H Q → Tt σ H Q) (ie : ∀ (F' : Fm) σ H Q, lE F' te σ H Q → Te σ H Q) :
    ∀ σ H Q, lE F (wLc w g tt te vs) σ H Q → tLc wi Tg Tt Te vs σ H Q := fun σ H Q ⟨ρ, S, rl, h⟩ => by
  refine it σ H _ ⟨ρ, S, rl, mw _ _ _ (fun ds ρ1 k S1 H1 J u1 g1 r1 y L hL => ?_) h⟩
  have hL0 : F.H0 L = none := free_0 r1.fr hL
  have hLS0 : F.S0 L = none := by
    cases e : F.S0 L with
    | none => rfl
    | some o => rw [r1.fr.sub _ _ (r1.fr.up _ _ e)] at hL; cases hL
  have nL : ¬ F.isS L := fun z => r1.fr.srcH L z hL0
  refine ⟨fun i m H' => m = ds.length - i ∧ i ≤ ds.length ∧ ∃ ρ' S' accV acc, Rel F ρ' S' σ H' ∧ Same S1 S' ∧ GrH F H1 H' ∧ H' L = some (.lst accV) ∧ S' L = none ∧ (∀ (i : Nat) (es : List D), ρ'[i]? = some (.ow es) → σ[i]? ≠ some (some (.ref L))) ∧ DqAll S' accV acc ∧
    compD g tt te vs (ds.drop i) acc ρ' (fun acc ρ2 => Got F S σ H Q (.ow acc) ρ2), ⟨_, rfl, Nat.zero_le _, ρ1, S1, [], [], r1.newH hL, Same.refl _, .of (same_new hL), upd_same, free_S r1.fr hL, fun i es e z => ?_, .nil, k⟩, ?_⟩
  · obtain ⟨a, xs, e1, e2, _⟩ := r1.slots i _ e
    rw [z] at e1; cases e1
    rw [hL] at e2; cases e2
  rintro i m H' ⟨rfl, hle, ρ', S', accV, acc, r', u', gr', hLv, hLS, hn, hacc, k'⟩
  by_cases hlt : i < ds.length
  · refine .inr ⟨y.go S' H' i u' r'.fr hlt, fun H2 => ∃ ρ2 S2 accV acc, Rel F ρ2 S2 σ H2 ∧ Same S1 S2 ∧ GrH F H1 H2 ∧ H2 L = some (.lst accV) ∧ S2 L = none ∧ (∀ (i : Nat) (es : List D), ρ2[i]? = some (.ow es) → σ[i]? ≠ some (some (.ref L))) ∧ DqAll S2 accV acc ∧
      compD g tt te vs (ds.drop (i + 1)) acc ρ2 (fun acc ρ2 => Got F S σ H Q (.ow acc) ρ2), fun H2 q => ⟨ds.length - (i + 1), by omega, rfl, hlt, q⟩, fun x H2 yx => ?_⟩
    obtain ⟨d, ed, hx⟩ := y.yld S' H' i x H2 u' r'.fr hlt yx
    have rm := r'.more (o := .lst accV) hLv hLS hLS0 hn
    have gx : GrH F H' H2 := by
      rcases hx with ⟨rfl, _⟩ | ⟨T, zs, es, _, hT, rfl, _, _⟩
      · exact .refl _ _
      · exact .of (same_new hT)
    obtain ⟨S2, u2, r2, dd⟩ := rel_new (i := i) (ds := ds) rm hx
    have es : ds.drop i = d :: ds.drop (i + 1) := by
      rw [List.drop_eq_getElem_cons hlt]
      congr 1
      rw [List.getElem?_eq_getElem hlt] at ed
      exact Option.some.inj ed
    rw [es] at k'
    have clear : ∀ {ρ3 : List Sl} {S3 : Hp} {σ3 : L2.St} {H3 : Hp}, Rel (F.more L (.lst accV)) ρ3 S3 σ3 H3 → S3 L = none ∧ (¬ F.isS L) ∧ H3 L = some (.lst accV) := fun r3 =>
      ⟨r3.fr.out L (show upd F.H0 L _ L ≠ none by rw [upd_same]; simp) hLS0, nL, r3.fr.keep L _ (show upd F.H0 L _ L = _ by rw [upd_same]) nL⟩
    have slot : ∀ {ρ3 : List Sl} {S3 : Hp} {σ3 : L2.St} {H3 : Hp}, Rel (F.more L (.lst accV)) ρ3 S3 σ3 H3 → ∀ (j : Nat) (fs : List D), ρ3[j]? = some (.ow fs) → σ3[j]? ≠ some (some (.ref L)) := fun r3 j fs q z => by
      obtain ⟨a, xs, e1, _, _, e4, _⟩ := r3.slots j _ q
      rw [z] at e1; cases e1
      have e4' : upd F.H0 L (.lst accV) L = none := e4
      rw [upd_same] at e4'; cases e4'
    refine ig _ _ _ _ _ ⟨wipeD ρ' vs, S2, d, r2.wipe vs, dd, mg _ _ _ _ (fun ρ3 h3 σ3 o3 r3 => ?_) k'⟩
    have o3 : Only vs (L2.wipe σ vs) σ3 := ⟨o3.1, fun j hj => o3.2 j fun z => hj (hts j z)⟩
    refine ⟨wipe_eq o3, itt _ _ _ _ (lt_mk mt r3 h3 fun b ρ4 hb S4 H4 u4 g4 r4 => ?_)⟩
    cases b with
    | false =>
      have rr := r2.rest r4 u4 o3
      obtain ⟨c1, c2, c3⟩ := clear rr
      exact ⟨_, S4, accV, acc, rr.less hL0 r'.fr.srcH, (u'.trans u2).trans u4, (gr'.trans gx).trans g4, c3, c1, slot rr, dqa_up (u2.trans u4) hacc, hb⟩
    | true =>
      refine ie _ _ _ _ (le_mk me r4 hb fun yv ρ5 h5 S5 H5 v u5 g5 r5 vx => ?_)
      obtain ⟨dv, ev, hz, h6⟩ := got_ex h5
      obtain ⟨S6, u6, r6, d6⟩ := vx.shd r5 ev
      have rr := r2.rest r6 ((u4.trans u5).trans u6) o3
      obtain ⟨c1, c2, c3⟩ := clear rr
      have up : Same S' S6 := ((u2.trans u4).trans u5).trans u6
      refine ⟨accV, c3, by rw [dqa_len hacc]; exact line_lt hz, _, S6, accV ++ [v], acc ++ [dv], ?_, u'.trans up, ?_, upd_same, c1, slot rr, dqa_app (dqa_up up hacc) (.cons d6 .nil), h6⟩
      · -- the list that is made is changed
        have q := rr.less hL0 r'.fr.srcH
        have nS : ∀ b o, S6 b = some o → b ≠ L := fun b o e z => by subst z; rw [c1] at e; cases e
        refine ⟨q.len, ⟨fun b o e => by rw [upd_ne (nS b o e)]; exact q.fr.sub b o e, q.fr.up, q.fr.out, fun b o e n => ?_, fun p c e => ?_, q.fr.srcH⟩, fun j sl e => ?_, q.apart⟩
        · have z : b ≠ L := fun z => by subst z; rw [hL0] at e; cases e
          rw [upd_ne z]; exact q.fr.keep b o e n
        · obtain ⟨⟨h0, l, m, t, cs, h1, h2, h3⟩, n1, n2⟩ := q.fr.src p c e
          have z1 : p ≠ L := fun z => nL ⟨p, c, e, .inl z.symm⟩
          have z2 : c ≠ L := fun z => nL ⟨p, c, e, .inr z.symm⟩
          exact ⟨⟨h0, l, m, t, cs, by rw [upd_ne z1]; exact h1, by rw [upd_ne z2]; exact h2, h3⟩, n1, n2⟩
        · have w := q.slots j sl e
          cases sl with
          | ow fs =>
            obtain ⟨a, xs, e1, e2, e3⟩ := w
            have z : a ≠ L := fun z => by subst z; exact slot rr j fs e e1
            exact ⟨a, xs, e1, by rw [upd_ne z]; exact e2, e3⟩
          | _ => exact w
      · intro b o e n
        have z : b ≠ L := fun z => by subst z; rw [hL] at e; cases e
        rw [upd_ne z]
        exact (((gr'.trans gx).trans g4).trans g5) b o e n
  · have ei : i = ds.length := by omega
    subst ei
    rw [List.drop_length] at k'
    exact .inl ⟨y.stop S' H' u' r'.fr, k' S' H' _ (u1.trans u') (g1.trans gr') r' ⟨L, accV, rfl, hLv, hLS, hL0, hacc, hn⟩⟩
theorem d_lc {elt tg iter : Expr} {ifs : List Expr} {scope : Scope} {own : List (Str × Nat)} {pos : Pos} {w : WI} {g : TGD} {tt : WT} {te : WE} {ts : List Nat} (hc : X.calm = true) (hN : X.N.Nodup) (hi : PID X F tg iter w) (ok : BlkOk X.N X.env.scope scope own) (hts : ∀ i ∈ ts, i ∈ own.map (·.2))
    (hg : ∀ (s : Shared) (H : Hp) (C : Addr) (cl : List (Str × Addr)) (fp : List Addr) (F' : Fm), PGD (X.blk s H scope (compEnvC scope cl C X.env) fp) F' ts tg g)
    (ht : ∀ (s : Shared) (H : Hp) (C : Addr) (cl : List (Str × Addr)) (fp : List Addr) (F' : Fm), PDTs (X.blk s H scope (compEnvC scope cl C X.env) fp) F' ifs tt)
    (he : ∀ (s : Shared) (H : Hp) (C : Addr) (cl : List (Str × Addr)) (fp : List Addr) (F' : Fm), PD (X.blk s H scope (compEnvC scope cl C X.env) fp) F' elt te) (hs : ∀ x, foldedSetIterable iter X.env x = pure x := by intro _; rfl) :
    PD X F (.ListComp elt [⟨tg, iter, ifs, 0⟩] scope pos) (wLc w g tt te (own.map (·.2))) := by
  obtain ⟨t, pt, it⟩ := hi.run
  refine ⟨pe_imp (pe_lc (g := fun v σ H Q => ∃ F', lG F' ts g v σ H Q) (tt := fun σ H Q => ∃ F', lT F' tt σ H Q) (te := fun σ H Q => ∃ F', lE F' te σ H Q) hc hN pt ok
    (fun s H C cl fp => ⟨fun pins s' σ H' v u Q I r ⟨F', q⟩ => (hg s H C cl fp F').run.run pins s' σ H' v u Q I r q⟩) (fun s H C cl fp => ⟨fun pins s' σ H' Q I ⟨F', q⟩ => (ht s H C cl fp F').run.run pins s' σ H' Q I q⟩)
    (fun s H C cl fp => ⟨fun pins s' σ H' Q I ⟨F', q⟩ => (he s H C cl fp F').run.run pins s' σ H' Q I q⟩) hs)
    (lc_run it hi.mono hts (hg X.s_0 (fun _ => none) 0 [] [] F).mono (ht X.s_0 (fun _ => none) 0 [] [] F).mono (he X.s_0 (fun _ => none) 0 [] [] F).mono (fun F' v σ H Q q => ⟨F', q⟩) (fun F' σ H Q q => ⟨F', q⟩) (fun F' σ H Q q => ⟨F', q⟩)), mono_wLc hi.mono (hg X.s_0 (fun _ => none) 0 [] [] F).mono (ht X.s_0 (fun _ => none) 0 [] [] F).mono (he X.s_0 (fun _ => none) 0 [] [] F).mono⟩
theorem d_setLc {i : Nat} {y : Str} {py : Pos} {elt tg iter : Expr} {ifs : List Expr} {scope : Scope} {own : List (Str × Nat)} {pos spos : Pos} {w : WI} {g : TGD} {tt : WT} {te : WE} {ts : List Nat} (hc : X.calm = true) (hN : X.N.Nodup) (hy : X.N[i]? = some y) (hyl : X.env.scope.names.lookup y = some .local)
    (hsw : swapsWith (.ListComp elt [⟨tg, iter, ifs, 0⟩] scope pos) (some (.Name y py)) spos.line X.env = pure true) (hi : PID X F tg iter w) (ok : BlkOk X.N X.env.scope scope own) (hts : ∀ i ∈ ts, i ∈ own.map (·.2))
    (hg : ∀ (s : Shared) (H : Hp) (C : Addr) (cl : List (Str × Addr)) (fp : List Addr) (F' : Fm), PGD (X.blk s H scope (compEnvC scope cl C X.env) fp) F' ts tg g)
    (ht : ∀ (s : Shared) (H : Hp) (C : Addr) (cl : List (Str × Addr)) (fp : List Addr) (F' : Fm), PDTs (X.blk s H scope (compEnvC scope cl C X.env) fp) F' ifs tt)
    (he : ∀ (s : Shared) (H : Hp) (C : Addr) (cl : List (Str × Addr)) (fp : List Addr) (F' : Fm), PD (X.blk s H scope (compEnvC scope cl C X.env) fp) F' elt te) (hs : ∀ x, foldedSetIterable iter X.env x = pure x := by intro _; rfl) :
    PSD X F (.Assign [.Name y py] (.ListComp elt [⟨tg, iter, ifs, 0⟩] scope pos) spos) (wSet i (wLc w g tt te (own.map (·.2)))) := by
  obtain ⟨t, pt, it⟩ := hi.run
  have m := mono_wLc (vs := own.map (·.2)) hi.mono (hg X.s_0 (fun _ => none) 0 [] [] F).mono (ht X.s_0 (fun _ => none) 0 [] [] F).mono (he X.s_0 (fun _ => none) 0 [] [] F).mono
  refine ⟨ps_imp (ps_setLc (i := i) (g := fun v σ H Q => ∃ F', lG F' ts g v σ H Q) (tt := fun σ H Q => ∃ F', lT F' tt σ H Q) (te := fun σ H Q => ∃ F', lE F' te σ H Q) hc hN hy hyl hsw pt ok
    (fun s H C cl fp => ⟨fun pins s' σ H' v u Q I r ⟨F', q⟩ => (hg s H C cl fp F').run.run pins s' σ H' v u Q I r q⟩) (fun s H C cl fp => ⟨fun pins s' σ H' Q I ⟨F', q⟩ => (ht s H C cl fp F').run.run pins s' σ H' Q I q⟩)
    (fun s H C cl fp => ⟨fun pins s' σ H' Q I ⟨F', q⟩ => (he s H C cl fp F').run.run pins s' σ H' Q I q⟩) hs) fun D σ H h => ?_, mono_wSet m⟩
  exact lc_run it hi.mono hts (hg X.s_0 (fun _ => none) 0 [] [] F).mono (ht X.s_0 (fun _ => none) 0 [] [] F).mono (he X.s_0 (fun _ => none) 0 [] [] F).mono (fun F' v σ H Q q => ⟨F', q⟩) (fun F' σ H Q q => ⟨F', q⟩) (fun F' σ H Q q => ⟨F', q⟩) σ H _ (set_run m D σ H h)
end
end DL

set_option Elab.async false
set_option linter.all false
set_option maxRecDepth 100000
namespace DL
open PySem PySem.Spec PyProof.Rows L2
/-! ### defs: what they promise by data -/
abbrev MD := List D → (D → Prop) → Prop
def MonoM (m : MD) : Prop := ∀ ds Q Q', (∀ d, Q d → Q' d) → m ds Q → m ds Q'
def spN (m : MD) : Sp := fun vs H Q _ => ∃ S ds, Same S H ∧ DqAll S vs ds ∧ m ds fun d => ∀ S' H' v, Same S S' → (∀ b, H b ≠ none → S b = none → S' b = none) → Same S' H' → Same H H' → Dq S' v d → Q v H'
/-- a def whose first argument is the drawing source -/
def spS (m : MD) : Sp := fun vs H Q _ => ∃ S ds p c us, vs = .ref p :: us ∧ SrcOk H p c ∧ S p = none ∧ S c = none ∧ Same S H ∧ DqAll S us ds ∧
  m ds fun d => ∀ S' H' v, Same S S' → (∀ b, H b ≠ none → S b = none → S' b = none) → Same S' H' → (∀ b o, H b = some o → b ≠ p → b ≠ c → H' b = some o) → SrcOk H' p c → Dq S' v d → Q v H'
/-- as FnOk, from a place where no repr runs -/
structure FnG (P : Program) (w : World) (K : PySem.W.Frag) (mg : Str → Option Value) (base : Heap) (k : Nat) (f : Addr) (fd : FuncData) (ps : List Str) (sp : Sp) : Prop where
  len : ∀ vs H Q E, sp vs H Q E → vs.length = ps.length
  run : ∀ (A : Around) (outer : List Env) (s : Shared) (H : Hp) (args : Args) (us : List Value) (vs : List V) (Q : VK), Room k A → A.guards = some [] → Env0 P w K mg base A outer s H → BindsTo s fd args (ps.zip us) → Vals vs us → sp vs H Q E0 →
    codeAny (model P w) A (.call (.ref f) args) (CR CX0 outer P w H s Q E0) s
theorem FnG.mono {P : Program} {w : World} {K : PySem.W.Frag} {mg : Str → Option Value} {base : Heap} {j k : Nat} {f : Addr} {fd : FuncData} {ps : List Str} {sp : Sp} (F : FnG P w K mg base j f fd ps sp) (h : j ≤ k) : FnG P w K mg base k f fd ps sp :=
  ⟨F.len, fun A outer s H args us vs Q hr => F.run A outer s H args us vs Q (hr.mono h)⟩
theorem FnG.of {P : Program} {w : World} {K : PySem.W.Frag} {mg : Str → Option Value} {base : Heap} {k : Nat} {f : Addr} {fd : FuncData} {ps : List Str} {sp : Sp} (F : FnOk P w K mg base CX0 k f fd ps sp) : FnG P w K mg base k f fd ps sp :=
  ⟨F.len, fun A outer s H args us vs Q hr _ => F.run A outer s H args us vs Q E0 hr⟩
/-- the context of a def's body where nothing is raised -/
abbrev cxN (P : Program) (w : World) (K : PySem.W.Frag) (mg : Str → Option Value) (base : Heap) (N : List Str) (qual : Str) (scope : Scope) (f : Addr) (cd : Value) (A : Around) (outer : List Env) (s : Shared) (H : Hp) : Cx := (cxOf CX0 P w K mg base N qual scope f cd A outer s H E0).nox
section
variable {P : Program} {w : World} {K : PySem.W.Frag} {mg : Str → Option Value} {base : Heap} {k : Nat} {f : Addr} {fd : FuncData}
theorem fnG_of {x qual : Str} {params : Arguments} {body : List Stmt} {scope : Scope} {dvs : List V} {kws : List (Str × V)} {N ps : List Str} {sp : Sp} (F : FunD K x qual params body scope dvs kws f fd) (S : FnScope N ps scope) (len : ∀ vs H Q E, sp vs H Q E → vs.length = ps.length)
    (hbody : ∀ (cdv : Value) (A : Around) (outer : List Env) (s : Shared) (H : Hp) (vs : List V) (Q : VK), Room k (A.deeper (envOfC qual scope s.heap.objs.size f cdv)) → A.guards = some [] → sp vs H Q E0 →
      ∃ t, PSs (cxN P w K mg base N qual scope f cdv A outer s H) body t ∧ t { nx := fun _ H' => Q .non H', rt := Q } (L2.start N vs) H) : FnG P w K mg base (k + 1) f fd ps sp := by
  obtain ⟨oc, od, dV, kV, doc, pm, an, cdv, ct, osl, rfl, lk, hcd, _, _⟩ := F.ex
  refine ⟨len, fun A outer s H args us vs Q hr hgd e0 hb r hsp => ?_⟩
  have up : ∀ b o, base.get? b = some o → s.heap.get? b = some o := fun b o e => (e0.bs b o e).1
  have KX : K.In s.heap := e0.mod.kin.keeps up
  refine codeAny_call_function hr.depth (KX _ _ lk) rfl S.co S.gen rfl (PySem.W.codeRec_of KX hcd) (hb _ _ _ _ (wpAny_newFunctionEnv_cells S.kind (fun ⟨n, v⟩ hy => ?_) fun env he s1 x => ?_))
  · exact (S.par n (List.of_mem_zip hy).1).imp id fun q => ⟨q, PySem.W.cellsFrom_some _ _ _ (.inl q)⟩
  · subst he
    refine ⟨(e0.mod.nolimit.keeps up).keeps x.toInCall.keep, codeAny_func ?_⟩
    obtain ⟨t, ht, hq⟩ := hbody cdv A outer s H vs Q (hr.deeper _) hgd hsp
    have I : Inv (cxOf CX0 P w K mg base N qual scope f cdv A outer s H E0) [] (L2.start N vs) H s1 := inv_start S hr.hd e0 (len _ _ _ _ hsp) r x
    refine wpAny_mono (ht.nox.run [] s1 (L2.start N vs) H _ I hq) (fun fl s' hs => ?_) fun e s' hs => hs
    cases fl with
    | ret u => obtain ⟨v, σ', H', J, rv, q⟩ := hs; exact ⟨v, H', J.os, J.bare, J.base, J.hok, rv, q⟩
    | next => obtain ⟨σ', H', J, q⟩ := hs; exact ⟨V.non, H', J.os, J.bare, J.base, J.hok, rfl, q⟩
    | brk => obtain ⟨_, _, _, q⟩ := hs; exact q.elim
    | cont => obtain ⟨_, _, _, q⟩ := hs; exact q.elim
/-- a def as its callers see it -/
structure Def (P : Program) (w : World) (K : PySem.W.Frag) (mg : Str → Option Value) (base : Heap) (k : Nat) (x : Str) (ps : List Str) (sp : Sp) : Prop where
  ex : ∃ f fd, mg x = some (.ref f) ∧ PySem.W.keepIn K (.ref f) = true ∧ Binds K fd ps [] ∧ FnG P w K mg base k f fd ps sp
theorem Def.mono {j : Nat} {x : Str} {ps : List Str} {sp : Sp} (h : Def P w K mg base j x ps sp) (l : j ≤ k) : Def P w K mg base k x ps sp := by
  obtain ⟨f, fd, h1, h2, h3, h4⟩ := h.ex
  exact ⟨f, fd, h1, h2, h3, h4.mono l⟩

def rho0 (N : List Str) (sls : List Sl) : List Sl := sls ++ List.replicate (N.length - sls.length) .no
theorem rel0 {F : Fm} {S H : Hp} {N : List Str} {vs : List V} {sls : List Sl} (fr : Fr F S H) (h : Paired (fun v sl => (∃ d, sl = .im d ∧ Dq S v d) ∨ (sl = .src ∧ ∃ p c, F.sa = some (p, c) ∧ v = .ref p)) vs sls) : Rel F (rho0 N sls) S (L2.start N vs) H := by
  have hl : vs.length = sls.length := Paired.length h
  have look : ∀ {i : Nat} {sl : Sl}, (rho0 N sls)[i]? = some sl → (sls[i]? = some sl ∧ i < sls.length) ∨ sl = .no := fun {i sl} e => by
    unfold rho0 at e
    by_cases hi : i < sls.length
    · rw [List.getElem?_append_left hi] at e; exact .inl ⟨e, hi⟩
    · rw [List.getElem?_append_right (by omega), List.getElem?_replicate] at e
      split at e
      · cases e; exact .inr rfl
      · cases e
  have at' : ∀ {vs : List V} {sls : List Sl} {i : Nat} {sl : Sl}, Paired (fun v sl => (∃ d, sl = Sl.im d ∧ Dq S v d) ∨ (sl = .src ∧ ∃ p c, F.sa = some (p, c) ∧ v = .ref p)) vs sls → sls[i]? = some sl → ∃ v, vs[i]? = some v ∧ ((∃ d, sl = Sl.im d ∧ Dq S v d) ∨ (sl = .src ∧ ∃ p c, F.sa = some (p, c) ∧ v = .ref p)) := fun {vs sls} => by
    induction sls generalizing vs with
    | nil => intro i sl _ e; simp at e
    | cons s ss ih =>
      intro i sl h e
      cases h with
      | cons h1 h2 =>
        cases i with
        | zero => simp at e; subst e; exact ⟨_, rfl, h1⟩
        | succ i => simpa using ih h2 (by simpa using e)
  refine ⟨?_, fr, fun i sl e => ?_, fun i j ds es e1 e2 _ => ?_⟩
  · unfold rho0 L2.start
    rw [List.length_append, List.length_append, List.length_map, List.length_replicate, List.length_replicate, hl]
  · rcases look e with ⟨e, hi⟩ | rfl
    · obtain ⟨v, ev, q⟩ := at' h e
      have es : (L2.start N vs)[i]? = some (some v) := by
        unfold L2.start
        rw [List.getElem?_append_left (by rw [List.length_map]; omega), List.getElem?_map, ev]
        rfl
      rcases q with ⟨d, rfl, q⟩ | ⟨rfl, p, c, q1, rfl⟩
      · exact ⟨v, es, q⟩
      · exact ⟨p, c, q1, es⟩
    · trivial
  · rcases look e1 with ⟨e, _⟩ | z
    · obtain ⟨v, _, q⟩ := at' h e
      rcases q with ⟨d, q, _⟩ | ⟨q, _⟩ <;> cases q
    · cases z
theorem paired_dq {F : Fm} {S : Hp} : ∀ {vs : List V} {ds : List D}, DqAll S vs ds → Paired (fun v sl => (∃ d, sl = Sl.im d ∧ Dq S v d) ∨ (sl = .src ∧ ∃ p c, F.sa = some (p, c) ∧ v = .ref p)) vs (ds.map Sl.im)
  | _, [], h => by cases h; exact .nil
  | _, d :: ds, h => by
    cases h with
    | cons h1 h2 => exact .cons (.inl ⟨d, rfl, h1⟩) (paired_dq h2)
/-- THE RULE for a def without the source -/
theorem fnN {x qual : Str} {params : Arguments} {body : List Stmt} {scope : Scope} {dvs : List V} {kws : List (Str × V)} {N ps : List Str} {m : MD} {W : WS} (F : FunD K x qual params body scope dvs kws f fd) (S : FnScope N ps scope) (len : ∀ ds Q, m ds Q → ds.length = ps.length) (mm : MonoM m)
    (hw : ∀ (cdv : Value) (A : Around) (outer : List Env) (s : Shared) (H : Hp) (Fr : Fm), Room k (A.deeper (envOfC qual scope s.heap.objs.size f cdv)) → Okx (cxN P w K mg base N qual scope f cdv A outer s H) → PSsD (cxN P w K mg base N qual scope f cdv A outer s H) Fr body W)
    (hm : ∀ ds Q, m ds Q → W { nx := fun _ => Q .none, rt := Q } (rho0 N (ds.map Sl.im))) : FnG P w K mg base (k + 1) f fd ps (spN m) := by
  refine fnG_of F S (fun vs H Q E ⟨S, ds, _, hd, q⟩ => by rw [dqa_len hd]; exact len _ _ q) fun cdv A outer s H vs Q hr hgd ⟨S0, ds, sub, hd, q⟩ => ?_
  have ok : Okx (cxN P w K mg base N qual scope f cdv A outer s H) := ⟨rfl, by have := hr.un; show (A.deeper (envOfC qual scope s.heap.objs.size f cdv)).units + 190 < cLine; omega, hgd⟩
  let G : Fm := ⟨H, S0, none⟩
  have fr : Fr G S0 H := ⟨sub, Same.refl _, fun _ _ e => e, fun _ _ e _ => e, fun p c e => (by cases e), fun b ⟨p, c, e, _⟩ => (by cases e)⟩
  have h := hw cdv A outer s H G hr ok
  refine ⟨_, h.run, rho0 N (ds.map Sl.im), S0, rel0 fr (paired_dq hd), h.mono _ _ _ ?_ (hm ds _ q)⟩
  have fin : ∀ {S' H' : Hp} {v : V} {d : D}, (∀ S' H' v, Same S0 S' → (∀ b, H b ≠ none → S0 b = none → S' b = none) → Same S' H' → Same H H' → Dq S' v d → Q v H') → Same S0 S' → Fr G S' H' → Dq S' v d → Q v H' := fun g u f x =>
    g _ _ _ u f.out f.sub (fun b o e => f.keep b o e fun ⟨p, c, z, _⟩ => by cases z) x
  exact ⟨fun ρ g S' σ' H' u r => fin g u r.fr .non, fun d g S' H' v u f x => fin g u f x, fun _ z => z.elim, fun _ z => z.elim⟩
/-- THE RULE for a def whose first parameter is the source -/
theorem fnS {x qual : Str} {params : Arguments} {body : List Stmt} {scope : Scope} {dvs : List V} {kws : List (Str × V)} {N ps : List Str} {m : MD} {W : WS} (F : FunD K x qual params body scope dvs kws f fd) (S : FnScope N ps scope) (len : ∀ ds Q, m ds Q → ds.length + 1 = ps.length) (mm : MonoM m)
    (hw : ∀ (cdv : Value) (A : Around) (outer : List Env) (s : Shared) (H : Hp) (Fr : Fm), Room k (A.deeper (envOfC qual scope s.heap.objs.size f cdv)) → Okx (cxN P w K mg base N qual scope f cdv A outer s H) → PSsD (cxN P w K mg base N qual scope f cdv A outer s H) Fr body W)
    (hm : ∀ ds Q, m ds Q → W { nx := fun _ => Q .none, rt := Q } (rho0 N (.src :: ds.map Sl.im))) : FnG P w K mg base (k + 1) f fd ps (spS m) := by
  refine fnG_of F S (fun vs H Q E ⟨S, ds, p, c, us, e, _, _, _, _, hd, q⟩ => by rw [e, List.length_cons, dqa_len hd]; exact len _ _ q) fun cdv A outer s H vs Q hr hgd ⟨S0, ds, p, c, us, ev, so, n1, n2, sub, hd, q⟩ => ?_
  subst ev
  have ok : Okx (cxN P w K mg base N qual scope f cdv A outer s H) := ⟨rfl, by have := hr.un; show (A.deeper (envOfC qual scope s.heap.objs.size f cdv)).units + 190 < cLine; omega, hgd⟩
  let G : Fm := ⟨H, S0, some (p, c)⟩
  have isG : ∀ {b : Addr}, G.isS b → b = p ∨ b = c := fun ⟨p', c', e, h⟩ => by cases e; exact h
  have fr : Fr G S0 H := ⟨sub, Same.refl _, fun _ _ e => e, fun _ _ e _ => e, fun p' c' e => (by cases e; exact ⟨so, n1, n2⟩), fun b hb => by
    obtain ⟨_, l, m, t, cs, h1, h2, _⟩ := so
    rcases isG hb with rfl | rfl
    · show H b ≠ none; rw [h1]; simp
    · show H b ≠ none; rw [h2]; simp⟩
  have h := hw cdv A outer s H G hr ok
  refine ⟨_, h.run, rho0 N (.src :: ds.map Sl.im), S0, rel0 fr (.cons (.inr ⟨rfl, p, c, rfl, rfl⟩) (paired_dq hd)), h.mono _ _ _ ?_ (hm ds _ q)⟩
  have fin : ∀ {S' H' : Hp} {v : V} {d : D}, (∀ S' H' v, Same S0 S' → (∀ b, H b ≠ none → S0 b = none → S' b = none) → Same S' H' → (∀ b o, H b = some o → b ≠ p → b ≠ c → H' b = some o) → SrcOk H' p c → Dq S' v d → Q v H') → Same S0 S' → Fr G S' H' → Dq S' v d → Q v H' := fun g u f x =>
    g _ _ _ u f.out f.sub (fun b o e z1 z2 => f.keep b o e fun z => (isG z).elim z1 z2) (f.src p c rfl).1 x
  exact ⟨fun ρ g S' σ' H' u r => fin g u r.fr .non, fun d g S' H' v u f x => fin g u f x, fun _ z => z.elim, fun _ z => z.elim⟩
end

/-! ### calls -/
section
variable {X : Cx} {F : Fm} {k : Nat} {f : Addr} {fd : FuncData} {ps : List Str} {sp : Sp} {x : Str} {p pos : Pos} {e : Expr} {es : List Expr} {w : WA}
theorem run_fnG {pins : List (Addr × Obj)} {σ : L2.St} {H : Hp} {s : Shared} {Q : VK} {us : List Value} {vs : List V} (G : FnG X.prog X.w X.K X.mg X.base k f fd ps sp) (hr : Room k X.A) (hgd : X.A.guards = some []) (hb : Binds X.K fd ps [])
    (I : Inv X pins σ H s) (r : Vals vs us) (h : sp vs H Q E0) : wpAny (model X.prog X.w) X.A (call (.ref f) us) (EP X pins σ Q) X.xe s := by
  have hl : (us ++ []).length = ps.length := by rw [List.append_nil, ← r.length]; exact G.len _ _ _ _ h
  have hb' := hb s us I.kIn hl
  rw [List.append_nil] at hb'
  refine wpAny_call (codeAny_mono (G.run X.A X.stack s H ⟨us, []⟩ us vs Q hr hgd I.env0 hb' r h) fun r s' hq => ?_)
  match r, hq with
  | .ok (.ret u), hq => exact I.after hq
def tCallG (sp : Sp) (t : TA) : TE := fun σ H Q => t σ H fun vs H1 => sp vs H1 Q E0
theorem pe_callG (h : Def X.prog X.w X.K X.mg X.base k x ps sp) (hX : Okx X) (hr : Room k X.A) (hg : Gl X x) {t : TA} (ha : PA X (e :: es) t) (hdb : (x == ("__debug__" : Str)) = false := by decide) (he : starEach (e :: es) X.env = (false, eval e X.env) :: starEach es X.env := by rfl)
    (hpl : (backTo pos (starEach es X.env)).any (·.1) = false := by rfl) : PE X (.Call (.Name x p) (e :: es) [] pos) (tCallG sp t) := by
  obtain ⟨f, fd, hm, hk, hb, G⟩ := h.ex
  exact ⟨fun pins s σ H Q I h => wpAny_Call_Name_kw (ld_glob I hg hm (PySem.W.callWith_K (h₀ := X.base) I.ok.mod.kin hk (thn (ha.run pos pins s σ H _ I h) fun us s1 ⟨vs, H1, I1, r, q⟩ => ⟨I1.kIn, run_fnG G hr hX.gd hb I1 r q⟩) he hpl) hdb)⟩
def wCall (m : MD) (w : WA) : WE := fun ρ Q => w ρ fun xs ρ1 => got (dats? xs) fun ds => m ds fun d => Q (.im d) ρ1
def srcs? : List Sl → Option (List D)
  | .src :: r => dats? r
  | _ => none
@[simp] theorem srcs_cons (r : List Sl) : srcs? (.src :: r) = dats? r := rfl
def wCallS (m : MD) (w : WA) : WE := fun ρ Q => w ρ fun xs ρ1 => got (srcs? xs) fun ds => m ds fun d => Q (.im d) ρ1
theorem d_call {m : MD} (h : Def X.prog X.w X.K X.mg X.base k x ps (spN m)) (mm : MonoM m) (hX : Okx X) (hr : Room k X.A) (hg : Gl X x) (ha : PDA X F (e :: es) w) (hdb : (x == ("__debug__" : Str)) = false := by decide) (he : starEach (e :: es) X.env = (false, eval e X.env) :: starEach es X.env := by rfl)
    (hpl : (backTo pos (starEach es X.env)).any (·.1) = false := by rfl) : PD X F (.Call (.Name x p) (e :: es) [] pos) (wCall m w) := by
  refine ⟨pe_imp (pe_callG h hX hr hg ha.run hdb he hpl) fun σ H Q ⟨ρ, S, rl, q⟩ => la_mk ha.mono rl q fun xs ρ1 hx S1 H1 vs u1 g1 r1 vx => ?_, fun ρ Q Q' h q => ha.mono _ _ _ (fun xs ρ1 k => got_mono (fun ds kd => mm _ _ _ (fun d kd => h _ _ kd) kd) k) q⟩
  obtain ⟨ds, ed, q⟩ := got_ex hx
  exact ⟨S1, ds, r1.fr.sub, dats_of vx ed, mm _ _ _ (fun d g S' H' v u ns sub' up x => g S' H' v (u1.trans u) (g1.trans (.of up)) (r1.grow u up sub' ns) x) q⟩
theorem d_callS {m : MD} (h : Def X.prog X.w X.K X.mg X.base k x ps (spS m)) (mm : MonoM m) (hX : Okx X) (hr : Room k X.A) (hg : Gl X x) (ha : PDA X F (e :: es) w) (hdb : (x == ("__debug__" : Str)) = false := by decide) (he : starEach (e :: es) X.env = (false, eval e X.env) :: starEach es X.env := by rfl)
    (hpl : (backTo pos (starEach es X.env)).any (·.1) = false := by rfl) : PD X F (.Call (.Name x p) (e :: es) [] pos) (wCallS m w) := by
  refine ⟨pe_imp (pe_callG h hX hr hg ha.run hdb he hpl) fun σ H Q ⟨ρ, S, rl, q⟩ => la_mk ha.mono rl q fun xs ρ1 hx S1 H1 vs u1 g1 r1 vx => ?_, fun ρ Q Q' h q => ha.mono _ _ _ (fun xs ρ1 k => got_mono (fun ds kd => mm _ _ _ (fun d kd => h _ _ kd) kd) k) q⟩
  obtain ⟨ds, ed, q⟩ := got_ex hx
  match xs, vx, ed with
  | .src :: r, .cons v1 v2, ed =>
    obtain ⟨p', c', ep, ev⟩ := v1
    subst ev
    obtain ⟨so, n1, n2⟩ := r1.fr.src p' c' ep
    have isF : ∀ {b : Addr}, ¬ F.isS b → b ≠ p' ∧ b ≠ c' := fun hb => ⟨fun z => hb ⟨p', c', ep, .inl z⟩, fun z => hb ⟨p', c', ep, .inr z⟩⟩
    refine ⟨S1, ds, p', c', _, rfl, so, n1, n2, r1.fr.sub, dats_of v2 ed, mm _ _ _ (fun d g S' H' v u ns sub' up so' x => ?_) q⟩
    have gr : GrH F H1 H' := fun b o e hb => up b o e (isF hb).1 (isF hb).2
    refine g S' H' v (u1.trans u) (g1.trans gr) (r1.step u gr sub' ns fun p2 c2 e2 => ?_) x
    rw [ep] at e2
    cases e2
    obtain ⟨_, l, m, t, cs, h1, h2, _⟩ := so
    exact ⟨so', ns _ (by rw [h1]; simp) n1, ns _ (by rw [h2]; simp) n2⟩
end
end DL

set_option Elab.async false
set_option linter.all false
set_option maxRecDepth 100000
namespace DL
open PySem PySem.Spec PyProof.Rows L2

/-! ### texts of data: their lengths -/
mutual
def rz : D → Nat
  | .none => 10
  | .bool _ => 10
  | .int _ => 2000
  | .str x => (reprText x).length
  | .list xs => rzAll xs + 10
  | .tuple xs => rzAll xs + 10
  | .dict _ => 0
def rzAll : List D → Nat
  | [] => 0
  | x :: xs => rz x + 2 + rzAll xs
end
def sumL : List Str → Nat
  | [] => 0
  | t :: ts => t.length + 2 + sumL ts
theorem textFrom_le : ∀ (ts : List Str) (k : Nat) (acc : Str), (textFrom k acc ts).length ≤ acc.length + sumL ts
  | [], k, acc => Nat.le_refl _
  | t :: ts, k, acc => by
    have h := textFrom_le ts (k + 1) (acc ++ (if k > 0 then ", " else "" : String) ++ t)
    have e : (((if k > 0 then ", " else "" : String) : Str)).length ≤ 2 := by split <;> decide
    rw [strLen_append, strLen_append] at h
    rw [textFrom, sumL]
    omega
theorem listText_le (ts : List Str) : (listText ts).length ≤ sumL ts + 2 := by
  have h := textFrom_le ts 0 "["
  have e1 : (("[" : String) : Str).length = 1 := rfl
  have e2 : (("]" : String) : Str).length = 1 := rfl
  unfold listText
  rw [strLen_append]
  omega
theorem piled_sum : ∀ ts : List Str, piled ts = sumL ts
  | [] => by simp [piled, sumL]
  | t :: ts => by rw [piled_cons, sumL, piled_sum ts]
theorem tupleText_le (ts : List Str) : (tupleText ts).length ≤ sumL ts + 3 := by
  have e1 : (("(" : String) : Str).length = 1 := rfl
  have e2 : (((if ts.length == 1 then ",)" else ")" : String) : Str)).length ≤ 2 := by split <;> decide
  unfold tupleText
  rw [strLen_append, strLen_append]
  by_cases h : ts = []
  · subst h
    have e3 : (Str.join ", " []).length = 0 := rfl
    simp only [sumL]
    omega
  · have := join_length_add ts h
    rw [piled_sum] at this
    omega
mutual
theorem shown_le : ∀ d : D, d.plain = true → d.showable = true → d.shown.length ≤ rz d
  | .none, _, _ => by simp only [PyData.shown, rz]; decide
  | .bool b, _, _ => by simp only [PyData.shown, rz]; cases b <;> decide
  | .int i, _, h => by
    simp only [PyData.shown, rz]
    have e := int_text_length_le (k := 1920) (by decide) (by simpa [PyData.showable] using h : i.natAbs.log2 < 1920)
    rw [PySem.ofString_length]
    omega
  | .str x, _, _ => by simp only [PyData.shown, rz]; exact Nat.le_refl _
  | .list xs, p, h => by
    simp only [PyData.shown, rz]
    have := listText_le (PyData.shownAll xs)
    have := shownAll_le xs (by simpa only [PyData.plain] using p) (by simpa only [PyData.showable] using h)
    omega
  | .tuple xs, p, h => by
    simp only [PyData.shown, rz]
    have := tupleText_le (PyData.shownAll xs)
    have := shownAll_le xs (by simpa only [PyData.plain] using p) (by simpa only [PyData.showable] using h)
    omega
  | .dict _, p, _ => by simp only [PyData.plain] at p; cases p
theorem shownAll_le : ∀ ds : List D, PyData.plainAll ds = true → PyData.showableAll ds = true → sumL (PyData.shownAll ds) ≤ rzAll ds
  | [], _, _ => by simp only [PyData.shownAll, sumL, rzAll]; exact Nat.le_refl _
  | d :: ds, p, h => by
    simp only [PyData.plainAll, Bool.and_eq_true] at p
    simp only [PyData.showableAll, Bool.and_eq_true] at h
    simp only [PyData.shownAll, sumL, rzAll]
    have := shown_le d p.1 h.1
    have := shownAll_le ds p.2 h.2
    omega
end
mutual
theorem noDict : ∀ d : D, d.plain = true → d.hasDict = false
  | .none, _ => by simp only [PyData.hasDict]
  | .bool _, _ => by simp only [PyData.hasDict]
  | .int _, _ => by simp only [PyData.hasDict]
  | .str _, _ => by simp only [PyData.hasDict]
  | .list xs, p => by simp only [PyData.hasDict]; exact noDictAll xs (by simpa only [PyData.plain] using p)
  | .tuple xs, p => by simp only [PyData.hasDict]; exact noDictAll xs (by simpa only [PyData.plain] using p)
  | .dict _, p => by simp only [PyData.plain] at p; cases p
theorem noDictAll : ∀ ds : List D, PyData.plainAll ds = true → PyData.hasDictAll ds = false
  | [], _ => by simp only [PyData.hasDictAll]
  | d :: ds, p => by
    simp only [PyData.plainAll, Bool.and_eq_true] at p
    simp only [PyData.hasDictAll, noDict d p.1, noDictAll ds p.2, Bool.or_self]
end

/-! ### builtins -/
section
variable {X : Cx} {F : Fm}
/-- what repr takes -/
def okR (d : D) : Prop := d.showable = true ∧ rz d ≤ 16000000 ∧ d.depth ≤ 60
def reprG : GA := fun xs K => match xs with
  | [x] => got x.dat? fun d => okR d ∧ K (.im (.str d.shown))
  | _ => False
theorem mono_reprG : MonoA reprG := fun x K K' h g => by
  unfold reprG at g ⊢
  split
  · exact got_mono (fun d k => ⟨k.1, h _ k.2⟩) g
  · split at g <;> simp_all
def reprR : List V → Hp → VK → Prop := fun vs H Q => ∃ v d, vs = [v] ∧ Dq H v d ∧ okR d ∧ Q (.str d.shown) H
theorem cr_repr (hX : Okx X) : CallR X (.builtin "repr") reprR := by
  intro pins s σ H xs us Q I r h
  obtain ⟨v, d, rfl, hd, ⟨hs, hz, hdp⟩, q⟩ := h
  obtain ⟨u, rfl, ru⟩ := vals1 r
  have hl : d.shown.length ≤ sizeLine := by
    have := shown_le d (dq_plain hd) hs
    rw [sizeLine_eq]; omega
  have room := hX.room
  cases hd with
  | non => cases ru; exact P.repr_of_none ⟨.str _, H, I.tok _, ⟨_, rfl⟩, by simpa only [PyData.shown] using q⟩
  | bl b => cases ru; exact P.repr_of_bool ⟨.str _, H, I.tok _, ⟨_, rfl⟩, by simpa only [PyData.shown] using q⟩
  | int i =>
    obtain ⟨t, rfl⟩ := ru
    exact P.repr_of_int (by simpa [PyData.showable] using hs) ⟨.str _, H, I.tok _, ⟨_, rfl⟩, by simpa only [PyData.shown] using q⟩
  | str x =>
    obtain ⟨t, rfl⟩ := ru
    exact P.repr_of_str ⟨.str _, H, I.tok _, ⟨_, rfl⟩, by simpa only [PyData.shown] using q⟩ (by simpa only [PyData.shown] using hl)
  | lst h1 h2 =>
    obtain ⟨as, rd⟩ := Dp.reads I _ _ u (dq_dp (K := X.K) (.lst h1 h2)) ru
    cases ru
    exact repr_of_reads' rd hs (PyData.noDict_hsm (noDict _ (dq_plain (.lst h1 h2)))) hX.gd (by omega) (fun _ _ e => e) (fun h' t tk hk => ⟨.str _, H, I.kept hk, ⟨_, rfl⟩, q⟩) hl
  | tup h1 h2 =>
    obtain ⟨as, rd⟩ := Dp.reads I _ _ u (dq_dp (K := X.K) (.tup h1 h2)) ru
    cases ru
    exact repr_of_reads' rd hs (PyData.noDict_hsm (noDict _ (dq_plain (.tup h1 h2)))) hX.gd (by omega) (fun _ _ e => e) (fun h' t tk hk => ⟨.str _, H, I.kept hk, ⟨_, rfl⟩, q⟩) hl
theorem on_repr : OnA F reprR reprG := fun ρ S σ H xs vs K Q r vx g hK => by
  unfold reprG at g
  split at g
  · obtain ⟨d, e, ok, k⟩ := got_ex g
    cases vx with
    | cons v1 v2 => cases v2; exact ⟨_, d, rfl, v1.dat r.fr e, ok, (hK _ k).now r (.str _)⟩
  · exact g.elim
/-- len -/
def lenG : GA := fun xs K => match xs with
  | [x] => got x.seq? fun ds => K (.im (.int ds.length))
  | _ => False
theorem mono_lenG : MonoA lenG := fun x K K' h g => by
  unfold lenG at g ⊢
  split
  · exact got_mono (fun d k => h _ k) g
  · split at g <;> simp_all
def lenR (K : PySem.W.Frag) : List V → Hp → VK → Prop := fun xs H Q => ∃ p ys, xs = [.ref p] ∧ (SqL K H p ys ∨ SqT K H p ys) ∧ Q (.int ys.length) H
theorem cr_len : CallR X (.builtin "len") (lenR X.K) := call_len_seq
theorem on_len {K : PySem.W.Frag} : OnA F (lenR K) lenG := fun ρ S σ H xs vs K Q r vx g hK => by
  unfold lenG at g
  split at g
  · obtain ⟨ds, e, k⟩ := got_ex g
    cases vx with
    | cons v1 v2 =>
      cases v2
      obtain ⟨a, ys, rfl, h, hd⟩ := v1.seq r.fr e
      exact ⟨a, ys, rfl, h.imp .of .of, by rw [dqa_len hd]; exact (hK _ k).now r (.int _)⟩
  · exact g.elim
/-- a builtin of one int; of two -/
def i1G (f : Int → Int) : GA := fun xs K => match xs with
  | [x] => got x.int? fun i => K (.im (.int (f i)))
  | _ => False
theorem mono_i1G {f} : MonoA (i1G f) := fun x K K' h g => by
  unfold i1G at g ⊢
  split
  · exact got_mono (fun d k => h _ k) g
  · split at g <;> simp_all
def i2G (f : Int → Int → Int) : GA := fun xs K => match xs with
  | [x, y] => got x.int? fun i => got y.int? fun j => K (.im (.int (f i j)))
  | _ => False
theorem mono_i2G {f} : MonoA (i2G f) := fun x K K' h g => by
  unfold i2G at g ⊢
  split
  · exact got_mono (fun d k => got_mono (fun e ke => h _ ke) k) g
  · split at g <;> simp_all
theorem on_i1 {f : Int → Int} {r : List V → Hp → VK → Prop} (hr : ∀ i H Q, Q (.int (f i)) H → r [.int i] H Q) : OnA F r (i1G f) := fun ρ S σ H xs vs K Q rl vx g hK => by
  unfold i1G at g
  split at g
  · obtain ⟨i, e, k⟩ := got_ex g
    cases vx with
    | cons v1 v2 => cases v2; rw [int_of v1 e]; exact hr i H Q ((hK _ k).now rl (.int _))
  · exact g.elim
theorem on_i2 {f : Int → Int → Int} {r : List V → Hp → VK → Prop} (hr : ∀ i j H Q, Q (.int (f i j)) H → r [.int i, .int j] H Q) : OnA F r (i2G f) := fun ρ S σ H xs vs K Q rl vx g hK => by
  unfold i2G at g
  split at g
  · obtain ⟨i, e, g⟩ := got_ex g
    obtain ⟨j, e2, k⟩ := got_ex g
    cases vx with
    | cons v1 v2 =>
      cases v2 with
      | cons v2 v3 => cases v3; rw [int_of v1 e, int_of v2 e2]; exact hr i j H Q ((hK _ k).now rl (.int _))
  · exact g.elim
def absF (i : Int) : Int := if i < 0 then -i else i
def maxF (i j : Int) : Int := if j > i then j else i
def minF (i j : Int) : Int := if j < i then j else i
def gcdF (a b : Int) : Int := ((Nat.gcd a.natAbs b.natAbs : Nat) : Int)
theorem on_abs : OnA F (fun xs H Q => ∃ i, xs = [V.int i] ∧ Q (.int (if i < 0 then -i else i)) H) (i1G absF) := on_i1 fun i H Q q => ⟨i, rfl, q⟩
theorem on_max : OnA F (fun xs H Q => ∃ i j, xs = [V.int i, V.int j] ∧ Q (.int (if j > i then j else i)) H) (i2G maxF) := on_i2 fun i j H Q q => ⟨i, j, rfl, q⟩
theorem on_min : OnA F (fun xs H Q => ∃ i j, xs = [V.int i, V.int j] ∧ Q (.int (if j < i then j else i)) H) (i2G minF) := on_i2 fun i j H Q q => ⟨i, j, rfl, q⟩
theorem on_gcd : OnA F rGcd (i2G gcdF) := on_i2 fun i j H Q q => ⟨i, j, rfl, q⟩
/-- int(..) of an int or a truth value -/
def intG : GA := fun xs K => match xs with
  | [.im (.int i)] => K (.im (.int i))
  | [.im (.bool b)] => K (.im (.int (if b then 1 else 0)))
  | _ => False
theorem mono_intG : MonoA intG := fun x K K' h g => by
  unfold intG at g ⊢
  split
  · exact h _ g
  · exact h _ g
  · split at g <;> simp_all
theorem on_int : OnA F (fun xs H Q => (∃ i, xs = [V.int i] ∧ Q (.int i) H) ∨ ∃ k, xs = [V.bl k] ∧ Q (.int (if k then 1 else 0)) H) intG := fun ρ S σ H xs vs K Q rl vx g hK => by
  unfold intG at g
  split at g
  · cases vx with
    | cons v1 v2 => cases v2; exact .inl ⟨_, by rw [dq_int v1], (hK _ g).now rl (.int _)⟩
  · cases vx with
    | cons v1 v2 => cases v2; exact .inr ⟨_, by rw [dq_bool v1], (hK _ g).now rl (.int _)⟩
  · exact g.elim
/-- math.isqrt -/
def isqG : GA := fun xs K => match xs with
  | [x] => got x.int? fun i => (0 ≤ i ∧ i.toNat.log2 < 13000) ∧ K (.im (.int ((Float64.isqrt i.toNat : Nat) : Int)))
  | _ => False
theorem mono_isqG : MonoA isqG := fun x K K' h g => by
  unfold isqG at g ⊢
  split
  · exact got_mono (fun d k => ⟨k.1, h _ k.2⟩) g
  · split at g <;> simp_all
def isqR : List V → Hp → VK → Prop := fun vs H Q => ∃ i : Int, vs = [.int i] ∧ (0 ≤ i ∧ i.toNat.log2 < 13000) ∧ Q (.int ((Float64.isqrt i.toNat : Nat) : Int)) H
theorem cr_isqrt : CallR X (.builtin "math.isqrt") isqR := by
  intro pins s σ H xs us Q I r h
  obtain ⟨i, rfl, ⟨h0, h1⟩, q⟩ := h
  obtain ⟨u, rfl, t, rfl⟩ := vals1 r
  exact call_function_meets PySem.W.MGF.kind_isqrt PySem.W.MGF.plain_isqrt PySem.W.MGF.entry_isqrt (PySem.W.MGF.args_isqrt _) (PySem.W.mg_run_isqrt i t (by omega) (by omega) (by omega)).meets ⟨.int _, H, I.tok _, ⟨_, rfl⟩, q⟩
theorem on_isq : OnA F isqR isqG := fun ρ S σ H xs vs K Q rl vx g hK => by
  unfold isqG at g
  split at g
  · obtain ⟨i, e, c, k⟩ := got_ex g
    cases vx with
    | cons v1 v2 => cases v2; exact ⟨i, by rw [int_of v1 e], c, (hK _ k).now rl (.int _)⟩
  · exact g.elim
/-- list(..), tuple(..) -/
def listG : GA := fun xs K => match xs with
  | [x] => got x.seq? fun ds => K (.ow ds)
  | _ => False
theorem mono_listG : MonoA listG := fun x K K' h g => by
  unfold listG at g ⊢
  split
  · exact got_mono (fun d k => h _ k) g
  · split at g <;> simp_all
def listR (K : PySem.W.Frag) : List V → Hp → VK → Prop := fun xs H Q => ∃ p ys, xs = [.ref p] ∧ (SqL K H p ys ∨ SqT K H p ys) ∧ ∀ l, H l = none → Q (.ref l) (upd H l (.lst ys))
theorem cr_list : CallR X (.type "list") (listR X.K) := call_list_of
theorem on_list {K : PySem.W.Frag} : OnA F (listR K) listG := fun ρ S σ H xs vs K Q r vx g hK => by
  unfold listG at g
  split at g
  · obtain ⟨ds, e, k⟩ := got_ex g
    cases vx with
    | cons v1 v2 =>
      cases v2
      obtain ⟨a, ys, rfl, h, hd⟩ := v1.seq r.fr e
      exact ⟨a, ys, rfl, h.imp .of .of, fun l hl => (hK _ k).lst r hd hl⟩
  · exact g.elim
def tupleG : GA := fun xs K => match xs with
  | [x] => got x.seq? fun ds => K (.im (.tuple ds))
  | _ => False
theorem mono_tupleG : MonoA tupleG := fun x K K' h g => by
  unfold tupleG at g ⊢
  split
  · exact got_mono (fun d k => h _ k) g
  · split at g <;> simp_all
def tupleR (K : PySem.W.Frag) : List V → Hp → VK → Prop := fun xs H Q => ∃ p ys, xs = [.ref p] ∧ ((SqL K H p ys ∧ ∀ l, H l = none → Q (.ref l) (upd H l (.tup ys))) ∨ (SqT K H p ys ∧ Q (.ref p) H))
theorem cr_tuple : CallR X (.type "tuple") (tupleR X.K) := call_tuple_of
theorem on_tuple {K : PySem.W.Frag} : OnA F (tupleR K) tupleG := fun ρ S σ H xs vs K Q r vx g hK => by
  unfold tupleG at g
  split at g
  · obtain ⟨ds, e, k⟩ := got_ex g
    cases vx with
    | cons v1 v2 =>
      cases v2
      unfold Sl.seq? at e
      split at e
      · rename_i ds' e'
        cases e
        obtain ⟨a, ys, rfl, h, hd⟩ := v1.lst r.fr e'
        exact ⟨a, ys, rfl, .inl ⟨.of h, fun l hl => (hK _ k).tup r hd hl⟩⟩
      · obtain ⟨a, ys, rfl, h, hS, hd⟩ := v1.tup r.fr e
        exact ⟨a, ys, rfl, .inr ⟨.of h, (hK _ k).now r (Dq.tup hS hd)⟩⟩
  · exact g.elim
/-- lists of ints, of truth values -/
def ints? : List D → Option (List Int)
  | [] => some []
  | .int i :: r => match ints? r with
    | some ns => some (i :: ns)
    | none => none
  | _ :: _ => none
@[simp] theorem ints_map : ∀ ns : List Int, ints? (ns.map PyData.int) = some ns
  | [] => rfl
  | n :: ns => by simp only [List.map_cons, ints?, ints_map ns]
@[simp] theorem ints_nil : ints? [] = some [] := rfl
@[simp] theorem ints_cons (i : Int) (r : List D) : ints? (.int i :: r) = (match ints? r with | some ns => some (i :: ns) | none => none) := rfl
theorem ints_of : ∀ {ds : List D} {ns : List Int}, ints? ds = some ns → ds = ns.map PyData.int
  | [], ns, h => by simp only [ints?, Option.some.injEq] at h; subst h; rfl
  | .int i :: r, ns, h => by
    simp only [ints?] at h
    split at h
    · rename_i ms e
      simp only [Option.some.injEq] at h
      subst h
      rw [ints_of e]
      rfl
    · cases h
  | .none :: _, _, h => by cases h
  | .bool _ :: _, _, h => by cases h
  | .str _ :: _, _, h => by cases h
  | .list _ :: _, _, h => by cases h
  | .tuple _ :: _, _, h => by cases h
  | .dict _ :: _, _, h => by cases h
def bools? : List D → Option (List Bool)
  | [] => some []
  | .bool i :: r => match bools? r with
    | some ns => some (i :: ns)
    | none => none
  | _ :: _ => none
@[simp] theorem bools_map : ∀ ns : List Bool, bools? (ns.map PyData.bool) = some ns
  | [] => rfl
  | n :: ns => by simp only [List.map_cons, bools?, bools_map ns]
@[simp] theorem bools_nil : bools? [] = some [] := rfl
@[simp] theorem bools_cons (i : Bool) (r : List D) : bools? (.bool i :: r) = (match bools? r with | some ns => some (i :: ns) | none => none) := rfl
theorem bools_of : ∀ {ds : List D} {ns : List Bool}, bools? ds = some ns → ds = ns.map PyData.bool
  | [], ns, h => by simp only [bools?, Option.some.injEq] at h; subst h; rfl
  | .bool i :: r, ns, h => by
    simp only [bools?] at h
    split at h
    · rename_i ms e
      simp only [Option.some.injEq] at h
      subst h
      rw [bools_of e]
      rfl
    · cases h
  | .none :: _, _, h => by cases h
  | .int _ :: _, _, h => by cases h
  | .str _ :: _, _, h => by cases h
  | .list _ :: _, _, h => by cases h
  | .tuple _ :: _, _, h => by cases h
  | .dict _ :: _, _, h => by cases h
/-- sum, max, min, sorted of a list of ints; all, any of a list of truth values -/
def sumG : GA := fun xs K => match xs with
  | [x] => got x.lst? fun ds => got (ints? ds) fun ns => K (.im (.int ns.sum))
  | _ => False
def allG (f : List Bool → Bool) : GA := fun xs K => match xs with
  | [x] => got x.lst? fun ds => got (bools? ds) fun bs => K (.im (.bool (f bs)))
  | _ => False
def maxG (le : Int → Int → Prop) : GA := fun xs K => match xs with
  | [x] => got x.lst? fun ds => got (ints? ds) fun ns => ns ≠ [] ∧ ∀ m, m ∈ ns → (∀ y, y ∈ ns → le y m) → K (.im (.int m))
  | _ => False
def sortG : GA := fun xs K => match xs with
  | [x] => got x.lst? fun ds => got (ints? ds) fun ns => ∀ ms : List Int, ms.Perm ns → ms.Pairwise (· ≤ ·) → K (.ow (ms.map PyData.int))
  | _ => False
theorem mono_sumG : MonoA sumG := fun x K K' h g => by
  unfold sumG at g ⊢
  split
  · exact got_mono (fun d k => got_mono (fun e ke => h _ ke) k) g
  · split at g <;> simp_all
theorem mono_allG {f} : MonoA (allG f) := fun x K K' h g => by
  unfold allG at g ⊢
  split
  · exact got_mono (fun d k => got_mono (fun e ke => h _ ke) k) g
  · split at g <;> simp_all
theorem mono_maxG {le} : MonoA (maxG le) := fun x K K' h g => by
  unfold maxG at g ⊢
  split
  · exact got_mono (fun d k => got_mono (fun e ke => ⟨ke.1, fun m a b => h _ (ke.2 m a b)⟩) k) g
  · split at g <;> simp_all
theorem mono_sortG : MonoA sortG := fun x K K' h g => by
  unfold sortG at g ⊢
  split
  · exact got_mono (fun d k => got_mono (fun e ke m a b => h _ (ke m a b)) k) g
  · split at g <;> simp_all
theorem vx_ints {ρ : List Sl} {S : Hp} {σ : L2.St} {H : Hp} {v : V} {sl : Sl} {K : PySem.W.Frag} {ds : List D} {ns : List Int} (f : Fr F S H) (x : VX F ρ S σ H v sl) (e : sl.lst? = some ds) (e2 : ints? ds = some ns) : ∃ a, v = .ref a ∧ SqL K H a (ns.map V.int) := by
  obtain ⟨a, xs, rfl, h, hd⟩ := x.lst f e
  rw [ints_of e2] at hd
  rw [dqa_ints hd] at h
  exact ⟨a, rfl, .of h⟩
theorem vx_bools {ρ : List Sl} {S : Hp} {σ : L2.St} {H : Hp} {v : V} {sl : Sl} {K : PySem.W.Frag} {ds : List D} {ns : List Bool} (f : Fr F S H) (x : VX F ρ S σ H v sl) (e : sl.lst? = some ds) (e2 : bools? ds = some ns) : ∃ a, v = .ref a ∧ SqL K H a (ns.map V.bl) := by
  obtain ⟨a, xs, rfl, h, hd⟩ := x.lst f e
  rw [bools_of e2] at hd
  rw [dqa_bools hd] at h
  exact ⟨a, rfl, .of h⟩
theorem on_sum {K : PySem.W.Frag} : OnA F (rSum K) sumG := fun ρ S σ H xs vs K' Q r vx g hK => by
  unfold sumG at g
  split at g
  · obtain ⟨ds, e, g⟩ := got_ex g
    obtain ⟨ns, e2, k⟩ := got_ex g
    cases vx with
    | cons v1 v2 =>
      cases v2
      obtain ⟨a, rfl, h⟩ := vx_ints (K := K) r.fr v1 e e2
      exact ⟨a, ns, rfl, h, (hK _ k).now r (.int _)⟩
  · exact g.elim
theorem on_all {K : PySem.W.Frag} : OnA F (rAll K) (allG fun bs => bs.all id) := fun ρ S σ H xs vs K' Q r vx g hK => by
  unfold allG at g
  split at g
  · obtain ⟨ds, e, g⟩ := got_ex g
    obtain ⟨ns, e2, k⟩ := got_ex g
    cases vx with
    | cons v1 v2 =>
      cases v2
      obtain ⟨a, rfl, h⟩ := vx_bools (K := K) r.fr v1 e e2
      exact ⟨a, ns, rfl, h, (hK _ k).now r (.bl _)⟩
  · exact g.elim
theorem on_any {K : PySem.W.Frag} : OnA F (rAny K) (allG fun bs => bs.any id) := fun ρ S σ H xs vs K' Q r vx g hK => by
  unfold allG at g
  split at g
  · obtain ⟨ds, e, g⟩ := got_ex g
    obtain ⟨ns, e2, k⟩ := got_ex g
    cases vx with
    | cons v1 v2 =>
      cases v2
      obtain ⟨a, rfl, h⟩ := vx_bools (K := K) r.fr v1 e e2
      exact ⟨a, ns, rfl, h, (hK _ k).now r (.bl _)⟩
  · exact g.elim
theorem on_maxL {K : PySem.W.Frag} : OnA F (rMax K) (maxG fun y m => y ≤ m) := fun ρ S σ H xs vs K' Q r vx g hK => by
  unfold maxG at g
  split at g
  · obtain ⟨ds, e, g⟩ := got_ex g
    obtain ⟨ns, e2, n, k⟩ := got_ex g
    cases vx with
    | cons v1 v2 =>
      cases v2
      obtain ⟨a, rfl, h⟩ := vx_ints (K := K) r.fr v1 e e2
      exact ⟨a, ns, rfl, h, List.length_pos_iff.mpr n, fun m a b => (hK _ (k m a b)).now r (.int _)⟩
  · exact g.elim
theorem on_minL {K : PySem.W.Frag} : OnA F (rMin K) (maxG fun y m => m ≤ y) := fun ρ S σ H xs vs K' Q r vx g hK => by
  unfold maxG at g
  split at g
  · obtain ⟨ds, e, g⟩ := got_ex g
    obtain ⟨ns, e2, n, k⟩ := got_ex g
    cases vx with
    | cons v1 v2 =>
      cases v2
      obtain ⟨a, rfl, h⟩ := vx_ints (K := K) r.fr v1 e e2
      exact ⟨a, ns, rfl, h, List.length_pos_iff.mpr n, fun m a b => (hK _ (k m a b)).now r (.int _)⟩
  · exact g.elim
theorem on_sort {K : PySem.W.Frag} : OnA F (rSortedI K) sortG := fun ρ S σ H xs vs K' Q r vx g hK => by
  unfold sortG at g
  split at g
  · obtain ⟨ds, e, g⟩ := got_ex g
    obtain ⟨ns, e2, k⟩ := got_ex g
    cases vx with
    | cons v1 v2 =>
      cases v2
      obtain ⟨a, rfl, h⟩ := vx_ints (K := K) r.fr v1 e e2
      exact ⟨a, ns, rfl, h, fun ms p h1 h2 h3 => (hK _ (k ms h1 h2)).lst r (dqa_of_ints ms) h3⟩
  · exact g.elim

/-! ### isinstance(x, T), T a built-in type -/
def tyD : D → String
  | .none => "NoneType"
  | .bool _ => "bool"
  | .int _ => "int"
  | .str _ => "str"
  | .list _ => "list"
  | .tuple _ => "tuple"
  | .dict _ => "dict"
def isT (T : String) (d : D) : Bool := tyD d == T || (T == "int" && tyD d == "bool")
def wIsi (T : String) (w : WE) : WE := fun ρ Q => w ρ fun x ρ1 => got x.dat? fun d => Q (.im (.bool (isT T d))) ρ1
theorem tyx_of {K : PySem.W.Frag} {H : Hp} {v : V} {d : D} (h : Dq H v d) : TyX K H v (.type (tyD d)) := by
  cases h with
  | non => exact .base .non
  | bl b => exact .base (.bl b)
  | int i => exact .base (.int i)
  | str x => exact .base (.str x)
  | lst h1 h2 => exact .base (.lst h1)
  | tup h1 h2 => exact .base (.tup h1)
theorem isT_kit {T : String} (hT : T = "int" ∨ T = "bool" ∨ T = "tuple" ∨ T = "list" ∨ T = "str" ∨ T = "dict") (d : D) : kitB (tyD d) T = some (isT T d) := by
  rcases hT with rfl | rfl | rfl | rfl | rfl | rfl <;> cases d <;> simp only [tyD, isT] <;> decide +kernel
theorem d_isi {T : String} {tx : Str} {e : Expr} {w : WE} {p q pos : Pos} (hT : T = "int" ∨ T = "bool" ∨ T = "tuple" ∨ T = "list" ∨ T = "str" ∨ T = "dict") (hg : Gl X "isinstance") (hm : X.mg "isinstance" = none) (he : PD X F e w) (ht : PE X (.Name tx q) (tC (.ty T)))
    (hst : starEach [.Name tx q] X.env = (false, eval (.Name tx q) X.env) :: starEach [] X.env := by rfl) (hs : starEach [e, .Name tx q] X.env = (false, eval e X.env) :: starEach [.Name tx q] X.env := by rfl) (hpl : (backTo pos (starEach [.Name tx q] X.env)).any (·.1) = false := by rfl) :
    PD X F (.Call (.Name "isinstance" p) [e, .Name tx q] [] pos) (wIsi T w) := by
  refine ⟨pe_imp (pe_callB call_isi hg hm (by decide +kernel) (pa_cons he.run (pa_cons ht pa_nil hst) hs) (by decide) (by decide) hs hpl) fun σ H Q ⟨ρ, S, rl, h⟩ => le_mk he.mono rl h fun x ρ1 hx S1 H1 v u1 g1 r1 vx => ?_, fun ρ Q Q' h q => he.mono _ _ _ (fun x ρ1 k => got_mono (fun d kd => h _ _ kd) k) q⟩
  obtain ⟨d, ed, k⟩ := got_ex hx
  exact ⟨v, .ty T, _, _, _, rfl, .ty T, tyx_of (vx.dat r1.fr ed), kit_ty (isT_kit hT d), k S1 H1 _ u1 g1 r1 (.bl _)⟩
end
end DL

set_option Elab.async false
set_option linter.all false
set_option maxRecDepth 100000
namespace DL
open PySem PySem.Spec PyProof.Rows L2
/-! ### the law's promise, and its end at the head -/
/-- given the script, True comes back -/
def spLaw (K : PySem.W.Frag) : Sp := fun vs H Q _ => ∃ (a : Addr) (ns : List Int), vs = [.ref a] ∧ SqL K H a (ns.map V.int) ∧ ns.length ≤ 63 ∧ ∀ H', Q (.bl true) H'
/-- the drawing source made of the script -/
def spSrc (K : PySem.W.Frag) : Sp := fun vs H Q _ => ∃ (a : Addr) (ns : List Int), vs = [.ref a] ∧ SqL K H a (ns.map V.int) ∧ ns.length ≤ 63 ∧
  ∀ p c H', Same H H' → H p = none → H c = none → SrcOk H' p c → Q (.ref p) H'

/-- where the script stands at the head: as a frozen list, unless it is an object of the module -/
def scrHp (K : PySem.W.Frag) (a : Addr) (o : Obj) (xs : List V) : Hp := fun b => if b = a ∧ K.lookup a = none then some (.frz o (.lst xs)) else none
theorem scr_none {K : PySem.W.Frag} {a b : Addr} {o : Obj} {xs : List V} (h : b = a → ∃ z, K.lookup a = some z) : scrHp K a o xs b = none :=
  if_neg fun ⟨e, n⟩ => by obtain ⟨z, h⟩ := h e; rw [n] at h; cases h
theorem scr_some {K : PySem.W.Frag} {a b : Addr} {o : Obj} {xs : List V} {u : HO} (h : scrHp K a o xs b = some u) : b = a ∧ K.lookup a = none ∧ u = .frz o (.lst xs) := by
  unfold scrHp at h
  split at h
  · rename_i z; exact ⟨z.1, z.2, (Option.some.inj h).symm⟩
  · cases h
theorem lawG_call {P : Program} {w : World} {K : PySem.W.Frag} {mg mb : Str → Option Value} {k : Nat} {fa a : Addr} {fd : FuncData} {x : Str} {s₁ : Shared} {vs : List Value} {ns : List Int}
    (KX : K.In s₁.heap) (hns : s₁.heap.Ns mainGlobals mg) (hb : s₁.heap.Ns builtinsNs mb) (hbb : ∀ x : Str, x ≠ "__name__" → mb x = bootBuiltins x) (hlim : s₁.heap.NoLimit) (hg : s₁.gens = #[])
    (ha : s₁.heap.get? a = some { cls := .type "list", data := .seq vs.toArray }) (hi : IntsAre vs ns) (hl : ns.length ≤ 63) (hr : Room k callerA)
    (G : ∀ base : Heap, K.In base → base.Ns mainGlobals mg → FnG P w K mg base k fa fd [x] (spLaw K)) (hbind : ∀ (s : Shared) (u : Value), BindsTo s fd ⟨[u], []⟩ [(x, u)]) :
    codeAny (model P w) callerA (.call (.ref fa) ⟨[.ref a], []⟩) (fun r s' => r = .ok (.ret (.bool true)) ∧ OldK s₁.heap s'.heap ∧ s'.os = s₁.os ∧ AllBare s'.gens) s₁ := by
  have rv := vals_ints hi
  have hsz : ns.length ≤ sizeLine := Nat.le_trans hl (by decide)
  generalize hH : scrHp K a { cls := .type "list", data := .seq vs.toArray } (ns.map V.int) = H
  have some_ : ∀ {b : Addr} {u : HO}, H b = some u → b = a ∧ K.lookup a = none ∧ u = .frz { cls := .type "list", data := .seq vs.toArray } (.lst (ns.map V.int)) := fun e => by rw [← hH] at e; exact scr_some e
  have none_ : ∀ {b : Addr}, (b = a → ∃ z, K.lookup a = some z) → H b = none := fun e => by rw [← hH]; exact scr_none e
  have ok : HOk P w H s₁.heap := fun b u z => by
    obtain ⟨rfl, _, rfl⟩ := some_ z
    exact ⟨ha, by rw [List.length_map]; exact hsz, vs, _, rv, ha⟩
  have sq : SqL K H a (ns.map V.int) := by
    cases q : K.lookup a with
    | some o =>
      have e := (KX a o q).symm.trans ha
      cases e
      exact .inr ⟨_, vs.toArray, _, q, rfl, rfl, rfl, by rw [List.size_toArray, hi.length]; exact hsz, by simpa using rv⟩
    | none => exact .inl (.inr ⟨{ cls := .type "list", data := .seq vs.toArray }, by rw [← hH]; exact if_pos ⟨rfl, q⟩⟩)
  have dictNone : ∀ {b : Addr} {o : Obj} {es : Array DictEntry} {ep : Nat}, s₁.heap.get? b = some o → o.data = .dict es ep → H b = none := fun {b o es ep} e d => by
    cases q : H b with
    | none => rfl
    | some u =>
      obtain ⟨rfl, _, _⟩ := some_ q
      rw [ha] at e
      cases e
      cases d
  have hNs : ∀ {b : Addr} {m : Str → Option Value}, s₁.heap.Ns b m → (hidT s₁.heap H).Ns b m := fun ⟨o, es, ep, e, d, r⟩ => ⟨o, es, ep, hidT_get e (dictNone e d), d, r⟩
  have inK : K.In (hidT s₁.heap H) := fun b o e => hidT_get (KX b o e) (none_ fun z => ⟨o, z ▸ e⟩)
  have md : Mod K mg (hidT s₁.heap H) := ⟨inK, hNs hns, ⟨mb, hNs hb, hbb⟩, let ⟨mc, h1, h2⟩ := hlim; ⟨mc, hNs h1, h2⟩⟩
  have nil_ : ∀ {b : Addr} {R : Prop}, b ∈ ([] : List Addr) → R := fun z => (nomatch z)
  have e0 : Env0 P w K mg (hidT s₁.heap H) callerA [] s₁ H := ⟨rfl, md, fun b o e => of_hidT e, Nat.le_of_eq (hidT_size _ _), trivial, fun b z => nil_ z, ok, .of_eq hg⟩
  refine codeAny_mono ((G _ inK (hNs hns)).run callerA [] s₁ H ⟨[.ref a], []⟩ [.ref a] [.ref a] (fun v _ => v = .bl true) hr rfl e0 (hbind s₁ (.ref a)) (.cons rfl .nil) ⟨a, ns, rfl, sq, hl, fun _ => rfl⟩) fun r s' h => ?_
  match r, h with
  | .ok (.ret u), ⟨v, H', os, bare, un, ok', r', (q : v = .bl true)⟩ =>
    subst q
    obtain rfl : u = Value.bool true := r'
    refine ⟨rfl, OldK.of_keep fun b o e => ?_, os, bare⟩
    cases q : H b with
    | none => exact un.keep b o e q (fun z => nil_ z) (by simp)
    | some u =>
      obtain ⟨rfl, _, rfl⟩ := some_ q
      rw [ha] at e
      cases e
      exact (ok' b _ (un.frzs b _ _ q)).1
/-- the goal that the head leaves -/
theorem walkG {l : PySem.W.OpenLaw} {k : Nat} {q : Program} {loose : List Str} {XP : (Str → Option Value) → Heap → Prop} {YP : World → Heap → Prop} {d : DefRec} {x : Str} (hn : l.most = some 63) (hdf : d.params.defaults = []) (hr : Room k callerA)
    (F : ∀ (w : World) (mg : Str → Option Value) (fa : Addr) (h : Heap), YP w h → h.Ns mainGlobals mg → mg d.name = some (.ref fa) →
      ∃ (K : PySem.W.Frag) (fd : FuncData), K.In h ∧ (∀ (s : Shared) (u : Value), BindsTo s fd ⟨[u], []⟩ [(x, u)]) ∧ ∀ base : Heap, K.In base → base.Ns mainGlobals mg → FnG l.prog w K mg base k fa fd [x] (spLaw K)) :
    PySem.W.WalkO q loose XP YP l.row.toRowW d [] (fun f vs => PySem.call f vs) :=
  Att.attach_call hn hdf fun w s₀ s₁ mg mb fa o pm cd doc a vs ns G Y ho hd hcd hmg hobj hints hlen hg => by
    obtain ⟨K, fd, KX, hb, hF⟩ := F w mg fa _ Y G.T.g hmg
    exact lawG_call KX G.T.g G.T.b G.T.builtins G.T.nolimit hg hobj hints hlen hr hF hb

/-! ### a law's body: the source is made, the rest is over data -/
section
variable {P : Program} {w : World} {K : PySem.W.Frag} {mg : Str → Option Value} {base : Heap} {k : Nat} {f : Addr} {fd : FuncData}
theorem fnLaw {x qual sn : Str} {params : Arguments} {first : Stmt} {rest : List Stmt} {scope : Scope} {dvs : List V} {kws : List (Str × V)} {N : List Str} {W : WS} {p1 p2 p3 p4 p5 : Pos} (F : FunD K x qual params (first :: rest) scope dvs kws f fd) (S : FnScope N ["script"] scope)
    (h0 : N[0]? = some ("script" : Str)) (h1 : N[1]? = some ("source" : Str)) (v0 : Vis scope "script") (v1 : Loc scope "source") (gl : scope.names.lookup sn = some .globalImplicit)
    (hfirst : first = .Assign [.Name "source" p1] (.Call (.Name sn p2) [.Name "script" p3] [] p4) p5) (hl : ∀ env, swapsWith (.Call (.Name sn p2) [.Name "script" p3] [] p4) (some (.Name "source" p1)) p5.line env = pure false)
    (src : Def P w K mg base k sn ["script"] (spSrc K))
    (hw : ∀ (cdv : Value) (A : Around) (outer : List Env) (s : Shared) (H : Hp) (Fr : Fm), Room k (A.deeper (envOfC qual scope s.heap.objs.size f cdv)) → Okx (cxN P w K mg base N qual scope f cdv A outer s H) → PSsD (cxN P w K mg base N qual scope f cdv A outer s H) Fr rest W)
    (hm : W { nx := fun _ => False, rt := fun d => d = .bool true } (Sl.no :: Sl.src :: List.replicate (N.length - 2) .no)) (hdb : (sn == ("__debug__" : Str)) = false := by decide) : FnG P w K mg base (k + 1) f fd ["script"] (spLaw K) := by
  refine fnG_of F S (fun vs H Q E ⟨a, ns, e, _⟩ => by rw [e]; rfl) fun cdv A outer s H vs Q hr hgd ⟨a, ns, ev, sq, hlen, hq⟩ => ?_
  subst ev
  have ok : Okx (cxN P w K mg base N qual scope f cdv A outer s H) := ⟨rfl, by have := hr.un; show (A.deeper (envOfC qual scope s.heap.objs.size f cdv)).units + 190 < cLine; omega, hgd⟩
  have hlenN : 2 ≤ N.length := by
    have := (List.getElem?_eq_some_iff.mp h1).1
    omega
  have st0 : (L2.start N [V.ref a])[0]? = some (some (V.ref a)) := rfl
  have pr : PS (cxN P w K mg base N qual scope f cdv A outer s H) first (tAsg (tCallG (spSrc K) (tCons (tVar 0) tNil)) (gName 1)) := by
    subst hfirst
    exact ps_set (i := 1) S.nd h1 v1 (pe_callG src ok hr gl (pa_cons (pe_var h0 v0) pa_nil) hdb) (hl _) (.inl rfl)
  refine ⟨_, pss_cons pr (u := fun D σ H' => ∃ G, lS G W D σ H') ⟨fun pins s1 σ H1 D I ⟨G, h⟩ => (hw cdv A outer s H G hr ok).run.run pins s1 σ H1 D I h⟩, ?_⟩
  refine ⟨_, st0, ⟨a, ns, rfl, sq, hlen, fun p c H' sm np nc so => ?_⟩⟩
  let G : Fm := ⟨H', fun _ => none, some (p, c)⟩
  have mono := (hw cdv A outer s H G hr ok).mono
  have fr : Fr G (fun _ => none) H' := ⟨fun _ _ e => (nomatch e), Same.refl _, fun _ _ e => e, fun _ _ e _ => e, fun p' c' e => (by cases e; exact ⟨so, rfl, rfl⟩), fun b ⟨p', c', e, hb⟩ => by
    cases e
    obtain ⟨_, l, m, t, cs, e1, e2, _⟩ := so
    rcases hb with rfl | rfl
    · show H' b ≠ none; rw [e1]; simp
    · show H' b ≠ none; rw [e2]; simp⟩
  have len2 : ((L2.start N [V.ref a]).set 1 (some (V.ref p))).length = N.length := by
    rw [List.length_set]
    unfold L2.start
    rw [List.length_append, List.length_map, List.length_replicate]
    simp; omega
  refine ⟨G, Sl.no :: Sl.src :: List.replicate (N.length - 2) .no, fun _ => none, ⟨?_, fr, fun i sl e => ?_, fun i j ds es e1 _ _ => ?_⟩, mono { nx := fun _ => False, rt := fun d => d = .bool true } _ _ ⟨fun ρ g => g.elim, fun d g S' H2 v u fr' dd => ?_, fun _ z => z.elim, fun _ z => z.elim⟩ hm⟩
  · rw [len2]; simp; omega
  · match i, e with
    | 0, e => cases e; trivial
    | 1, e =>
      cases e
      refine ⟨p, c, rfl, ?_⟩
      rw [List.getElem?_set_self (by rw [List.length_set] at len2; omega)]
    | i + 2, e =>
      simp only [List.getElem?_cons_succ, List.getElem?_replicate] at e
      split at e
      · cases e; trivial
      · cases e
  · match i, e1 with
    | 0, e => cases e
    | 1, e => cases e
    | i + 2, e =>
      simp only [List.getElem?_cons_succ, List.getElem?_replicate] at e
      split at e <;> cases e
  · have g' : d = .bool true := g
    subst g'
    rw [dq_bool dd]
    exact hq _
end
end DL

set_option Elab.async false
set_option linter.all false
set_option maxRecDepth 100000
namespace DL
open PySem PySem.Spec PyProof.Rows L2
/-! ### the drawing source is made: what the code reads and does, and that it makes one -/
abbrev sC (x : String) : TE := tC (.str (Str.ofString x))
abbrev rAbsR : List V → Hp → VK → Prop := fun xs H Q => ∃ i, xs = [V.int i] ∧ Q (.int (if i < 0 then -i else i)) H
abbrev rIntR : List V → Hp → VK → Prop := fun xs H Q => (∃ i, xs = [V.int i] ∧ Q (.int i) H) ∨ ∃ k, xs = [V.bl k] ∧ Q (.int (if k then 1 else 0)) H
abbrev rAddI : R2 := rI0 fun i j => .int (i + j)
abbrev rMulI : R2 := rI CMul fun i j => .int (i * j)
abbrev rModI : R2 := rI (fun _ j => 0 < j) fun i j => .int (i % j)
abbrev rDivI : R2 := rI CDiv fun i j => .int (i / j)
def tSrcTurn : TS := tAsg (tOp rModI (tCB rIntR (tCons (tOp rAddI (tOp rAddI (tOp rMulI (tVar 1) (tC (.int 69069))) (tOp rMulI (tVar 2) (tC (.int 31)))) (tC (.int 5))) tNil)) (tC (.int 2147483629))) (gName 1)
def tSrcEnd (K : PySem.W.Frag) : TS := tRet (tDisp [(sC "cells", tRevL K (tVar 3)), (sC "left", tC (.int 1)), (sC "mixed", tVar 1), (sC "turn", tC (.int 0))])
def tSrc (K : PySem.W.Frag) : TS := tSeq (tAsg (tC (.int 11)) (gName 1)) (tSeq (tFor (iList K (tVar 0)) (gName 2) tSrcTurn)
  (tSeq (tAsg (tLc (iList K (tVar 0)) (gName 2) tYes (tCB rAbsR (tCons (tVar 2) tNil)) [2]) (gName 3)) (tSrcEnd K)))
theorem sqL_up {K : PySem.W.Frag} {H H' : Hp} {a : Addr} {xs : List V} (h : SqL K H a xs) (s : Same H H') : SqL K H' a xs := by
  rcases h with h | h
  · rcases h with h | ⟨o, h⟩
    · exact .inl (.inl (s _ _ h))
    · exact .inl (.inr ⟨o, s _ _ h⟩)
  · exact .inr h
theorem same_upd {H H' : Hp} {a : Addr} {o : HO} (s : Same H H') (n : H a = none) : Same H (upd H' a o) := fun b x e => by
  by_cases z : b = a
  · subst z; rw [n] at e; cases e
  · rw [upd_ne z]; exact s b x e
theorem merge4 (a b c d : V) : mergeK [] [(kS "cells", a), (kS "left", b), (kS "mixed", c), (kS "turn", d)] = [(kS "cells", a), (kS "left", b), (kS "mixed", c), (kS "turn", d)] := rfl
theorem absI_nn (i : Int) : 0 ≤ (if i < 0 then -i else i) := by split <;> omega

theorem src_run {K : PySem.W.Frag} {vs : List V} {H : Hp} {Q : VK} (h : spSrc K vs H Q E0) : tSrc K { nx := fun _ H' => Q .non H', rt := Q } (L2.start ["script", "stirred", "cell", "cells"] vs) H := by
  obtain ⟨a, ns, rfl, sq, hl, hq⟩ := h
  refine ⟨_, rfl, ⟨a, rfl, ⟨_, sq⟩, fun i m σ' H' => m = ns.length - i ∧ i ≤ ns.length ∧ H' = H ∧ ∃ (t : Int) (u : Option V), 0 ≤ t ∧ t < 2 ^ 40 ∧ σ' = [some (.ref a), some (.int t), u, none], ⟨_, rfl, Nat.zero_le _, rfl, 11, none, by omega, by omega, rfl⟩, ?_⟩⟩
  rintro i m σ' H' ⟨rfl, hi, rfl, t, u, t0, t1, rfl⟩
  by_cases hlt : i < ns.length
  · refine .inr ⟨⟨_, .int ns[i], sq, by rw [List.getElem?_map, List.getElem?_eq_getElem hlt]; rfl⟩, fun σ2 H2 => H2 = H' ∧ ∃ (t : Int) (u : Option V), 0 ≤ t ∧ t < 2 ^ 40 ∧ σ2 = [some (.ref a), some (.int t), u, none], fun σ2 H2 ⟨e1, q⟩ => ⟨ns.length - (i + 1), by omega, rfl, hlt, e1, q⟩, fun x H2 y => ?_⟩
    obtain ⟨rfl, y⟩ := y
    have ex := y _ sq
    rw [List.getElem?_map, List.getElem?_eq_getElem hlt] at ex
    obtain rfl : V.int ns[i] = x := Option.some.inj ex
    refine ⟨_, rfl, _, _, rfl, rfl, .inr ⟨by decide, by decide⟩, ?_⟩
    refine ⟨_, rfl, _, _, rfl, rfl, .inr ⟨by decide, by decide⟩, ?_⟩
    refine ⟨_, _, rfl, rfl, _, _, rfl, rfl, .inl ⟨_, rfl, _, _, rfl, rfl, (by show (0 : Int) < 2147483629; decide), ?_⟩⟩
    refine ⟨rfl, (t * 69069 + ns[i] * 31 + 5) % 2147483629, some (.int ns[i]), Int.emod_nonneg _ (by decide), ?_, rfl⟩
    have := Int.emod_lt_of_pos (t * 69069 + ns[i] * 31 + 5) (show (0 : Int) < 2147483629 by decide)
    omega
  · refine .inl ⟨⟨_, sq, by rw [List.length_map]; omega⟩, ?_⟩
    -- the comprehension
    refine ⟨_, rfl, a, rfl, ⟨_, sq⟩, fun L hL => ⟨fun i m H2 => m = ns.length - i ∧ i ≤ ns.length ∧ ∃ as : List Int, as.length = i ∧ (∀ x ∈ as, 0 ≤ x) ∧ H2 = upd H' L (.lst (as.map V.int)), ⟨_, rfl, Nat.zero_le _, [], rfl, by simp, rfl⟩, ?_⟩⟩
    rintro i m H2 ⟨rfl, hi, as, la, pos, rfl⟩
    have sq2 : SqL K (upd H' L (.lst (as.map V.int))) a (ns.map V.int) := sqL_up sq (same_upd (Same.refl _) hL)
    by_cases hlt : i < ns.length
    · refine .inr ⟨⟨_, .int ns[i], sq2, by rw [List.getElem?_map, List.getElem?_eq_getElem hlt]; rfl⟩, fun H2 => ∃ as : List Int, as.length = i + 1 ∧ (∀ x ∈ as, 0 ≤ x) ∧ H2 = upd H' L (.lst (as.map V.int)), fun H2 q => ⟨ns.length - (i + 1), by omega, rfl, hlt, q⟩, fun x H2 y => ?_⟩
      obtain ⟨rfl, y⟩ := y
      have ex := y _ sq2
      rw [List.getElem?_map, List.getElem?_eq_getElem hlt] at ex
      obtain rfl : V.int ns[i] = x := Option.some.inj ex
      refine ⟨rfl, ?_⟩
      unfold tYes
      simp only [if_true]
      refine ⟨_, rfl, _, rfl, as.map V.int, upd_same, by rw [List.length_map, la]; exact Nat.lt_of_lt_of_le hlt (Nat.le_trans hl (by decide)), as ++ [if ns[i] < 0 then -ns[i] else ns[i]], by simp [la], fun x hx => ?_, ?_⟩
      · rcases List.mem_append.mp hx with z | z
        · exact pos x z
        · obtain rfl := List.mem_singleton.mp z
          exact absI_nn _
      · rw [upd_upd, List.map_append] <;> rfl
    · refine .inl ⟨⟨_, sq2, by rw [List.length_map]; omega⟩, ?_⟩
      -- the dict
      have sL : Same H' (upd H' L (.lst (as.map V.int))) := same_upd (Same.refl _) hL
      refine fun p np => ⟨V.ref L, rfl, L, as.map V.int, rfl, ?_, fun c nc => ⟨_, rfl, ?_⟩⟩
      · refine .inl (.inl ?_)
        have : L ≠ p := fun z => by subst z; rw [upd_same] at np; cases np
        rw [upd_ne this]; exact upd_same
      · have npH : H' p = none := by
          cases e : H' p with
          | none => rfl
          | some o => rw [sL _ _ e] at np; cases np
        have pc : p ≠ c := fun z => by subst z; rw [upd_same] at nc; cases nc
        have ncL : c ≠ L := fun z => by
          subst z
          rw [upd_ne (Ne.symm pc), upd_same] at nc
          cases nc
        have ncH : H' c = none := by
          rw [upd_ne (Ne.symm pc), upd_ne ncL] at nc; exact nc
        refine ⟨by rw [upd_ne pc]; exact upd_same, [(kS "cells", .ref c), (kS "left", .int 1), (kS "mixed", .int t), (kS "turn", .int 0)], rfl, (by simp), ?_⟩
        rw [merge4]
        refine hq p c _ ?_ npH ncH ⟨pc, 1, t, 0, as.reverse, upd_same, ?_, ?_, fun x hx => pos x (List.mem_reverse.mp hx), by decide, t0, t1, by decide⟩
        · exact same_upd (same_upd (same_upd sL npH) ncH) npH
        · rw [upd_ne (Ne.symm pc), upd_same, List.map_reverse]
        · rw [List.length_reverse]; omega
end DL

set_option Elab.async false
set_option linter.all false
set_option maxRecDepth 100000
namespace DL
open PySem PySem.Spec PyProof.Rows L2
/-! ### drawing: source, most -/
/-- some number of 0 .. most - 1 -/
def mPick : MD := fun ds Q => ∃ n : Int, ds = [.int n] ∧ n < 536870912 ∧ ∀ r : Int, 0 ≤ r → (r < n ∨ (n < 2 ∧ r = 0)) → Q (.int r)
theorem mono_mPick : MonoM mPick := fun ds Q Q' h ⟨n, e, l, q⟩ => ⟨n, e, l, fun r a b => h _ (q r a b)⟩
abbrev tKey (x : String) : TE := tDGet (tVar 0) (sC x)
def tPkHead : TS := tIfS (tB (tLt (tVar 1) (tC (.int 2)))) (tRet (tC (.int 0))) tNext
def tPkPop (K : PySem.W.Frag) : TS := tWhile (tAnd (tB (tLt (tKey "left") (tC (.int 2)))) (tB (tGt (tCB (rLen K) (tCons (tVar 2) tNil)) (tC (.int 0))))) (sDPut (tVar 0) (sC "left") (tBM0 K "list" rPop (tVar 2)))
def tPkBig : TS := tIfS (tB (tGt (tVar 3) (tC (.int 1)))) (tSeq (sDPut (tVar 0) (sC "left") (tOp rDivI (tVar 3) (tVar 1))) (tRet (tOp rModI (tCB rIntR (tCons (tVar 3) tNil)) (tVar 1)))) tNext
def tPkTurn : TS := sDPut (tVar 0) (sC "turn") (tOp rAddI (tKey "turn") (tC (.int 1)))
def tPkA (te : TE) : TS := tAsg te (gName 5)
def tPkMix : TE := tOp rModI (tCB rIntR (tCons (tOp rAddI (tKey "mixed") (tOp rMulI (tVar 4) (tC (.int 104729)))) tNil)) (tC (.int 998244353))
def tPkMix2 : TE := tOp rModI (tCB rIntR (tCons (tOp rAddI (tOp rMulI (tVar 5) (tVar 5)) (tOp rMulI (tVar 4) (tC (.int 17)))) tNil)) (tC (.int 2147483647))
def tPkOut : TS := tRet (tOp rModI (tCB rIntR (tCons (tOp rDivI (tVar 5) (tC (.int 16))) tNil)) (tVar 1))
def tPick (K : PySem.W.Frag) : TS := tSeq tPkHead (tSeq (tAsg (tKey "cells") (gName 2)) (tSeq (tPkPop K) (tSeq (tAsg (tKey "left") (gName 3)) (tSeq tPkBig (tSeq tPkTurn (tSeq (tAsg (tKey "turn") (gName 4)) (tSeq (tPkA tPkMix) (tSeq (tPkA tPkMix2) tPkOut))))))))
/-- what stays of the heap -/
structure PkH (H H1 : Hp) (p c : Addr) : Prop where
  keep : ∀ b o, H b = some o → b ≠ p → b ≠ c → H1 b = some o
  src : SrcOk H1 p c
abbrev srcD (c : Addr) (l m t : Int) : HO := .dK [(kS "cells", .ref c), (kS "left", .int l), (kS "mixed", .int m), (kS "turn", .int t)]
theorem dg_cells {H : Hp} {p c : Addr} {l m t : Int} (h : H p = some (srcD c l m t)) : DGet H p (.str (Str.ofString "cells")) (some (.ref c)) := DGet.k (k := kS "cells") h
theorem dg_left {H : Hp} {p c : Addr} {l m t : Int} (h : H p = some (srcD c l m t)) : DGet H p (.str (Str.ofString "left")) (some (.int l)) := DGet.k (k := kS "left") h
theorem dg_mixed {H : Hp} {p c : Addr} {l m t : Int} (h : H p = some (srcD c l m t)) : DGet H p (.str (Str.ofString "mixed")) (some (.int m)) := DGet.k (k := kS "mixed") h
theorem dg_turn {H : Hp} {p c : Addr} {l m t : Int} (h : H p = some (srcD c l m t)) : DGet H p (.str (Str.ofString "turn")) (some (.int t)) := DGet.k (k := kS "turn") h
theorem four_lt : (4 : Nat) < sizeLine := by decide
theorem dp_left {H : Hp} {p c : Addr} {l m t l' : Int} (h : H p = some (srcD c l m t)) : DPut H p (.str (Str.ofString "left")) (.int l') (upd H p (srcD c l' m t)) := DPut.k (k := kS "left") h four_lt
theorem dp_mixed {H : Hp} {p c : Addr} {l m t m' : Int} (h : H p = some (srcD c l m t)) : DPut H p (.str (Str.ofString "mixed")) (.int m') (upd H p (srcD c l m' t)) := DPut.k (k := kS "mixed") h four_lt
theorem dp_turn {H : Hp} {p c : Addr} {l m t t' : Int} (h : H p = some (srcD c l m t)) : DPut H p (.str (Str.ofString "turn")) (.int t') (upd H p (srcD c l m t')) := DPut.k (k := kS "turn") h four_lt
theorem PkH.up {H H1 : Hp} {p c : Addr} {o : HO} (h : PkH H H1 p c) (a : Addr) (ha : a = p ∨ a = c) (s : SrcOk (upd H1 a o) p c) : PkH H (upd H1 a o) p c :=
  ⟨fun b x e n1 n2 => by rw [upd_ne (by rcases ha with rfl | rfl <;> assumption)]; exact h.keep b x e n1 n2, s⟩
theorem lastInt (cs : List Int) (h : 0 < cs.length) : ∃ x, x ∈ cs ∧ (cs.map V.int)[(cs.map V.int).length - 1]? = some (.int x) :=
  ⟨cs[cs.length - 1], List.getElem_mem _, by rw [List.getElem?_map, List.length_map, List.getElem?_eq_getElem (by omega)]; rfl⟩
theorem ints_inj : ∀ {cs ds : List Int}, cs.map V.int = ds.map V.int → cs = ds
  | [], [], _ => rfl
  | [], _ :: _, h => by cases h
  | _ :: _, [], h => by cases h
  | c :: cs, d :: ds, h => by
    have h2 := List.cons.inj h
    rw [V.int.inj h2.1, ints_inj h2.2]
theorem pick_run {K : PySem.W.Frag} {vs : List V} {H : Hp} {Q : VK} (h : spS mPick vs H Q E0) : tPick K { nx := fun _ H' => Q .non H', rt := Q } (L2.start ["source", "most", "cells", "others", "lap", "stirred"] vs) H := by
  obtain ⟨S, ds, p, c, us, rfl, so, np, nc, sub, hd, n, rfl, hn, hq⟩ := h
  cases hd with
  | cons hd1 hd2 =>
  cases hd2
  cases hd1
  -- the end
  have fin : ∀ {H' : Hp} {r : Int}, PkH H H' p c → 0 ≤ r → (r < n ∨ (n < 2 ∧ r = 0)) → Q (.int r) H' := fun {H' r} k r0 r1 =>
    hq r r0 r1 S H' _ (Same.refl _) (fun _ _ h => h) (fun b o e => k.keep b o (sub b o e) (fun z => by subst z; rw [np] at e; cases e) (fun z => by subst z; rw [nc] at e; cases e)) k.keep k.src (.int r)
  have k0 : PkH H H p c := ⟨fun _ _ e _ _ => e, so⟩
  refine ⟨_, rfl, n, 2, rfl, rfl, _, rfl, ?_⟩
  by_cases h2 : n < 2
  · show if decide (n < 2) = true then _ else _
    rw [if_pos (decide_eq_true h2)]
    exact fin k0 (by decide) (.inr ⟨h2, rfl⟩)
  show if decide (n < 2) = true then _ else _
  rw [if_neg (fun z => h2 (of_decide_eq_true z))]
  obtain ⟨l0, m0, t0, cs0, e1, e2, _⟩ := so.2
  refine ⟨_, rfl, p, _, rfl, dg_cells e1, ?_⟩
  let σ2 : L2.St := [some (.ref p), some (.int n), some (.ref c), none, none, none]
  refine ⟨fun m σ' H' => σ' = σ2 ∧ PkH H H' p c ∧ ∃ cs : List Int, H' c = some (.lst (cs.map V.int)) ∧ m = cs.length, ⟨_, rfl, k0, cs0, e2, rfl⟩, ?_⟩
  rintro m σ' H1 ⟨rfl, k1, cs, hc, rfl⟩
  obtain ⟨pc, l, mx, t, cs', e1, e2, lc, cn, l0, m0, m1, t0⟩ := k1.src
  rw [hc] at e2
  have ecs : cs = cs' := by
    have := HO.lst.inj (Option.some.inj e2)
    exact ints_inj this
  subst ecs
  have cont : (∀ H2, PkH H H2 p c → tSeq (tAsg (tKey "left") (gName 3)) (tSeq tPkBig (tSeq tPkTurn (tSeq (tAsg (tKey "turn") (gName 4)) (tSeq (tPkA tPkMix) (tSeq (tPkA tPkMix2) tPkOut))))) { nx := fun _ H' => Q .non H', rt := Q } σ2 H2) := by
    intro H2 k2
    obtain ⟨pc, l, mx, t, cs, e1, e2, lc, cn, l0, m0, m1, t0⟩ := k2.src
    refine ⟨_, rfl, p, _, rfl, dg_left e1, ?_⟩
    refine ⟨_, rfl, l, 1, rfl, rfl, _, rfl, ?_⟩
    by_cases h1 : l > 1
    · show if decide (l > 1) = true then _ else _
      rw [if_pos (decide_eq_true h1)]
      refine ⟨_, rfl, _, rfl, _, _, rfl, rfl, ⟨by omega, by omega⟩, ⟨_, rfl, p, _, rfl, dp_left e1, ?_⟩⟩
      refine ⟨_, rfl, .inl ⟨_, rfl, _, rfl, _, _, rfl, rfl, (show 0 < n by omega), ?_⟩⟩
      refine fin (k2.up p (.inl rfl) ⟨pc, l / n, mx, t, cs, upd_same, by rw [upd_ne (Ne.symm pc)]; exact e2, lc, cn, Int.ediv_nonneg l0 (by omega), m0, m1, t0⟩) (Int.emod_nonneg _ (by omega)) (.inl (Int.emod_lt_of_pos _ (by omega)))
    · show if decide (l > 1) = true then _ else _
      rw [if_neg (fun z => h1 (of_decide_eq_true z))]
      refine ⟨_, rfl, p, _, rfl, dg_turn e1, _, _, rfl, rfl, ⟨_, rfl, p, _, rfl, dp_turn e1, ?_⟩⟩
      have k3 := k2.up (o := srcD c l mx (t + 1)) p (.inl rfl) ⟨pc, l, mx, t + 1, cs, upd_same, by rw [upd_ne (Ne.symm pc)]; exact e2, lc, cn, l0, m0, m1, by omega⟩
      have e3 : upd H2 p (srcD c l mx (t + 1)) p = some (srcD c l mx (t + 1)) := upd_same
      generalize upd H2 p (srcD c l mx (t + 1)) = H3 at k3 e3
      refine ⟨_, rfl, p, _, rfl, dg_turn e3, ?_⟩
      refine ⟨_, rfl, p, _, rfl, dg_mixed e3, _, rfl, _, _, rfl, rfl, .inr ⟨by decide, by decide⟩, _, _, rfl, rfl, .inl ⟨_, rfl, _, _, rfl, rfl, (show (0 : Int) < 998244353 by decide), ?_⟩⟩
      have g0 := Int.emod_nonneg (mx + (t + 1) * 104729) (show (998244353 : Int) ≠ 0 by decide)
      have g1 := Int.emod_lt_of_pos (mx + (t + 1) * 104729) (show (0 : Int) < 998244353 by decide)
      generalize (mx + (t + 1) * 104729) % 998244353 = st at g0 g1
      refine ⟨_, rfl, _, rfl, _, _, rfl, rfl, .inl ⟨by omega, by omega⟩, _, rfl, _, _, rfl, rfl, .inr ⟨by decide, by decide⟩, _, _, rfl, rfl, .inl ⟨_, rfl, _, _, rfl, rfl, (show (0 : Int) < 2147483647 by decide), ?_⟩⟩
      have f0 := Int.emod_nonneg (st * st + (t + 1) * 17) (show (2147483647 : Int) ≠ 0 by decide)
      generalize (st * st + (t + 1) * 17) % 2147483647 = st2 at f0
      refine ⟨_, rfl, _, _, rfl, rfl, ⟨by decide, by decide⟩, .inl ⟨_, rfl, _, rfl, _, _, rfl, rfl, (show 0 < n by omega), ?_⟩⟩
      exact fin k3 (Int.emod_nonneg _ (by omega)) (.inl (Int.emod_lt_of_pos _ (by omega)))
  refine ⟨_, rfl, p, _, rfl, dg_left e1, l, 2, rfl, rfl, _, rfl, ?_⟩
  show if decide (l < 2) = true then _ else _
  by_cases hl2 : l < 2
  · rw [if_pos (decide_eq_true hl2)]
    refine ⟨_, rfl, _, _, rfl, .inl ⟨_, .inl (.inl hc), rfl⟩, _, 0, rfl, rfl, _, rfl, ?_⟩
    show if decide (((cs.map V.int).length : Int) > 0) = true then _ else _
    by_cases hcl : 0 < cs.length
    · rw [if_pos (decide_eq_true (by rw [List.length_map]; omega))]
      obtain ⟨x, hx, ex⟩ := lastInt cs hcl
      have hdl : (cs.map V.int).dropLast = cs.dropLast.map V.int := by rw [List.map_dropLast]
      have mem : ∀ y ∈ cs.dropLast, y ∈ cs := fun y hy => by
        rw [List.dropLast_eq_take] at hy
        exact List.mem_of_mem_take hy
      have e1' : upd H1 c (.lst (cs.map V.int).dropLast) p = some (srcD c l mx t) := by rw [upd_ne pc]; exact e1
      refine ⟨fun σ' H' => σ' = σ2 ∧ PkH H H' p c ∧ ∃ ds : List Int, H' c = some (.lst (ds.map V.int)) ∧ ds.length < cs.length, fun σ' H' ⟨a1, a2, ds, a3, a4⟩ => ⟨_, a4, a1, a2, ds, a3, rfl⟩, ?_⟩
      refine ⟨_, rfl, .inl ⟨rfl, _, .inl (.inl hc)⟩, c, _, _, rfl, rfl, hc, ex, _, rfl, p, _, rfl, dp_left e1', rfl, ⟨fun b o e n1 n2 => ?_, ?_⟩, cs.dropLast, ?_, by rw [List.length_dropLast]; omega⟩
      · rw [upd_ne n1, upd_ne n2]; exact k1.keep b o e n1 n2
      · refine ⟨pc, x, mx, t, cs.dropLast, upd_same, ?_, by rw [List.length_dropLast]; omega, fun y hy => cn y (mem y hy), cn x hx, m0, m1, t0⟩
        rw [upd_ne (Ne.symm pc), upd_same, hdl]
      · rw [upd_ne (Ne.symm pc), upd_same, hdl]
    · rw [if_neg (fun z => hcl (by have := of_decide_eq_true z; rw [List.length_map] at this; omega))]
      exact cont H1 k1
  · rw [if_neg (fun z => hl2 (of_decide_eq_true z))]
    exact cont H1 k1
end DL

set_option Elab.async false
set_option linter.all false
set_option maxRecDepth 100000
namespace DL
open PySem PySem.Spec PyProof.Rows L2
theorem okb {X : Cx} (h : Okx X) {s : Shared} {H : Hp} {sc : Scope} {env : Env} {fp : List Addr} : Okx (X.blk s H sc env fp) := ⟨h.calm, h.room, h.gd⟩

theorem t_w {X : Cx} {F : Fm} {e : Expr} {w : WT} (h : PDW X F e w) : PDT X F e w := h.t
/-! ### ranges, by their arguments -/
theorem ln1 {a : WE} (m : Mono3 a) : ∀ ρ Q, wA a wN ρ Q → wA a wN ρ fun xs ρ' => xs.length = 1 ∧ Q xs ρ' := fun ρ Q q => m _ _ _ (fun x ρ1 k => ⟨rfl, k⟩) q
theorem ln2 {a b : WE} (m : Mono3 a) (mb : Mono3 b) : ∀ ρ Q, wA a (wA b wN) ρ Q → wA a (wA b wN) ρ fun xs ρ' => xs.length = 2 ∧ Q xs ρ' := fun ρ Q q => m _ _ _ (fun x ρ1 k => mb _ _ _ (fun y ρ2 k2 => ⟨rfl, k2⟩) k) q
theorem ln3 {a b c : WE} (m : Mono3 a) (mb : Mono3 b) (mc : Mono3 c) : ∀ ρ Q, wA a (wA b (wA c wN)) ρ Q → wA a (wA b (wA c wN)) ρ fun xs ρ' => xs.length = 3 ∧ Q xs ρ' :=
  fun ρ Q q => m _ _ _ (fun x ρ1 k => mb _ _ _ (fun y ρ2 k2 => mc _ _ _ (fun z ρ3 k3 => ⟨rfl, k3⟩) k2) k) q
section
variable {X : Cx} {F : Fm} {tg a b c : Expr} {wa wb wc : WE} {p pos : Pos}
theorem i_r1 (hg : Gl X "range") (hm : X.mg "range" = none) (ha : PD X F a wa) (h1 : starEach (a :: []) X.env = (false, eval a X.env) :: starEach [] X.env := by rfl) (hs : starEach [a] X.env = [(false, eval a X.env)] := by rfl) :
    PID X F tg (.Call (.Name "range" p) [a] [] pos) (wRg (wA wa wN)) := i_rg1 hg hm (a_cons ha a_nil h1) (ln1 ha.mono) hs
theorem i_r2 (hg : Gl X "range") (hm : X.mg "range" = none) (ha : PD X F a wa) (hb : PD X F b wb) (h1 : starEach (a :: [b]) X.env = (false, eval a X.env) :: starEach [b] X.env := by rfl) (h2 : starEach (b :: []) X.env = (false, eval b X.env) :: starEach [] X.env := by rfl)
    (hs : starEach [a, b] X.env = [(false, eval a X.env), (false, eval b X.env)] := by rfl) (hs2 : starEach [b] X.env = [(false, eval b X.env)] := by rfl) :
    PID X F tg (.Call (.Name "range" p) [a, b] [] pos) (wRg (wA wa (wA wb wN))) := i_rg2 hg hm (a_cons ha (a_cons hb a_nil h2) h1) (ln2 ha.mono hb.mono) hs hs2
theorem i_r3 (hg : Gl X "range") (hm : X.mg "range" = none) (ha : PD X F a wa) (hb : PD X F b wb) (hc : PD X F c wc) (h1 : starEach (a :: [b, c]) X.env = (false, eval a X.env) :: starEach [b, c] X.env := by rfl)
    (h2 : starEach (b :: [c]) X.env = (false, eval b X.env) :: starEach [c] X.env := by rfl) (h3 : starEach (c :: []) X.env = (false, eval c X.env) :: starEach [] X.env := by rfl)
    (hp : ∀ {ta : TA}, PA X [a, b, c] ta → PI X tg (.Call (.Name "range" p) [a, b, c] [] pos) (iRng3 ta)) :
    PID X F tg (.Call (.Name "range" p) [a, b, c] [] pos) (wRg (wA wa (wA wb (wA wc wN)))) :=
  have pa := a_cons ha (a_cons hb (a_cons hc a_nil h3) h2) h1
  i_rg3 (t := fun _ _ _ => True) hg hm pa (ln3 ha.mono hb.mono hc.mono) (hp pa.run)
end

/-! ### a[::-1] of a tuple -/
theorem places_rev (n : Nat) : Builtin.Slice.slicePlaces ((n : Int) - 1) (-1) (-1) = n := by
  unfold Builtin.Slice.slicePlaces
  rw [if_neg (by decide)]
  by_cases h : ((n : Int) - 1) > -1
  · rw [if_pos h, show (-(-1) : Int) = 1 by decide, Int.ediv_one]; omega
  · rw [if_neg h]; omega
theorem fm_same {α β : Type} {f g : α → Option β} : ∀ {l : List α}, (∀ x ∈ l, f x = g x) → l.filterMap f = l.filterMap g
  | [], _ => rfl
  | x :: l, h => by rw [List.filterMap_cons, List.filterMap_cons, h x List.mem_cons_self, fm_same fun y hy => h y (List.mem_cons_of_mem _ hy)]
theorem picked_rev (xs : Array Value) : ((List.range xs.size).filterMap fun (m : Nat) => xs[((xs.size : Int) - 1 + (m : Int) * -1).toNat]?).toArray = xs.toList.reverse.toArray := by
  have e : (List.range xs.size).filterMap (fun (m : Nat) => xs[((xs.size : Int) - 1 + (m : Int) * -1).toNat]?) = ((List.range xs.size).map fun k => xs.size - 1 - k).filterMap (xs[·]?) := by
    rw [List.filterMap_map]
    refine fm_same fun m hm => ?_
    have := List.mem_range.mp hm
    show xs[((xs.size : Int) - 1 + (m : Int) * -1).toNat]? = xs[xs.size - 1 - m]?
    congr 1
    omega
  rw [e, PySem.W.krv_range, List.filterMap_reverse, PySem.W.krv_all]
section
variable {prog : Program} {w : World} {A : Around} {E : Value → Shared → Prop} {s : Shared}
theorem applied_rev {sl : Addr} {vs : Value} {n : Nat} {Q : Int × Int × Nat → Shared → Prop} (hs : s.heap.IsSliceOf sl .none .none vs) (ps : IsPart vs (some (-1))) (h : Q ((n : Int) - 1, -1, n) s) : wpAny (model prog w) A (Builtin.Slice.sliceApplied (.ref sl) (pure (n : Int))) Q E s := by
  obtain ⟨os, a1, a2, a3⟩ := id hs
  unfold Builtin.Slice.sliceApplied Builtin.Slice.sliceFields
  refine wpAny_bind (wpAny_bind (wpAny_field a1 a3 (x := .none) rfl (wpAny_bind (wpAny_field a1 a3 (x := .none) rfl (wpAny_bind (wpAny_field a1 a3 (x := vs) rfl (wpAny_pure ?_)))))))
  refine wpAny_bind (HT.slicePart_ ps ?_)
  show wpAny _ _ (if ((-1 : Int) == 0) = true then _ else _) _ _ s
  rw [if_neg (by decide)]
  refine wpAny_bind (HT.slicePart_ .none (wpAny_bind (HT.slicePart_ .none (wpAny_bind (wpAny_pure ?_)))))
  show wpAny _ _ (match Builtin.Slice.sliceAdjust none none (-1) (n : Int) with | (lo, hi) => pure (lo, (-1 : Int), Builtin.Slice.slicePlaces lo hi (-1))) _ _ s
  have e : Builtin.Slice.sliceAdjust none none (-1) (n : Int) = ((n : Int) - 1, -1) := rfl
  rw [e]
  show wpAny _ _ (pure ((n : Int) - 1, (-1 : Int), Builtin.Slice.slicePlaces ((n : Int) - 1) (-1) (-1))) _ _ s
  rw [places_rev]
  exact wpAny_pure h
theorem item_rev {t sl : Addr} {items : Array Value} {vs : Value} {Q : Value → Shared → Prop} (ht : IsTup s.heap t items) (hs : s.heap.IsSliceOf sl .none .none vs) (ps : IsPart vs (some (-1))) (hz : items.size ≤ sizeLine)
    (h : Q (.ref s.heap.objs.size) { s with heap := s.heap.push { cls := .type "tuple", data := .seq items.toList.reverse.toArray } }) : wpAny (model prog w) A (getItem (.ref t) (.ref sl)) Q E s := by
  have fits : sizeOk (.seq items.toList.reverse.toArray) := by
    show items.toList.reverse.toArray.size ≤ sizeLine
    rw [List.size_toArray, List.length_reverse, Array.length_toList]; exact hz
  obtain ⟨os, b1, b2, b3⟩ := id hs
  have ty : s.TypeIs (.ref sl) "slice" := ⟨os, b1, b2⟩
  unfold getItem
  try with_reducible refine wpAny_holding ?_
  first | refine wpAny_bind (wpAny_pure ?_) | skip
  refine wpAny_bind (wpAny_sequenceKey ht.typeIs (by decide) (wpAny_bind (wpAny_callSpecial?_slot (name := Str.ofString "__getitem__") ht.typeIs PyProof.Rows.slot_tuple_getitem (wpAny_call_entry PyProof.Rows.slot_tuple_getitem ht.typeIs entry_tuple_getitem ?_ (args_tuple_getitem _ _)))))
  show wpAny _ _ (Builtin.Tuple.tupleItemsOf (.ref t) >>= _) _ _ s
  refine wpAny_bind (PyProof.Rows.tupleItemsOf_ ht (wpAny_bind (wpAny_typeOf ty ?_)))
  rw [if_pos (by decide)]
  refine wpAny_bind (applied_rev hs ps ?_)
  have no : ¬ (((items.size : Int) - 1 == 0 && (-1 : Int) == 1 && items.size == items.size) = true) := fun z => by
    rw [Bool.and_eq_true, Bool.and_eq_true] at z
    exact absurd z.1.2 (by decide)
  show wpAny _ _ (if ((items.size : Int) - 1 == 0 && (-1 : Int) == 1 && items.size == items.size) = true then _ else _) _ _ s
  rw [if_neg no, picked_rev]
  exact wpAny_bind (m := Builtin.Tuple.tupleExact _) (wpAny_newObj_type (wpAny_pure ⟨_, rfl, wpAny_pure h⟩) fits)
end
/-- a[::-1] of a list or a tuple -/
def tRv (K : PySem.W.Frag) (te : TE) : TE := fun σ H Q => te σ H fun x H1 => ∃ a xs, x = .ref a ∧ ((SqL K H1 a xs ∧ ∀ p, H1 p = none → Q (.ref p) (upd H1 p (.lst xs.reverse))) ∨ (SqT K H1 a xs ∧ ∀ p, H1 p = none → Q (.ref p) (upd H1 p (.tup xs.reverse))))
theorem pe_rv {X : Cx} {e : Expr} {te : TE} {k : Nat} {p1 p2 p3 pos : Pos} (he : PE X e te) : PE X (.Subscript e (.Slice none none (some (.UnaryOp .USub (.Constant (.int 1) k p1) p2)) p3) pos) (tRv X.K te) := by
  refine ⟨fun pins s σ H Q I h => ?_⟩
  refine Subscript_ (thn (he.run pins s σ H _ I h) fun v s1 ⟨x, H1, I1, r1, a, xs, ex, hx⟩ => ?_)
  subst ex
  cases r1
  have stp : PO X (some (.UnaryOp .USub (.Constant (.int 1) k p1) p2)) (tPart (tUn (rU fun i => .int (-i)) (tC (.int 1)))) := po_some (pe_un un_neg pe_int)
  refine wpAny_Slice (thn (po_none.run pins s1 σ H1 (fun o H2 => o = none ∧ H2 = H1) I1 ⟨rfl, rfl⟩) fun vl s2 ⟨l, H2, I2, pl, el, e2⟩ => thn (po_none.run pins s2 σ H1 (fun o H3 => o = none ∧ H3 = H1) (e2 ▸ I2) ⟨rfl, rfl⟩) fun vu s3 ⟨u, H3, I3, pu, eu, e3⟩ => ?_)
  subst el eu e3
  refine thn (stp.run pins s3 σ H3 (fun o H4 => o = some (-1) ∧ H4 = H3) I3 ⟨1, rfl, -1, rfl, rfl, rfl⟩) fun vs s4 ⟨o, H4, I4, ps, eo, e4⟩ => ?_
  subst eo e4
  have I5 : Inv X pins σ H4 { s4 with heap := s4.heap.push { cls := .type "slice", data := .fields #[vl, vu, vs] } } := I4.kept (t' := s4.toks) fun b ob q => Heap.get?_push_of_some _ q
  show wpAny (model X.prog X.w) X.A (subscriptTail e (.Slice none none (some (.UnaryOp .USub (.Constant (.int 1) k p1) p2)) p3) (.ref a) (.ref s4.heap.objs.size)) (EP X pins σ Q) X.xe { s4 with heap := s4.heap.push { cls := .type "slice", data := .fields #[vl, vu, vs] } }
  rcases hx with ⟨hx, q⟩ | ⟨hx, q⟩
  · obtain ⟨its, r, ht, hz⟩ := I5.list hx
    have hlen := r.length
    refine tail_any (ops := [.ref a, .ref s4.heap.objs.size]) ht.isList.typeIs (PySem.slot_list_getitem.lookup) ?_ (by with_unfolding_all rfl)
    refine wpAny_getItem_list_slice ht.isList (Heap.IsSliceOf.new _ vl vu vs) pl pu ps (by decide) ?_ (by rw [List.size_toArray]; omega)
    rw [PySem.W.krv_pick]
    exact ⟨.ref _, _, I5.laid (t' := s4.toks) (o := .lst xs.reverse) (fun b ob q => Heap.get?_push_of_some _ q) (Nat.le_refl _) ⟨by rw [List.length_reverse]; exact hz, _, 0, r.reverse, Heap.get?_push_size _ rfl⟩, rfl, q _ (I5.hok.fresh (Nat.le_refl _))⟩
  · obtain ⟨its, r, ht, hz⟩ := I5.tuple hx
    have hlen := r.length
    cases pl
    cases pu
    refine tail_any (ops := [.ref a, .ref s4.heap.objs.size]) (IsTup.typeIs ht) (PyProof.Rows.slot_tuple_getitem.lookup) ?_ (by with_unfolding_all rfl)
    refine item_rev ht (Heap.IsSliceOf.new _ .none .none vs) ps (by rw [List.size_toArray]; omega) ?_
    exact ⟨.ref _, _, I5.laid (t' := s4.toks) (o := .tup xs.reverse) (fun b ob q => Heap.get?_push_of_some _ q) (Nat.le_refl _) ⟨by rw [List.length_reverse]; exact hz, _, r.reverse, IsTup.new _ _⟩, rfl, q _ (I5.hok.fresh (Nat.le_refl _))⟩
def rvG : G1 := fun x K => match x.tup? with
  | some ds => K (.im (.tuple ds.reverse))
  | none => got x.lst? fun ds => K (.ow ds.reverse)
theorem mono_rvG : Mono1 rvG := fun x K K' h g => by
  unfold rvG at g ⊢
  split
  · rename_i ds e; rw [e] at g; exact h _ g
  · rename_i e; rw [e] at g; exact got_mono (fun ds k => h _ k) g
theorem d_rev {X : Cx} {F : Fm} {a : Expr} {wa : WE} {k : Nat} {p1 p2 p3 pos : Pos} (ha : PD X F a wa) : PD X F (.Subscript a (.Slice none none (some (.UnaryOp .USub (.Constant (.int 1) k p1) p2)) p3) pos) (w1 rvG wa) := by
  refine ⟨pe_imp (pe_rv ha.run) fun σ H Q ⟨ρ, S, rl, h⟩ => le_mk ha.mono rl h fun x ρ1 hx S1 H1 v u1 g1 r1 vx => ?_, mono_w1 ha.mono mono_rvG⟩
  unfold rvG at hx
  split at hx
  · rename_i ds e
    obtain ⟨b, xs, rfl, h1, h1', hd⟩ := vx.tup r1.fr e
    exact ⟨b, xs, rfl, .inr ⟨.of h1, fun p hp => (hx.up u1 g1).tup r1 (dqa_rev hd) hp⟩⟩
  · obtain ⟨ds, e, q⟩ := got_ex hx
    obtain ⟨b, xs, rfl, h1, hd⟩ := vx.lst r1.fr e
    exact ⟨b, xs, rfl, .inl ⟨.of h1, fun p hp => (q.up u1 g1).lst r1 (dqa_rev hd) hp⟩⟩
end DL

set_option Elab.async false
set_option linter.all false
set_option maxRecDepth 100000
namespace DL
open PySem PySem.Spec PyProof.Rows L2
/-- what isqrt takes, and gives -/
def okSq (m : Int) : Prop := 0 ≤ m ∧ m.toNat.log2 < 13000
def sqF (m : Int) : Int := ((Float64.isqrt m.toNat : Nat) : Int)
section
variable {a b : WS} {w wa wb wc : WE} {t u : WT} {r : WA} {D0 : DE} {ρ : List Sl} {i : Nat} {g g2 : G2} {g1 : G1} {gg : TGD} {gs : TGDs} {Q : Sl → List Sl → Prop} {QT : Bool → List Sl → Prop} {QA : List Sl → List Sl → Prop} {QO : Option Int → List Sl → Prop} {QI : List D → List Sl → Prop} {K : Sl → Prop}
/-- a slot is put -/
def putK (N : List Sl → Prop) (i : Nat) (y : Sl) (ρ : List Sl) : Prop := N (ρ.set i y)
theorem restD_out {v : Nat} : ∀ (j : Nat) (os ns : List Sl), v < j → restD [v] j os ns = ns
  | j, [], ns, _ => by cases ns <;> rfl
  | j, _ :: _, [], _ => rfl
  | j, o :: os, n :: ns, h => by
    rw [restD, restD_out (j + 1) os ns (by omega), if_neg (by simp; omega)]
/-- behind a turn of a comprehension -/
def restK (v : Nat) (N : List Sl → Prop) (ρ ρ3 : List Sl) : Prop := N (restD [v] 0 ρ ρ3)
@[simp] theorem keepI_i {d : D} : keepI (.im d) = .im d := id rfl
@[simp] theorem keepI_n : keepI .no = .no := id rfl
@[simp ↓] theorem x_put0 {s0 y : Sl} {rr : List Sl} {N : List Sl → Prop} : putK N 0 y (s0 :: rr) = N (y :: rr) := id rfl
@[simp ↓] theorem x_rest0 {s0 t0 : Sl} {rr r3 : List Sl} {N : List Sl → Prop} : restK 0 N (s0 :: rr) (t0 :: r3) = N (keepI s0 :: r3) := by unfold restK; simp [restD, restD_out]
@[simp ↓] theorem x_put1 {s0 s1 y : Sl} {rr : List Sl} {N : List Sl → Prop} : putK N 1 y (s0 :: s1 :: rr) = N (s0 :: y :: rr) := id rfl
@[simp ↓] theorem x_rest1 {s0 s1 t0 t1 : Sl} {rr r3 : List Sl} {N : List Sl → Prop} : restK 1 N (s0 :: s1 :: rr) (t0 :: t1 :: r3) = N (t0 :: keepI s1 :: r3) := by unfold restK; simp [restD, restD_out]
@[simp ↓] theorem x_put2 {s0 s1 s2 y : Sl} {rr : List Sl} {N : List Sl → Prop} : putK N 2 y (s0 :: s1 :: s2 :: rr) = N (s0 :: s1 :: y :: rr) := id rfl
@[simp ↓] theorem x_rest2 {s0 s1 s2 t0 t1 t2 : Sl} {rr r3 : List Sl} {N : List Sl → Prop} : restK 2 N (s0 :: s1 :: s2 :: rr) (t0 :: t1 :: t2 :: r3) = N (t0 :: t1 :: keepI s2 :: r3) := by unfold restK; simp [restD, restD_out]
@[simp ↓] theorem x_put3 {s0 s1 s2 s3 y : Sl} {rr : List Sl} {N : List Sl → Prop} : putK N 3 y (s0 :: s1 :: s2 :: s3 :: rr) = N (s0 :: s1 :: s2 :: y :: rr) := id rfl
@[simp ↓] theorem x_rest3 {s0 s1 s2 s3 t0 t1 t2 t3 : Sl} {rr r3 : List Sl} {N : List Sl → Prop} : restK 3 N (s0 :: s1 :: s2 :: s3 :: rr) (t0 :: t1 :: t2 :: t3 :: r3) = N (t0 :: t1 :: t2 :: keepI s3 :: r3) := by unfold restK; simp [restD, restD_out]
@[simp ↓] theorem x_put4 {s0 s1 s2 s3 s4 y : Sl} {rr : List Sl} {N : List Sl → Prop} : putK N 4 y (s0 :: s1 :: s2 :: s3 :: s4 :: rr) = N (s0 :: s1 :: s2 :: s3 :: y :: rr) := id rfl
@[simp ↓] theorem x_rest4 {s0 s1 s2 s3 s4 t0 t1 t2 t3 t4 : Sl} {rr r3 : List Sl} {N : List Sl → Prop} : restK 4 N (s0 :: s1 :: s2 :: s3 :: s4 :: rr) (t0 :: t1 :: t2 :: t3 :: t4 :: r3) = N (t0 :: t1 :: t2 :: t3 :: keepI s4 :: r3) := by unfold restK; simp [restD, restD_out]
@[simp ↓] theorem x_put5 {s0 s1 s2 s3 s4 s5 y : Sl} {rr : List Sl} {N : List Sl → Prop} : putK N 5 y (s0 :: s1 :: s2 :: s3 :: s4 :: s5 :: rr) = N (s0 :: s1 :: s2 :: s3 :: s4 :: y :: rr) := id rfl
@[simp ↓] theorem x_rest5 {s0 s1 s2 s3 s4 s5 t0 t1 t2 t3 t4 t5 : Sl} {rr r3 : List Sl} {N : List Sl → Prop} : restK 5 N (s0 :: s1 :: s2 :: s3 :: s4 :: s5 :: rr) (t0 :: t1 :: t2 :: t3 :: t4 :: t5 :: r3) = N (t0 :: t1 :: t2 :: t3 :: t4 :: keepI s5 :: r3) := by unfold restK; simp [restD, restD_out]
@[simp ↓] theorem x_put6 {s0 s1 s2 s3 s4 s5 s6 y : Sl} {rr : List Sl} {N : List Sl → Prop} : putK N 6 y (s0 :: s1 :: s2 :: s3 :: s4 :: s5 :: s6 :: rr) = N (s0 :: s1 :: s2 :: s3 :: s4 :: s5 :: y :: rr) := id rfl
@[simp ↓] theorem x_rest6 {s0 s1 s2 s3 s4 s5 s6 t0 t1 t2 t3 t4 t5 t6 : Sl} {rr r3 : List Sl} {N : List Sl → Prop} : restK 6 N (s0 :: s1 :: s2 :: s3 :: s4 :: s5 :: s6 :: rr) (t0 :: t1 :: t2 :: t3 :: t4 :: t5 :: t6 :: r3) = N (t0 :: t1 :: t2 :: t3 :: t4 :: t5 :: keepI s6 :: r3) := by unfold restK; simp [restD, restD_out]
@[simp ↓] theorem x_put7 {s0 s1 s2 s3 s4 s5 s6 s7 y : Sl} {rr : List Sl} {N : List Sl → Prop} : putK N 7 y (s0 :: s1 :: s2 :: s3 :: s4 :: s5 :: s6 :: s7 :: rr) = N (s0 :: s1 :: s2 :: s3 :: s4 :: s5 :: s6 :: y :: rr) := id rfl
@[simp ↓] theorem x_rest7 {s0 s1 s2 s3 s4 s5 s6 s7 t0 t1 t2 t3 t4 t5 t6 t7 : Sl} {rr r3 : List Sl} {N : List Sl → Prop} : restK 7 N (s0 :: s1 :: s2 :: s3 :: s4 :: s5 :: s6 :: s7 :: rr) (t0 :: t1 :: t2 :: t3 :: t4 :: t5 :: t6 :: t7 :: r3) = N (t0 :: t1 :: t2 :: t3 :: t4 :: t5 :: t6 :: keepI s7 :: r3) := by unfold restK; simp [restD, restD_out]
@[simp ↓] theorem x_put8 {s0 s1 s2 s3 s4 s5 s6 s7 s8 y : Sl} {rr : List Sl} {N : List Sl → Prop} : putK N 8 y (s0 :: s1 :: s2 :: s3 :: s4 :: s5 :: s6 :: s7 :: s8 :: rr) = N (s0 :: s1 :: s2 :: s3 :: s4 :: s5 :: s6 :: s7 :: y :: rr) := id rfl
@[simp ↓] theorem x_rest8 {s0 s1 s2 s3 s4 s5 s6 s7 s8 t0 t1 t2 t3 t4 t5 t6 t7 t8 : Sl} {rr r3 : List Sl} {N : List Sl → Prop} : restK 8 N (s0 :: s1 :: s2 :: s3 :: s4 :: s5 :: s6 :: s7 :: s8 :: rr) (t0 :: t1 :: t2 :: t3 :: t4 :: t5 :: t6 :: t7 :: t8 :: r3) = N (t0 :: t1 :: t2 :: t3 :: t4 :: t5 :: t6 :: t7 :: keepI s8 :: r3) := by unfold restK; simp [restD, restD_out]
@[simp ↓] theorem x_put9 {s0 s1 s2 s3 s4 s5 s6 s7 s8 s9 y : Sl} {rr : List Sl} {N : List Sl → Prop} : putK N 9 y (s0 :: s1 :: s2 :: s3 :: s4 :: s5 :: s6 :: s7 :: s8 :: s9 :: rr) = N (s0 :: s1 :: s2 :: s3 :: s4 :: s5 :: s6 :: s7 :: s8 :: y :: rr) := id rfl
@[simp ↓] theorem x_rest9 {s0 s1 s2 s3 s4 s5 s6 s7 s8 s9 t0 t1 t2 t3 t4 t5 t6 t7 t8 t9 : Sl} {rr r3 : List Sl} {N : List Sl → Prop} : restK 9 N (s0 :: s1 :: s2 :: s3 :: s4 :: s5 :: s6 :: s7 :: s8 :: s9 :: rr) (t0 :: t1 :: t2 :: t3 :: t4 :: t5 :: t6 :: t7 :: t8 :: t9 :: r3) = N (t0 :: t1 :: t2 :: t3 :: t4 :: t5 :: t6 :: t7 :: t8 :: keepI s9 :: r3) := by unfold restK; simp [restD, restD_out]
@[simp ↓] theorem x_put10 {s0 s1 s2 s3 s4 s5 s6 s7 s8 s9 s10 y : Sl} {rr : List Sl} {N : List Sl → Prop} : putK N 10 y (s0 :: s1 :: s2 :: s3 :: s4 :: s5 :: s6 :: s7 :: s8 :: s9 :: s10 :: rr) = N (s0 :: s1 :: s2 :: s3 :: s4 :: s5 :: s6 :: s7 :: s8 :: s9 :: y :: rr) := id rfl
@[simp ↓] theorem x_rest10 {s0 s1 s2 s3 s4 s5 s6 s7 s8 s9 s10 t0 t1 t2 t3 t4 t5 t6 t7 t8 t9 t10 : Sl} {rr r3 : List Sl} {N : List Sl → Prop} : restK 10 N (s0 :: s1 :: s2 :: s3 :: s4 :: s5 :: s6 :: s7 :: s8 :: s9 :: s10 :: rr) (t0 :: t1 :: t2 :: t3 :: t4 :: t5 :: t6 :: t7 :: t8 :: t9 :: t10 :: r3) = N (t0 :: t1 :: t2 :: t3 :: t4 :: t5 :: t6 :: t7 :: t8 :: t9 :: keepI s10 :: r3) := by unfold restK; simp [restD, restD_out]
@[simp ↓] theorem x_put11 {s0 s1 s2 s3 s4 s5 s6 s7 s8 s9 s10 s11 y : Sl} {rr : List Sl} {N : List Sl → Prop} : putK N 11 y (s0 :: s1 :: s2 :: s3 :: s4 :: s5 :: s6 :: s7 :: s8 :: s9 :: s10 :: s11 :: rr) = N (s0 :: s1 :: s2 :: s3 :: s4 :: s5 :: s6 :: s7 :: s8 :: s9 :: s10 :: y :: rr) := id rfl
@[simp ↓] theorem x_rest11 {s0 s1 s2 s3 s4 s5 s6 s7 s8 s9 s10 s11 t0 t1 t2 t3 t4 t5 t6 t7 t8 t9 t10 t11 : Sl} {rr r3 : List Sl} {N : List Sl → Prop} : restK 11 N (s0 :: s1 :: s2 :: s3 :: s4 :: s5 :: s6 :: s7 :: s8 :: s9 :: s10 :: s11 :: rr) (t0 :: t1 :: t2 :: t3 :: t4 :: t5 :: t6 :: t7 :: t8 :: t9 :: t10 :: t11 :: r3) = N (t0 :: t1 :: t2 :: t3 :: t4 :: t5 :: t6 :: t7 :: t8 :: t9 :: t10 :: keepI s11 :: r3) := by unfold restK; simp [restD, restD_out]
@[simp ↓] theorem x_put12 {s0 s1 s2 s3 s4 s5 s6 s7 s8 s9 s10 s11 s12 y : Sl} {rr : List Sl} {N : List Sl → Prop} : putK N 12 y (s0 :: s1 :: s2 :: s3 :: s4 :: s5 :: s6 :: s7 :: s8 :: s9 :: s10 :: s11 :: s12 :: rr) = N (s0 :: s1 :: s2 :: s3 :: s4 :: s5 :: s6 :: s7 :: s8 :: s9 :: s10 :: s11 :: y :: rr) := id rfl
@[simp ↓] theorem x_rest12 {s0 s1 s2 s3 s4 s5 s6 s7 s8 s9 s10 s11 s12 t0 t1 t2 t3 t4 t5 t6 t7 t8 t9 t10 t11 t12 : Sl} {rr r3 : List Sl} {N : List Sl → Prop} : restK 12 N (s0 :: s1 :: s2 :: s3 :: s4 :: s5 :: s6 :: s7 :: s8 :: s9 :: s10 :: s11 :: s12 :: rr) (t0 :: t1 :: t2 :: t3 :: t4 :: t5 :: t6 :: t7 :: t8 :: t9 :: t10 :: t11 :: t12 :: r3) = N (t0 :: t1 :: t2 :: t3 :: t4 :: t5 :: t6 :: t7 :: t8 :: t9 :: t10 :: t11 :: keepI s12 :: r3) := by unfold restK; simp [restD, restD_out]
@[simp ↓] theorem x_put13 {s0 s1 s2 s3 s4 s5 s6 s7 s8 s9 s10 s11 s12 s13 y : Sl} {rr : List Sl} {N : List Sl → Prop} : putK N 13 y (s0 :: s1 :: s2 :: s3 :: s4 :: s5 :: s6 :: s7 :: s8 :: s9 :: s10 :: s11 :: s12 :: s13 :: rr) = N (s0 :: s1 :: s2 :: s3 :: s4 :: s5 :: s6 :: s7 :: s8 :: s9 :: s10 :: s11 :: s12 :: y :: rr) := id rfl
@[simp ↓] theorem x_rest13 {s0 s1 s2 s3 s4 s5 s6 s7 s8 s9 s10 s11 s12 s13 t0 t1 t2 t3 t4 t5 t6 t7 t8 t9 t10 t11 t12 t13 : Sl} {rr r3 : List Sl} {N : List Sl → Prop} : restK 13 N (s0 :: s1 :: s2 :: s3 :: s4 :: s5 :: s6 :: s7 :: s8 :: s9 :: s10 :: s11 :: s12 :: s13 :: rr) (t0 :: t1 :: t2 :: t3 :: t4 :: t5 :: t6 :: t7 :: t8 :: t9 :: t10 :: t11 :: t12 :: t13 :: r3) = N (t0 :: t1 :: t2 :: t3 :: t4 :: t5 :: t6 :: t7 :: t8 :: t9 :: t10 :: t11 :: t12 :: keepI s13 :: r3) := by unfold restK; simp [restD, restD_out]
@[simp ↓] theorem x_put14 {s0 s1 s2 s3 s4 s5 s6 s7 s8 s9 s10 s11 s12 s13 s14 y : Sl} {rr : List Sl} {N : List Sl → Prop} : putK N 14 y (s0 :: s1 :: s2 :: s3 :: s4 :: s5 :: s6 :: s7 :: s8 :: s9 :: s10 :: s11 :: s12 :: s13 :: s14 :: rr) = N (s0 :: s1 :: s2 :: s3 :: s4 :: s5 :: s6 :: s7 :: s8 :: s9 :: s10 :: s11 :: s12 :: s13 :: y :: rr) := id rfl
@[simp ↓] theorem x_rest14 {s0 s1 s2 s3 s4 s5 s6 s7 s8 s9 s10 s11 s12 s13 s14 t0 t1 t2 t3 t4 t5 t6 t7 t8 t9 t10 t11 t12 t13 t14 : Sl} {rr r3 : List Sl} {N : List Sl → Prop} : restK 14 N (s0 :: s1 :: s2 :: s3 :: s4 :: s5 :: s6 :: s7 :: s8 :: s9 :: s10 :: s11 :: s12 :: s13 :: s14 :: rr) (t0 :: t1 :: t2 :: t3 :: t4 :: t5 :: t6 :: t7 :: t8 :: t9 :: t10 :: t11 :: t12 :: t13 :: t14 :: r3) = N (t0 :: t1 :: t2 :: t3 :: t4 :: t5 :: t6 :: t7 :: t8 :: t9 :: t10 :: t11 :: t12 :: t13 :: keepI s14 :: r3) := by unfold restK; simp [restD, restD_out]
@[simp ↓] theorem x_put15 {s0 s1 s2 s3 s4 s5 s6 s7 s8 s9 s10 s11 s12 s13 s14 s15 y : Sl} {rr : List Sl} {N : List Sl → Prop} : putK N 15 y (s0 :: s1 :: s2 :: s3 :: s4 :: s5 :: s6 :: s7 :: s8 :: s9 :: s10 :: s11 :: s12 :: s13 :: s14 :: s15 :: rr) = N (s0 :: s1 :: s2 :: s3 :: s4 :: s5 :: s6 :: s7 :: s8 :: s9 :: s10 :: s11 :: s12 :: s13 :: s14 :: y :: rr) := id rfl
@[simp ↓] theorem x_rest15 {s0 s1 s2 s3 s4 s5 s6 s7 s8 s9 s10 s11 s12 s13 s14 s15 t0 t1 t2 t3 t4 t5 t6 t7 t8 t9 t10 t11 t12 t13 t14 t15 : Sl} {rr r3 : List Sl} {N : List Sl → Prop} : restK 15 N (s0 :: s1 :: s2 :: s3 :: s4 :: s5 :: s6 :: s7 :: s8 :: s9 :: s10 :: s11 :: s12 :: s13 :: s14 :: s15 :: rr) (t0 :: t1 :: t2 :: t3 :: t4 :: t5 :: t6 :: t7 :: t8 :: t9 :: t10 :: t11 :: t12 :: t13 :: t14 :: t15 :: r3) = N (t0 :: t1 :: t2 :: t3 :: t4 :: t5 :: t6 :: t7 :: t8 :: t9 :: t10 :: t11 :: t12 :: t13 :: t14 :: keepI s15 :: r3) := by unfold restK; simp [restD, restD_out]
@[simp ↓] theorem x_put16 {s0 s1 s2 s3 s4 s5 s6 s7 s8 s9 s10 s11 s12 s13 s14 s15 s16 y : Sl} {rr : List Sl} {N : List Sl → Prop} : putK N 16 y (s0 :: s1 :: s2 :: s3 :: s4 :: s5 :: s6 :: s7 :: s8 :: s9 :: s10 :: s11 :: s12 :: s13 :: s14 :: s15 :: s16 :: rr) = N (s0 :: s1 :: s2 :: s3 :: s4 :: s5 :: s6 :: s7 :: s8 :: s9 :: s10 :: s11 :: s12 :: s13 :: s14 :: s15 :: y :: rr) := id rfl
@[simp ↓] theorem x_rest16 {s0 s1 s2 s3 s4 s5 s6 s7 s8 s9 s10 s11 s12 s13 s14 s15 s16 t0 t1 t2 t3 t4 t5 t6 t7 t8 t9 t10 t11 t12 t13 t14 t15 t16 : Sl} {rr r3 : List Sl} {N : List Sl → Prop} : restK 16 N (s0 :: s1 :: s2 :: s3 :: s4 :: s5 :: s6 :: s7 :: s8 :: s9 :: s10 :: s11 :: s12 :: s13 :: s14 :: s15 :: s16 :: rr) (t0 :: t1 :: t2 :: t3 :: t4 :: t5 :: t6 :: t7 :: t8 :: t9 :: t10 :: t11 :: t12 :: t13 :: t14 :: t15 :: t16 :: r3) = N (t0 :: t1 :: t2 :: t3 :: t4 :: t5 :: t6 :: t7 :: t8 :: t9 :: t10 :: t11 :: t12 :: t13 :: t14 :: t15 :: keepI s16 :: r3) := by unfold restK; simp [restD, restD_out]
@[simp ↓] theorem x_put17 {s0 s1 s2 s3 s4 s5 s6 s7 s8 s9 s10 s11 s12 s13 s14 s15 s16 s17 y : Sl} {rr : List Sl} {N : List Sl → Prop} : putK N 17 y (s0 :: s1 :: s2 :: s3 :: s4 :: s5 :: s6 :: s7 :: s8 :: s9 :: s10 :: s11 :: s12 :: s13 :: s14 :: s15 :: s16 :: s17 :: rr) = N (s0 :: s1 :: s2 :: s3 :: s4 :: s5 :: s6 :: s7 :: s8 :: s9 :: s10 :: s11 :: s12 :: s13 :: s14 :: s15 :: s16 :: y :: rr) := id rfl
@[simp ↓] theorem x_rest17 {s0 s1 s2 s3 s4 s5 s6 s7 s8 s9 s10 s11 s12 s13 s14 s15 s16 s17 t0 t1 t2 t3 t4 t5 t6 t7 t8 t9 t10 t11 t12 t13 t14 t15 t16 t17 : Sl} {rr r3 : List Sl} {N : List Sl → Prop} : restK 17 N (s0 :: s1 :: s2 :: s3 :: s4 :: s5 :: s6 :: s7 :: s8 :: s9 :: s10 :: s11 :: s12 :: s13 :: s14 :: s15 :: s16 :: s17 :: rr) (t0 :: t1 :: t2 :: t3 :: t4 :: t5 :: t6 :: t7 :: t8 :: t9 :: t10 :: t11 :: t12 :: t13 :: t14 :: t15 :: t16 :: t17 :: r3) = N (t0 :: t1 :: t2 :: t3 :: t4 :: t5 :: t6 :: t7 :: t8 :: t9 :: t10 :: t11 :: t12 :: t13 :: t14 :: t15 :: t16 :: keepI s17 :: r3) := by unfold restK; simp [restD, restD_out]
@[simp ↓] theorem x_put18 {s0 s1 s2 s3 s4 s5 s6 s7 s8 s9 s10 s11 s12 s13 s14 s15 s16 s17 s18 y : Sl} {rr : List Sl} {N : List Sl → Prop} : putK N 18 y (s0 :: s1 :: s2 :: s3 :: s4 :: s5 :: s6 :: s7 :: s8 :: s9 :: s10 :: s11 :: s12 :: s13 :: s14 :: s15 :: s16 :: s17 :: s18 :: rr) = N (s0 :: s1 :: s2 :: s3 :: s4 :: s5 :: s6 :: s7 :: s8 :: s9 :: s10 :: s11 :: s12 :: s13 :: s14 :: s15 :: s16 :: s17 :: y :: rr) := id rfl
@[simp ↓] theorem x_rest18 {s0 s1 s2 s3 s4 s5 s6 s7 s8 s9 s10 s11 s12 s13 s14 s15 s16 s17 s18 t0 t1 t2 t3 t4 t5 t6 t7 t8 t9 t10 t11 t12 t13 t14 t15 t16 t17 t18 : Sl} {rr r3 : List Sl} {N : List Sl → Prop} : restK 18 N (s0 :: s1 :: s2 :: s3 :: s4 :: s5 :: s6 :: s7 :: s8 :: s9 :: s10 :: s11 :: s12 :: s13 :: s14 :: s15 :: s16 :: s17 :: s18 :: rr) (t0 :: t1 :: t2 :: t3 :: t4 :: t5 :: t6 :: t7 :: t8 :: t9 :: t10 :: t11 :: t12 :: t13 :: t14 :: t15 :: t16 :: t17 :: t18 :: r3) = N (t0 :: t1 :: t2 :: t3 :: t4 :: t5 :: t6 :: t7 :: t8 :: t9 :: t10 :: t11 :: t12 :: t13 :: t14 :: t15 :: t16 :: t17 :: keepI s18 :: r3) := by unfold restK; simp [restD, restD_out]
@[simp ↓] theorem x_put19 {s0 s1 s2 s3 s4 s5 s6 s7 s8 s9 s10 s11 s12 s13 s14 s15 s16 s17 s18 s19 y : Sl} {rr : List Sl} {N : List Sl → Prop} : putK N 19 y (s0 :: s1 :: s2 :: s3 :: s4 :: s5 :: s6 :: s7 :: s8 :: s9 :: s10 :: s11 :: s12 :: s13 :: s14 :: s15 :: s16 :: s17 :: s18 :: s19 :: rr) = N (s0 :: s1 :: s2 :: s3 :: s4 :: s5 :: s6 :: s7 :: s8 :: s9 :: s10 :: s11 :: s12 :: s13 :: s14 :: s15 :: s16 :: s17 :: s18 :: y :: rr) := id rfl
@[simp ↓] theorem x_rest19 {s0 s1 s2 s3 s4 s5 s6 s7 s8 s9 s10 s11 s12 s13 s14 s15 s16 s17 s18 s19 t0 t1 t2 t3 t4 t5 t6 t7 t8 t9 t10 t11 t12 t13 t14 t15 t16 t17 t18 t19 : Sl} {rr r3 : List Sl} {N : List Sl → Prop} : restK 19 N (s0 :: s1 :: s2 :: s3 :: s4 :: s5 :: s6 :: s7 :: s8 :: s9 :: s10 :: s11 :: s12 :: s13 :: s14 :: s15 :: s16 :: s17 :: s18 :: s19 :: rr) (t0 :: t1 :: t2 :: t3 :: t4 :: t5 :: t6 :: t7 :: t8 :: t9 :: t10 :: t11 :: t12 :: t13 :: t14 :: t15 :: t16 :: t17 :: t18 :: t19 :: r3) = N (t0 :: t1 :: t2 :: t3 :: t4 :: t5 :: t6 :: t7 :: t8 :: t9 :: t10 :: t11 :: t12 :: t13 :: t14 :: t15 :: t16 :: t17 :: t18 :: keepI s19 :: r3) := by unfold restK; simp [restD, restD_out]
@[simp ↓] theorem x_put20 {s0 s1 s2 s3 s4 s5 s6 s7 s8 s9 s10 s11 s12 s13 s14 s15 s16 s17 s18 s19 s20 y : Sl} {rr : List Sl} {N : List Sl → Prop} : putK N 20 y (s0 :: s1 :: s2 :: s3 :: s4 :: s5 :: s6 :: s7 :: s8 :: s9 :: s10 :: s11 :: s12 :: s13 :: s14 :: s15 :: s16 :: s17 :: s18 :: s19 :: s20 :: rr) = N (s0 :: s1 :: s2 :: s3 :: s4 :: s5 :: s6 :: s7 :: s8 :: s9 :: s10 :: s11 :: s12 :: s13 :: s14 :: s15 :: s16 :: s17 :: s18 :: s19 :: y :: rr) := id rfl
@[simp ↓] theorem x_rest20 {s0 s1 s2 s3 s4 s5 s6 s7 s8 s9 s10 s11 s12 s13 s14 s15 s16 s17 s18 s19 s20 t0 t1 t2 t3 t4 t5 t6 t7 t8 t9 t10 t11 t12 t13 t14 t15 t16 t17 t18 t19 t20 : Sl} {rr r3 : List Sl} {N : List Sl → Prop} : restK 20 N (s0 :: s1 :: s2 :: s3 :: s4 :: s5 :: s6 :: s7 :: s8 :: s9 :: s10 :: s11 :: s12 :: s13 :: s14 :: s15 :: s16 :: s17 :: s18 :: s19 :: s20 :: rr) (t0 :: t1 :: t2 :: t3 :: t4 :: t5 :: t6 :: t7 :: t8 :: t9 :: t10 :: t11 :: t12 :: t13 :: t14 :: t15 :: t16 :: t17 :: t18 :: t19 :: t20 :: r3) = N (t0 :: t1 :: t2 :: t3 :: t4 :: t5 :: t6 :: t7 :: t8 :: t9 :: t10 :: t11 :: t12 :: t13 :: t14 :: t15 :: t16 :: t17 :: t18 :: t19 :: keepI s20 :: r3) := by unfold restK; simp [restD, restD_out]
@[simp ↓] theorem x_put21 {s0 s1 s2 s3 s4 s5 s6 s7 s8 s9 s10 s11 s12 s13 s14 s15 s16 s17 s18 s19 s20 s21 y : Sl} {rr : List Sl} {N : List Sl → Prop} : putK N 21 y (s0 :: s1 :: s2 :: s3 :: s4 :: s5 :: s6 :: s7 :: s8 :: s9 :: s10 :: s11 :: s12 :: s13 :: s14 :: s15 :: s16 :: s17 :: s18 :: s19 :: s20 :: s21 :: rr) = N (s0 :: s1 :: s2 :: s3 :: s4 :: s5 :: s6 :: s7 :: s8 :: s9 :: s10 :: s11 :: s12 :: s13 :: s14 :: s15 :: s16 :: s17 :: s18 :: s19 :: s20 :: y :: rr) := id rfl
@[simp ↓] theorem x_rest21 {s0 s1 s2 s3 s4 s5 s6 s7 s8 s9 s10 s11 s12 s13 s14 s15 s16 s17 s18 s19 s20 s21 t0 t1 t2 t3 t4 t5 t6 t7 t8 t9 t10 t11 t12 t13 t14 t15 t16 t17 t18 t19 t20 t21 : Sl} {rr r3 : List Sl} {N : List Sl → Prop} : restK 21 N (s0 :: s1 :: s2 :: s3 :: s4 :: s5 :: s6 :: s7 :: s8 :: s9 :: s10 :: s11 :: s12 :: s13 :: s14 :: s15 :: s16 :: s17 :: s18 :: s19 :: s20 :: s21 :: rr) (t0 :: t1 :: t2 :: t3 :: t4 :: t5 :: t6 :: t7 :: t8 :: t9 :: t10 :: t11 :: t12 :: t13 :: t14 :: t15 :: t16 :: t17 :: t18 :: t19 :: t20 :: t21 :: r3) = N (t0 :: t1 :: t2 :: t3 :: t4 :: t5 :: t6 :: t7 :: t8 :: t9 :: t10 :: t11 :: t12 :: t13 :: t14 :: t15 :: t16 :: t17 :: t18 :: t19 :: t20 :: keepI s21 :: r3) := by unfold restK; simp [restD, restD_out]
@[simp ↓] theorem x_put22 {s0 s1 s2 s3 s4 s5 s6 s7 s8 s9 s10 s11 s12 s13 s14 s15 s16 s17 s18 s19 s20 s21 s22 y : Sl} {rr : List Sl} {N : List Sl → Prop} : putK N 22 y (s0 :: s1 :: s2 :: s3 :: s4 :: s5 :: s6 :: s7 :: s8 :: s9 :: s10 :: s11 :: s12 :: s13 :: s14 :: s15 :: s16 :: s17 :: s18 :: s19 :: s20 :: s21 :: s22 :: rr) = N (s0 :: s1 :: s2 :: s3 :: s4 :: s5 :: s6 :: s7 :: s8 :: s9 :: s10 :: s11 :: s12 :: s13 :: s14 :: s15 :: s16 :: s17 :: s18 :: s19 :: s20 :: s21 :: y :: rr) := id rfl
@[simp ↓] theorem x_rest22 {s0 s1 s2 s3 s4 s5 s6 s7 s8 s9 s10 s11 s12 s13 s14 s15 s16 s17 s18 s19 s20 s21 s22 t0 t1 t2 t3 t4 t5 t6 t7 t8 t9 t10 t11 t12 t13 t14 t15 t16 t17 t18 t19 t20 t21 t22 : Sl} {rr r3 : List Sl} {N : List Sl → Prop} : restK 22 N (s0 :: s1 :: s2 :: s3 :: s4 :: s5 :: s6 :: s7 :: s8 :: s9 :: s10 :: s11 :: s12 :: s13 :: s14 :: s15 :: s16 :: s17 :: s18 :: s19 :: s20 :: s21 :: s22 :: rr) (t0 :: t1 :: t2 :: t3 :: t4 :: t5 :: t6 :: t7 :: t8 :: t9 :: t10 :: t11 :: t12 :: t13 :: t14 :: t15 :: t16 :: t17 :: t18 :: t19 :: t20 :: t21 :: t22 :: r3) = N (t0 :: t1 :: t2 :: t3 :: t4 :: t5 :: t6 :: t7 :: t8 :: t9 :: t10 :: t11 :: t12 :: t13 :: t14 :: t15 :: t16 :: t17 :: t18 :: t19 :: t20 :: t21 :: keepI s22 :: r3) := by unfold restK; simp [restD, restD_out]
@[simp ↓] theorem x_put23 {s0 s1 s2 s3 s4 s5 s6 s7 s8 s9 s10 s11 s12 s13 s14 s15 s16 s17 s18 s19 s20 s21 s22 s23 y : Sl} {rr : List Sl} {N : List Sl → Prop} : putK N 23 y (s0 :: s1 :: s2 :: s3 :: s4 :: s5 :: s6 :: s7 :: s8 :: s9 :: s10 :: s11 :: s12 :: s13 :: s14 :: s15 :: s16 :: s17 :: s18 :: s19 :: s20 :: s21 :: s22 :: s23 :: rr) = N (s0 :: s1 :: s2 :: s3 :: s4 :: s5 :: s6 :: s7 :: s8 :: s9 :: s10 :: s11 :: s12 :: s13 :: s14 :: s15 :: s16 :: s17 :: s18 :: s19 :: s20 :: s21 :: s22 :: y :: rr) := id rfl
@[simp ↓] theorem x_rest23 {s0 s1 s2 s3 s4 s5 s6 s7 s8 s9 s10 s11 s12 s13 s14 s15 s16 s17 s18 s19 s20 s21 s22 s23 t0 t1 t2 t3 t4 t5 t6 t7 t8 t9 t10 t11 t12 t13 t14 t15 t16 t17 t18 t19 t20 t21 t22 t23 : Sl} {rr r3 : List Sl} {N : List Sl → Prop} : restK 23 N (s0 :: s1 :: s2 :: s3 :: s4 :: s5 :: s6 :: s7 :: s8 :: s9 :: s10 :: s11 :: s12 :: s13 :: s14 :: s15 :: s16 :: s17 :: s18 :: s19 :: s20 :: s21 :: s22 :: s23 :: rr) (t0 :: t1 :: t2 :: t3 :: t4 :: t5 :: t6 :: t7 :: t8 :: t9 :: t10 :: t11 :: t12 :: t13 :: t14 :: t15 :: t16 :: t17 :: t18 :: t19 :: t20 :: t21 :: t22 :: t23 :: r3) = N (t0 :: t1 :: t2 :: t3 :: t4 :: t5 :: t6 :: t7 :: t8 :: t9 :: t10 :: t11 :: t12 :: t13 :: t14 :: t15 :: t16 :: t17 :: t18 :: t19 :: t20 :: t21 :: t22 :: keepI s23 :: r3) := by unfold restK; simp [restD, restD_out]
@[simp ↓] theorem x_put24 {s0 s1 s2 s3 s4 s5 s6 s7 s8 s9 s10 s11 s12 s13 s14 s15 s16 s17 s18 s19 s20 s21 s22 s23 s24 y : Sl} {rr : List Sl} {N : List Sl → Prop} : putK N 24 y (s0 :: s1 :: s2 :: s3 :: s4 :: s5 :: s6 :: s7 :: s8 :: s9 :: s10 :: s11 :: s12 :: s13 :: s14 :: s15 :: s16 :: s17 :: s18 :: s19 :: s20 :: s21 :: s22 :: s23 :: s24 :: rr) = N (s0 :: s1 :: s2 :: s3 :: s4 :: s5 :: s6 :: s7 :: s8 :: s9 :: s10 :: s11 :: s12 :: s13 :: s14 :: s15 :: s16 :: s17 :: s18 :: s19 :: s20 :: s21 :: s22 :: s23 :: y :: rr) := id rfl
@[simp ↓] theorem x_rest24 {s0 s1 s2 s3 s4 s5 s6 s7 s8 s9 s10 s11 s12 s13 s14 s15 s16 s17 s18 s19 s20 s21 s22 s23 s24 t0 t1 t2 t3 t4 t5 t6 t7 t8 t9 t10 t11 t12 t13 t14 t15 t16 t17 t18 t19 t20 t21 t22 t23 t24 : Sl} {rr r3 : List Sl} {N : List Sl → Prop} : restK 24 N (s0 :: s1 :: s2 :: s3 :: s4 :: s5 :: s6 :: s7 :: s8 :: s9 :: s10 :: s11 :: s12 :: s13 :: s14 :: s15 :: s16 :: s17 :: s18 :: s19 :: s20 :: s21 :: s22 :: s23 :: s24 :: rr) (t0 :: t1 :: t2 :: t3 :: t4 :: t5 :: t6 :: t7 :: t8 :: t9 :: t10 :: t11 :: t12 :: t13 :: t14 :: t15 :: t16 :: t17 :: t18 :: t19 :: t20 :: t21 :: t22 :: t23 :: t24 :: r3) = N (t0 :: t1 :: t2 :: t3 :: t4 :: t5 :: t6 :: t7 :: t8 :: t9 :: t10 :: t11 :: t12 :: t13 :: t14 :: t15 :: t16 :: t17 :: t18 :: t19 :: t20 :: t21 :: t22 :: t23 :: keepI s24 :: r3) := by unfold restK; simp [restD, restD_out]
@[simp ↓] theorem x_put25 {s0 s1 s2 s3 s4 s5 s6 s7 s8 s9 s10 s11 s12 s13 s14 s15 s16 s17 s18 s19 s20 s21 s22 s23 s24 s25 y : Sl} {rr : List Sl} {N : List Sl → Prop} : putK N 25 y (s0 :: s1 :: s2 :: s3 :: s4 :: s5 :: s6 :: s7 :: s8 :: s9 :: s10 :: s11 :: s12 :: s13 :: s14 :: s15 :: s16 :: s17 :: s18 :: s19 :: s20 :: s21 :: s22 :: s23 :: s24 :: s25 :: rr) = N (s0 :: s1 :: s2 :: s3 :: s4 :: s5 :: s6 :: s7 :: s8 :: s9 :: s10 :: s11 :: s12 :: s13 :: s14 :: s15 :: s16 :: s17 :: s18 :: s19 :: s20 :: s21 :: s22 :: s23 :: s24 :: y :: rr) := id rfl
@[simp ↓] theorem x_rest25 {s0 s1 s2 s3 s4 s5 s6 s7 s8 s9 s10 s11 s12 s13 s14 s15 s16 s17 s18 s19 s20 s21 s22 s23 s24 s25 t0 t1 t2 t3 t4 t5 t6 t7 t8 t9 t10 t11 t12 t13 t14 t15 t16 t17 t18 t19 t20 t21 t22 t23 t24 t25 : Sl} {rr r3 : List Sl} {N : List Sl → Prop} : restK 25 N (s0 :: s1 :: s2 :: s3 :: s4 :: s5 :: s6 :: s7 :: s8 :: s9 :: s10 :: s11 :: s12 :: s13 :: s14 :: s15 :: s16 :: s17 :: s18 :: s19 :: s20 :: s21 :: s22 :: s23 :: s24 :: s25 :: rr) (t0 :: t1 :: t2 :: t3 :: t4 :: t5 :: t6 :: t7 :: t8 :: t9 :: t10 :: t11 :: t12 :: t13 :: t14 :: t15 :: t16 :: t17 :: t18 :: t19 :: t20 :: t21 :: t22 :: t23 :: t24 :: t25 :: r3) = N (t0 :: t1 :: t2 :: t3 :: t4 :: t5 :: t6 :: t7 :: t8 :: t9 :: t10 :: t11 :: t12 :: t13 :: t14 :: t15 :: t16 :: t17 :: t18 :: t19 :: t20 :: t21 :: t22 :: t23 :: t24 :: keepI s25 :: r3) := by unfold restK; simp [restD, restD_out]
@[simp ↓] theorem x_put26 {s0 s1 s2 s3 s4 s5 s6 s7 s8 s9 s10 s11 s12 s13 s14 s15 s16 s17 s18 s19 s20 s21 s22 s23 s24 s25 s26 y : Sl} {rr : List Sl} {N : List Sl → Prop} : putK N 26 y (s0 :: s1 :: s2 :: s3 :: s4 :: s5 :: s6 :: s7 :: s8 :: s9 :: s10 :: s11 :: s12 :: s13 :: s14 :: s15 :: s16 :: s17 :: s18 :: s19 :: s20 :: s21 :: s22 :: s23 :: s24 :: s25 :: s26 :: rr) = N (s0 :: s1 :: s2 :: s3 :: s4 :: s5 :: s6 :: s7 :: s8 :: s9 :: s10 :: s11 :: s12 :: s13 :: s14 :: s15 :: s16 :: s17 :: s18 :: s19 :: s20 :: s21 :: s22 :: s23 :: s24 :: s25 :: y :: rr) := id rfl
@[simp ↓] theorem x_rest26 {s0 s1 s2 s3 s4 s5 s6 s7 s8 s9 s10 s11 s12 s13 s14 s15 s16 s17 s18 s19 s20 s21 s22 s23 s24 s25 s26 t0 t1 t2 t3 t4 t5 t6 t7 t8 t9 t10 t11 t12 t13 t14 t15 t16 t17 t18 t19 t20 t21 t22 t23 t24 t25 t26 : Sl} {rr r3 : List Sl} {N : List Sl → Prop} : restK 26 N (s0 :: s1 :: s2 :: s3 :: s4 :: s5 :: s6 :: s7 :: s8 :: s9 :: s10 :: s11 :: s12 :: s13 :: s14 :: s15 :: s16 :: s17 :: s18 :: s19 :: s20 :: s21 :: s22 :: s23 :: s24 :: s25 :: s26 :: rr) (t0 :: t1 :: t2 :: t3 :: t4 :: t5 :: t6 :: t7 :: t8 :: t9 :: t10 :: t11 :: t12 :: t13 :: t14 :: t15 :: t16 :: t17 :: t18 :: t19 :: t20 :: t21 :: t22 :: t23 :: t24 :: t25 :: t26 :: r3) = N (t0 :: t1 :: t2 :: t3 :: t4 :: t5 :: t6 :: t7 :: t8 :: t9 :: t10 :: t11 :: t12 :: t13 :: t14 :: t15 :: t16 :: t17 :: t18 :: t19 :: t20 :: t21 :: t22 :: t23 :: t24 :: t25 :: keepI s26 :: r3) := by unfold restK; simp [restD, restD_out]
@[simp ↓] theorem x_put27 {s0 s1 s2 s3 s4 s5 s6 s7 s8 s9 s10 s11 s12 s13 s14 s15 s16 s17 s18 s19 s20 s21 s22 s23 s24 s25 s26 s27 y : Sl} {rr : List Sl} {N : List Sl → Prop} : putK N 27 y (s0 :: s1 :: s2 :: s3 :: s4 :: s5 :: s6 :: s7 :: s8 :: s9 :: s10 :: s11 :: s12 :: s13 :: s14 :: s15 :: s16 :: s17 :: s18 :: s19 :: s20 :: s21 :: s22 :: s23 :: s24 :: s25 :: s26 :: s27 :: rr) = N (s0 :: s1 :: s2 :: s3 :: s4 :: s5 :: s6 :: s7 :: s8 :: s9 :: s10 :: s11 :: s12 :: s13 :: s14 :: s15 :: s16 :: s17 :: s18 :: s19 :: s20 :: s21 :: s22 :: s23 :: s24 :: s25 :: s26 :: y :: rr) := id rfl
@[simp ↓] theorem x_rest27 {s0 s1 s2 s3 s4 s5 s6 s7 s8 s9 s10 s11 s12 s13 s14 s15 s16 s17 s18 s19 s20 s21 s22 s23 s24 s25 s26 s27 t0 t1 t2 t3 t4 t5 t6 t7 t8 t9 t10 t11 t12 t13 t14 t15 t16 t17 t18 t19 t20 t21 t22 t23 t24 t25 t26 t27 : Sl} {rr r3 : List Sl} {N : List Sl → Prop} : restK 27 N (s0 :: s1 :: s2 :: s3 :: s4 :: s5 :: s6 :: s7 :: s8 :: s9 :: s10 :: s11 :: s12 :: s13 :: s14 :: s15 :: s16 :: s17 :: s18 :: s19 :: s20 :: s21 :: s22 :: s23 :: s24 :: s25 :: s26 :: s27 :: rr) (t0 :: t1 :: t2 :: t3 :: t4 :: t5 :: t6 :: t7 :: t8 :: t9 :: t10 :: t11 :: t12 :: t13 :: t14 :: t15 :: t16 :: t17 :: t18 :: t19 :: t20 :: t21 :: t22 :: t23 :: t24 :: t25 :: t26 :: t27 :: r3) = N (t0 :: t1 :: t2 :: t3 :: t4 :: t5 :: t6 :: t7 :: t8 :: t9 :: t10 :: t11 :: t12 :: t13 :: t14 :: t15 :: t16 :: t17 :: t18 :: t19 :: t20 :: t21 :: t22 :: t23 :: t24 :: t25 :: t26 :: keepI s27 :: r3) := by unfold restK; simp [restD, restD_out]
@[simp ↓] theorem x_put28 {s0 s1 s2 s3 s4 s5 s6 s7 s8 s9 s10 s11 s12 s13 s14 s15 s16 s17 s18 s19 s20 s21 s22 s23 s24 s25 s26 s27 s28 y : Sl} {rr : List Sl} {N : List Sl → Prop} : putK N 28 y (s0 :: s1 :: s2 :: s3 :: s4 :: s5 :: s6 :: s7 :: s8 :: s9 :: s10 :: s11 :: s12 :: s13 :: s14 :: s15 :: s16 :: s17 :: s18 :: s19 :: s20 :: s21 :: s22 :: s23 :: s24 :: s25 :: s26 :: s27 :: s28 :: rr) = N (s0 :: s1 :: s2 :: s3 :: s4 :: s5 :: s6 :: s7 :: s8 :: s9 :: s10 :: s11 :: s12 :: s13 :: s14 :: s15 :: s16 :: s17 :: s18 :: s19 :: s20 :: s21 :: s22 :: s23 :: s24 :: s25 :: s26 :: s27 :: y :: rr) := id rfl
@[simp ↓] theorem x_rest28 {s0 s1 s2 s3 s4 s5 s6 s7 s8 s9 s10 s11 s12 s13 s14 s15 s16 s17 s18 s19 s20 s21 s22 s23 s24 s25 s26 s27 s28 t0 t1 t2 t3 t4 t5 t6 t7 t8 t9 t10 t11 t12 t13 t14 t15 t16 t17 t18 t19 t20 t21 t22 t23 t24 t25 t26 t27 t28 : Sl} {rr r3 : List Sl} {N : List Sl → Prop} : restK 28 N (s0 :: s1 :: s2 :: s3 :: s4 :: s5 :: s6 :: s7 :: s8 :: s9 :: s10 :: s11 :: s12 :: s13 :: s14 :: s15 :: s16 :: s17 :: s18 :: s19 :: s20 :: s21 :: s22 :: s23 :: s24 :: s25 :: s26 :: s27 :: s28 :: rr) (t0 :: t1 :: t2 :: t3 :: t4 :: t5 :: t6 :: t7 :: t8 :: t9 :: t10 :: t11 :: t12 :: t13 :: t14 :: t15 :: t16 :: t17 :: t18 :: t19 :: t20 :: t21 :: t22 :: t23 :: t24 :: t25 :: t26 :: t27 :: t28 :: r3) = N (t0 :: t1 :: t2 :: t3 :: t4 :: t5 :: t6 :: t7 :: t8 :: t9 :: t10 :: t11 :: t12 :: t13 :: t14 :: t15 :: t16 :: t17 :: t18 :: t19 :: t20 :: t21 :: t22 :: t23 :: t24 :: t25 :: t26 :: t27 :: keepI s28 :: r3) := by unfold restK; simp [restD, restD_out]
@[simp ↓] theorem x_put29 {s0 s1 s2 s3 s4 s5 s6 s7 s8 s9 s10 s11 s12 s13 s14 s15 s16 s17 s18 s19 s20 s21 s22 s23 s24 s25 s26 s27 s28 s29 y : Sl} {rr : List Sl} {N : List Sl → Prop} : putK N 29 y (s0 :: s1 :: s2 :: s3 :: s4 :: s5 :: s6 :: s7 :: s8 :: s9 :: s10 :: s11 :: s12 :: s13 :: s14 :: s15 :: s16 :: s17 :: s18 :: s19 :: s20 :: s21 :: s22 :: s23 :: s24 :: s25 :: s26 :: s27 :: s28 :: s29 :: rr) = N (s0 :: s1 :: s2 :: s3 :: s4 :: s5 :: s6 :: s7 :: s8 :: s9 :: s10 :: s11 :: s12 :: s13 :: s14 :: s15 :: s16 :: s17 :: s18 :: s19 :: s20 :: s21 :: s22 :: s23 :: s24 :: s25 :: s26 :: s27 :: s28 :: y :: rr) := id rfl
@[simp ↓] theorem x_rest29 {s0 s1 s2 s3 s4 s5 s6 s7 s8 s9 s10 s11 s12 s13 s14 s15 s16 s17 s18 s19 s20 s21 s22 s23 s24 s25 s26 s27 s28 s29 t0 t1 t2 t3 t4 t5 t6 t7 t8 t9 t10 t11 t12 t13 t14 t15 t16 t17 t18 t19 t20 t21 t22 t23 t24 t25 t26 t27 t28 t29 : Sl} {rr r3 : List Sl} {N : List Sl → Prop} : restK 29 N (s0 :: s1 :: s2 :: s3 :: s4 :: s5 :: s6 :: s7 :: s8 :: s9 :: s10 :: s11 :: s12 :: s13 :: s14 :: s15 :: s16 :: s17 :: s18 :: s19 :: s20 :: s21 :: s22 :: s23 :: s24 :: s25 :: s26 :: s27 :: s28 :: s29 :: rr) (t0 :: t1 :: t2 :: t3 :: t4 :: t5 :: t6 :: t7 :: t8 :: t9 :: t10 :: t11 :: t12 :: t13 :: t14 :: t15 :: t16 :: t17 :: t18 :: t19 :: t20 :: t21 :: t22 :: t23 :: t24 :: t25 :: t26 :: t27 :: t28 :: t29 :: r3) = N (t0 :: t1 :: t2 :: t3 :: t4 :: t5 :: t6 :: t7 :: t8 :: t9 :: t10 :: t11 :: t12 :: t13 :: t14 :: t15 :: t16 :: t17 :: t18 :: t19 :: t20 :: t21 :: t22 :: t23 :: t24 :: t25 :: t26 :: t27 :: t28 :: keepI s29 :: r3) := by unfold restK; simp [restD, restD_out]
@[simp ↓] theorem x_put30 {s0 s1 s2 s3 s4 s5 s6 s7 s8 s9 s10 s11 s12 s13 s14 s15 s16 s17 s18 s19 s20 s21 s22 s23 s24 s25 s26 s27 s28 s29 s30 y : Sl} {rr : List Sl} {N : List Sl → Prop} : putK N 30 y (s0 :: s1 :: s2 :: s3 :: s4 :: s5 :: s6 :: s7 :: s8 :: s9 :: s10 :: s11 :: s12 :: s13 :: s14 :: s15 :: s16 :: s17 :: s18 :: s19 :: s20 :: s21 :: s22 :: s23 :: s24 :: s25 :: s26 :: s27 :: s28 :: s29 :: s30 :: rr) = N (s0 :: s1 :: s2 :: s3 :: s4 :: s5 :: s6 :: s7 :: s8 :: s9 :: s10 :: s11 :: s12 :: s13 :: s14 :: s15 :: s16 :: s17 :: s18 :: s19 :: s20 :: s21 :: s22 :: s23 :: s24 :: s25 :: s26 :: s27 :: s28 :: s29 :: y :: rr) := id rfl
@[simp ↓] theorem x_rest30 {s0 s1 s2 s3 s4 s5 s6 s7 s8 s9 s10 s11 s12 s13 s14 s15 s16 s17 s18 s19 s20 s21 s22 s23 s24 s25 s26 s27 s28 s29 s30 t0 t1 t2 t3 t4 t5 t6 t7 t8 t9 t10 t11 t12 t13 t14 t15 t16 t17 t18 t19 t20 t21 t22 t23 t24 t25 t26 t27 t28 t29 t30 : Sl} {rr r3 : List Sl} {N : List Sl → Prop} : restK 30 N (s0 :: s1 :: s2 :: s3 :: s4 :: s5 :: s6 :: s7 :: s8 :: s9 :: s10 :: s11 :: s12 :: s13 :: s14 :: s15 :: s16 :: s17 :: s18 :: s19 :: s20 :: s21 :: s22 :: s23 :: s24 :: s25 :: s26 :: s27 :: s28 :: s29 :: s30 :: rr) (t0 :: t1 :: t2 :: t3 :: t4 :: t5 :: t6 :: t7 :: t8 :: t9 :: t10 :: t11 :: t12 :: t13 :: t14 :: t15 :: t16 :: t17 :: t18 :: t19 :: t20 :: t21 :: t22 :: t23 :: t24 :: t25 :: t26 :: t27 :: t28 :: t29 :: t30 :: r3) = N (t0 :: t1 :: t2 :: t3 :: t4 :: t5 :: t6 :: t7 :: t8 :: t9 :: t10 :: t11 :: t12 :: t13 :: t14 :: t15 :: t16 :: t17 :: t18 :: t19 :: t20 :: t21 :: t22 :: t23 :: t24 :: t25 :: t26 :: t27 :: t28 :: t29 :: keepI s30 :: r3) := by unfold restK; simp [restD, restD_out]
@[simp ↓] theorem x_put31 {s0 s1 s2 s3 s4 s5 s6 s7 s8 s9 s10 s11 s12 s13 s14 s15 s16 s17 s18 s19 s20 s21 s22 s23 s24 s25 s26 s27 s28 s29 s30 s31 y : Sl} {rr : List Sl} {N : List Sl → Prop} : putK N 31 y (s0 :: s1 :: s2 :: s3 :: s4 :: s5 :: s6 :: s7 :: s8 :: s9 :: s10 :: s11 :: s12 :: s13 :: s14 :: s15 :: s16 :: s17 :: s18 :: s19 :: s20 :: s21 :: s22 :: s23 :: s24 :: s25 :: s26 :: s27 :: s28 :: s29 :: s30 :: s31 :: rr) = N (s0 :: s1 :: s2 :: s3 :: s4 :: s5 :: s6 :: s7 :: s8 :: s9 :: s10 :: s11 :: s12 :: s13 :: s14 :: s15 :: s16 :: s17 :: s18 :: s19 :: s20 :: s21 :: s22 :: s23 :: s24 :: s25 :: s26 :: s27 :: s28 :: s29 :: s30 :: y :: rr) := id rfl
@[simp ↓] theorem x_rest31 {s0 s1 s2 s3 s4 s5 s6 s7 s8 s9 s10 s11 s12 s13 s14 s15 s16 s17 s18 s19 s20 s21 s22 s23 s24 s25 s26 s27 s28 s29 s30 s31 t0 t1 t2 t3 t4 t5 t6 t7 t8 t9 t10 t11 t12 t13 t14 t15 t16 t17 t18 t19 t20 t21 t22 t23 t24 t25 t26 t27 t28 t29 t30 t31 : Sl} {rr r3 : List Sl} {N : List Sl → Prop} : restK 31 N (s0 :: s1 :: s2 :: s3 :: s4 :: s5 :: s6 :: s7 :: s8 :: s9 :: s10 :: s11 :: s12 :: s13 :: s14 :: s15 :: s16 :: s17 :: s18 :: s19 :: s20 :: s21 :: s22 :: s23 :: s24 :: s25 :: s26 :: s27 :: s28 :: s29 :: s30 :: s31 :: rr) (t0 :: t1 :: t2 :: t3 :: t4 :: t5 :: t6 :: t7 :: t8 :: t9 :: t10 :: t11 :: t12 :: t13 :: t14 :: t15 :: t16 :: t17 :: t18 :: t19 :: t20 :: t21 :: t22 :: t23 :: t24 :: t25 :: t26 :: t27 :: t28 :: t29 :: t30 :: t31 :: r3) = N (t0 :: t1 :: t2 :: t3 :: t4 :: t5 :: t6 :: t7 :: t8 :: t9 :: t10 :: t11 :: t12 :: t13 :: t14 :: t15 :: t16 :: t17 :: t18 :: t19 :: t20 :: t21 :: t22 :: t23 :: t24 :: t25 :: t26 :: t27 :: t28 :: t29 :: t30 :: keepI s31 :: r3) := by unfold restK; simp [restD, restD_out]
@[simp ↓] theorem x_put32 {s0 s1 s2 s3 s4 s5 s6 s7 s8 s9 s10 s11 s12 s13 s14 s15 s16 s17 s18 s19 s20 s21 s22 s23 s24 s25 s26 s27 s28 s29 s30 s31 s32 y : Sl} {rr : List Sl} {N : List Sl → Prop} : putK N 32 y (s0 :: s1 :: s2 :: s3 :: s4 :: s5 :: s6 :: s7 :: s8 :: s9 :: s10 :: s11 :: s12 :: s13 :: s14 :: s15 :: s16 :: s17 :: s18 :: s19 :: s20 :: s21 :: s22 :: s23 :: s24 :: s25 :: s26 :: s27 :: s28 :: s29 :: s30 :: s31 :: s32 :: rr) = N (s0 :: s1 :: s2 :: s3 :: s4 :: s5 :: s6 :: s7 :: s8 :: s9 :: s10 :: s11 :: s12 :: s13 :: s14 :: s15 :: s16 :: s17 :: s18 :: s19 :: s20 :: s21 :: s22 :: s23 :: s24 :: s25 :: s26 :: s27 :: s28 :: s29 :: s30 :: s31 :: y :: rr) := id rfl
@[simp ↓] theorem x_rest32 {s0 s1 s2 s3 s4 s5 s6 s7 s8 s9 s10 s11 s12 s13 s14 s15 s16 s17 s18 s19 s20 s21 s22 s23 s24 s25 s26 s27 s28 s29 s30 s31 s32 t0 t1 t2 t3 t4 t5 t6 t7 t8 t9 t10 t11 t12 t13 t14 t15 t16 t17 t18 t19 t20 t21 t22 t23 t24 t25 t26 t27 t28 t29 t30 t31 t32 : Sl} {rr r3 : List Sl} {N : List Sl → Prop} : restK 32 N (s0 :: s1 :: s2 :: s3 :: s4 :: s5 :: s6 :: s7 :: s8 :: s9 :: s10 :: s11 :: s12 :: s13 :: s14 :: s15 :: s16 :: s17 :: s18 :: s19 :: s20 :: s21 :: s22 :: s23 :: s24 :: s25 :: s26 :: s27 :: s28 :: s29 :: s30 :: s31 :: s32 :: rr) (t0 :: t1 :: t2 :: t3 :: t4 :: t5 :: t6 :: t7 :: t8 :: t9 :: t10 :: t11 :: t12 :: t13 :: t14 :: t15 :: t16 :: t17 :: t18 :: t19 :: t20 :: t21 :: t22 :: t23 :: t24 :: t25 :: t26 :: t27 :: t28 :: t29 :: t30 :: t31 :: t32 :: r3) = N (t0 :: t1 :: t2 :: t3 :: t4 :: t5 :: t6 :: t7 :: t8 :: t9 :: t10 :: t11 :: t12 :: t13 :: t14 :: t15 :: t16 :: t17 :: t18 :: t19 :: t20 :: t21 :: t22 :: t23 :: t24 :: t25 :: t26 :: t27 :: t28 :: t29 :: t30 :: t31 :: keepI s32 :: r3) := by unfold restK; simp [restD, restD_out]
@[simp ↓] theorem x_put33 {s0 s1 s2 s3 s4 s5 s6 s7 s8 s9 s10 s11 s12 s13 s14 s15 s16 s17 s18 s19 s20 s21 s22 s23 s24 s25 s26 s27 s28 s29 s30 s31 s32 s33 y : Sl} {rr : List Sl} {N : List Sl → Prop} : putK N 33 y (s0 :: s1 :: s2 :: s3 :: s4 :: s5 :: s6 :: s7 :: s8 :: s9 :: s10 :: s11 :: s12 :: s13 :: s14 :: s15 :: s16 :: s17 :: s18 :: s19 :: s20 :: s21 :: s22 :: s23 :: s24 :: s25 :: s26 :: s27 :: s28 :: s29 :: s30 :: s31 :: s32 :: s33 :: rr) = N (s0 :: s1 :: s2 :: s3 :: s4 :: s5 :: s6 :: s7 :: s8 :: s9 :: s10 :: s11 :: s12 :: s13 :: s14 :: s15 :: s16 :: s17 :: s18 :: s19 :: s20 :: s21 :: s22 :: s23 :: s24 :: s25 :: s26 :: s27 :: s28 :: s29 :: s30 :: s31 :: s32 :: y :: rr) := id rfl
@[simp ↓] theorem x_rest33 {s0 s1 s2 s3 s4 s5 s6 s7 s8 s9 s10 s11 s12 s13 s14 s15 s16 s17 s18 s19 s20 s21 s22 s23 s24 s25 s26 s27 s28 s29 s30 s31 s32 s33 t0 t1 t2 t3 t4 t5 t6 t7 t8 t9 t10 t11 t12 t13 t14 t15 t16 t17 t18 t19 t20 t21 t22 t23 t24 t25 t26 t27 t28 t29 t30 t31 t32 t33 : Sl} {rr r3 : List Sl} {N : List Sl → Prop} : restK 33 N (s0 :: s1 :: s2 :: s3 :: s4 :: s5 :: s6 :: s7 :: s8 :: s9 :: s10 :: s11 :: s12 :: s13 :: s14 :: s15 :: s16 :: s17 :: s18 :: s19 :: s20 :: s21 :: s22 :: s23 :: s24 :: s25 :: s26 :: s27 :: s28 :: s29 :: s30 :: s31 :: s32 :: s33 :: rr) (t0 :: t1 :: t2 :: t3 :: t4 :: t5 :: t6 :: t7 :: t8 :: t9 :: t10 :: t11 :: t12 :: t13 :: t14 :: t15 :: t16 :: t17 :: t18 :: t19 :: t20 :: t21 :: t22 :: t23 :: t24 :: t25 :: t26 :: t27 :: t28 :: t29 :: t30 :: t31 :: t32 :: t33 :: r3) = N (t0 :: t1 :: t2 :: t3 :: t4 :: t5 :: t6 :: t7 :: t8 :: t9 :: t10 :: t11 :: t12 :: t13 :: t14 :: t15 :: t16 :: t17 :: t18 :: t19 :: t20 :: t21 :: t22 :: t23 :: t24 :: t25 :: t26 :: t27 :: t28 :: t29 :: t30 :: t31 :: t32 :: keepI s33 :: r3) := by unfold restK; simp [restD, restD_out]
@[simp ↓] theorem x_put34 {s0 s1 s2 s3 s4 s5 s6 s7 s8 s9 s10 s11 s12 s13 s14 s15 s16 s17 s18 s19 s20 s21 s22 s23 s24 s25 s26 s27 s28 s29 s30 s31 s32 s33 s34 y : Sl} {rr : List Sl} {N : List Sl → Prop} : putK N 34 y (s0 :: s1 :: s2 :: s3 :: s4 :: s5 :: s6 :: s7 :: s8 :: s9 :: s10 :: s11 :: s12 :: s13 :: s14 :: s15 :: s16 :: s17 :: s18 :: s19 :: s20 :: s21 :: s22 :: s23 :: s24 :: s25 :: s26 :: s27 :: s28 :: s29 :: s30 :: s31 :: s32 :: s33 :: s34 :: rr) = N (s0 :: s1 :: s2 :: s3 :: s4 :: s5 :: s6 :: s7 :: s8 :: s9 :: s10 :: s11 :: s12 :: s13 :: s14 :: s15 :: s16 :: s17 :: s18 :: s19 :: s20 :: s21 :: s22 :: s23 :: s24 :: s25 :: s26 :: s27 :: s28 :: s29 :: s30 :: s31 :: s32 :: s33 :: y :: rr) := id rfl
@[simp ↓] theorem x_rest34 {s0 s1 s2 s3 s4 s5 s6 s7 s8 s9 s10 s11 s12 s13 s14 s15 s16 s17 s18 s19 s20 s21 s22 s23 s24 s25 s26 s27 s28 s29 s30 s31 s32 s33 s34 t0 t1 t2 t3 t4 t5 t6 t7 t8 t9 t10 t11 t12 t13 t14 t15 t16 t17 t18 t19 t20 t21 t22 t23 t24 t25 t26 t27 t28 t29 t30 t31 t32 t33 t34 : Sl} {rr r3 : List Sl} {N : List Sl → Prop} : restK 34 N (s0 :: s1 :: s2 :: s3 :: s4 :: s5 :: s6 :: s7 :: s8 :: s9 :: s10 :: s11 :: s12 :: s13 :: s14 :: s15 :: s16 :: s17 :: s18 :: s19 :: s20 :: s21 :: s22 :: s23 :: s24 :: s25 :: s26 :: s27 :: s28 :: s29 :: s30 :: s31 :: s32 :: s33 :: s34 :: rr) (t0 :: t1 :: t2 :: t3 :: t4 :: t5 :: t6 :: t7 :: t8 :: t9 :: t10 :: t11 :: t12 :: t13 :: t14 :: t15 :: t16 :: t17 :: t18 :: t19 :: t20 :: t21 :: t22 :: t23 :: t24 :: t25 :: t26 :: t27 :: t28 :: t29 :: t30 :: t31 :: t32 :: t33 :: t34 :: r3) = N (t0 :: t1 :: t2 :: t3 :: t4 :: t5 :: t6 :: t7 :: t8 :: t9 :: t10 :: t11 :: t12 :: t13 :: t14 :: t15 :: t16 :: t17 :: t18 :: t19 :: t20 :: t21 :: t22 :: t23 :: t24 :: t25 :: t26 :: t27 :: t28 :: t29 :: t30 :: t31 :: t32 :: t33 :: keepI s34 :: r3) := by unfold restK; simp [restD, restD_out]
@[simp ↓] theorem x_put35 {s0 s1 s2 s3 s4 s5 s6 s7 s8 s9 s10 s11 s12 s13 s14 s15 s16 s17 s18 s19 s20 s21 s22 s23 s24 s25 s26 s27 s28 s29 s30 s31 s32 s33 s34 s35 y : Sl} {rr : List Sl} {N : List Sl → Prop} : putK N 35 y (s0 :: s1 :: s2 :: s3 :: s4 :: s5 :: s6 :: s7 :: s8 :: s9 :: s10 :: s11 :: s12 :: s13 :: s14 :: s15 :: s16 :: s17 :: s18 :: s19 :: s20 :: s21 :: s22 :: s23 :: s24 :: s25 :: s26 :: s27 :: s28 :: s29 :: s30 :: s31 :: s32 :: s33 :: s34 :: s35 :: rr) = N (s0 :: s1 :: s2 :: s3 :: s4 :: s5 :: s6 :: s7 :: s8 :: s9 :: s10 :: s11 :: s12 :: s13 :: s14 :: s15 :: s16 :: s17 :: s18 :: s19 :: s20 :: s21 :: s22 :: s23 :: s24 :: s25 :: s26 :: s27 :: s28 :: s29 :: s30 :: s31 :: s32 :: s33 :: s34 :: y :: rr) := id rfl
@[simp ↓] theorem x_rest35 {s0 s1 s2 s3 s4 s5 s6 s7 s8 s9 s10 s11 s12 s13 s14 s15 s16 s17 s18 s19 s20 s21 s22 s23 s24 s25 s26 s27 s28 s29 s30 s31 s32 s33 s34 s35 t0 t1 t2 t3 t4 t5 t6 t7 t8 t9 t10 t11 t12 t13 t14 t15 t16 t17 t18 t19 t20 t21 t22 t23 t24 t25 t26 t27 t28 t29 t30 t31 t32 t33 t34 t35 : Sl} {rr r3 : List Sl} {N : List Sl → Prop} : restK 35 N (s0 :: s1 :: s2 :: s3 :: s4 :: s5 :: s6 :: s7 :: s8 :: s9 :: s10 :: s11 :: s12 :: s13 :: s14 :: s15 :: s16 :: s17 :: s18 :: s19 :: s20 :: s21 :: s22 :: s23 :: s24 :: s25 :: s26 :: s27 :: s28 :: s29 :: s30 :: s31 :: s32 :: s33 :: s34 :: s35 :: rr) (t0 :: t1 :: t2 :: t3 :: t4 :: t5 :: t6 :: t7 :: t8 :: t9 :: t10 :: t11 :: t12 :: t13 :: t14 :: t15 :: t16 :: t17 :: t18 :: t19 :: t20 :: t21 :: t22 :: t23 :: t24 :: t25 :: t26 :: t27 :: t28 :: t29 :: t30 :: t31 :: t32 :: t33 :: t34 :: t35 :: r3) = N (t0 :: t1 :: t2 :: t3 :: t4 :: t5 :: t6 :: t7 :: t8 :: t9 :: t10 :: t11 :: t12 :: t13 :: t14 :: t15 :: t16 :: t17 :: t18 :: t19 :: t20 :: t21 :: t22 :: t23 :: t24 :: t25 :: t26 :: t27 :: t28 :: t29 :: t30 :: t31 :: t32 :: t33 :: t34 :: keepI s35 :: r3) := by unfold restK; simp [restD, restD_out]
@[simp ↓] theorem x_put36 {s0 s1 s2 s3 s4 s5 s6 s7 s8 s9 s10 s11 s12 s13 s14 s15 s16 s17 s18 s19 s20 s21 s22 s23 s24 s25 s26 s27 s28 s29 s30 s31 s32 s33 s34 s35 s36 y : Sl} {rr : List Sl} {N : List Sl → Prop} : putK N 36 y (s0 :: s1 :: s2 :: s3 :: s4 :: s5 :: s6 :: s7 :: s8 :: s9 :: s10 :: s11 :: s12 :: s13 :: s14 :: s15 :: s16 :: s17 :: s18 :: s19 :: s20 :: s21 :: s22 :: s23 :: s24 :: s25 :: s26 :: s27 :: s28 :: s29 :: s30 :: s31 :: s32 :: s33 :: s34 :: s35 :: s36 :: rr) = N (s0 :: s1 :: s2 :: s3 :: s4 :: s5 :: s6 :: s7 :: s8 :: s9 :: s10 :: s11 :: s12 :: s13 :: s14 :: s15 :: s16 :: s17 :: s18 :: s19 :: s20 :: s21 :: s22 :: s23 :: s24 :: s25 :: s26 :: s27 :: s28 :: s29 :: s30 :: s31 :: s32 :: s33 :: s34 :: s35 :: y :: rr) := id rfl
@[simp ↓] theorem x_rest36 {s0 s1 s2 s3 s4 s5 s6 s7 s8 s9 s10 s11 s12 s13 s14 s15 s16 s17 s18 s19 s20 s21 s22 s23 s24 s25 s26 s27 s28 s29 s30 s31 s32 s33 s34 s35 s36 t0 t1 t2 t3 t4 t5 t6 t7 t8 t9 t10 t11 t12 t13 t14 t15 t16 t17 t18 t19 t20 t21 t22 t23 t24 t25 t26 t27 t28 t29 t30 t31 t32 t33 t34 t35 t36 : Sl} {rr r3 : List Sl} {N : List Sl → Prop} : restK 36 N (s0 :: s1 :: s2 :: s3 :: s4 :: s5 :: s6 :: s7 :: s8 :: s9 :: s10 :: s11 :: s12 :: s13 :: s14 :: s15 :: s16 :: s17 :: s18 :: s19 :: s20 :: s21 :: s22 :: s23 :: s24 :: s25 :: s26 :: s27 :: s28 :: s29 :: s30 :: s31 :: s32 :: s33 :: s34 :: s35 :: s36 :: rr) (t0 :: t1 :: t2 :: t3 :: t4 :: t5 :: t6 :: t7 :: t8 :: t9 :: t10 :: t11 :: t12 :: t13 :: t14 :: t15 :: t16 :: t17 :: t18 :: t19 :: t20 :: t21 :: t22 :: t23 :: t24 :: t25 :: t26 :: t27 :: t28 :: t29 :: t30 :: t31 :: t32 :: t33 :: t34 :: t35 :: t36 :: r3) = N (t0 :: t1 :: t2 :: t3 :: t4 :: t5 :: t6 :: t7 :: t8 :: t9 :: t10 :: t11 :: t12 :: t13 :: t14 :: t15 :: t16 :: t17 :: t18 :: t19 :: t20 :: t21 :: t22 :: t23 :: t24 :: t25 :: t26 :: t27 :: t28 :: t29 :: t30 :: t31 :: t32 :: t33 :: t34 :: t35 :: keepI s36 :: r3) := by unfold restK; simp [restD, restD_out]
@[simp ↓] theorem x_put37 {s0 s1 s2 s3 s4 s5 s6 s7 s8 s9 s10 s11 s12 s13 s14 s15 s16 s17 s18 s19 s20 s21 s22 s23 s24 s25 s26 s27 s28 s29 s30 s31 s32 s33 s34 s35 s36 s37 y : Sl} {rr : List Sl} {N : List Sl → Prop} : putK N 37 y (s0 :: s1 :: s2 :: s3 :: s4 :: s5 :: s6 :: s7 :: s8 :: s9 :: s10 :: s11 :: s12 :: s13 :: s14 :: s15 :: s16 :: s17 :: s18 :: s19 :: s20 :: s21 :: s22 :: s23 :: s24 :: s25 :: s26 :: s27 :: s28 :: s29 :: s30 :: s31 :: s32 :: s33 :: s34 :: s35 :: s36 :: s37 :: rr) = N (s0 :: s1 :: s2 :: s3 :: s4 :: s5 :: s6 :: s7 :: s8 :: s9 :: s10 :: s11 :: s12 :: s13 :: s14 :: s15 :: s16 :: s17 :: s18 :: s19 :: s20 :: s21 :: s22 :: s23 :: s24 :: s25 :: s26 :: s27 :: s28 :: s29 :: s30 :: s31 :: s32 :: s33 :: s34 :: s35 :: s36 :: y :: rr) := id rfl
@[simp ↓] theorem x_rest37 {s0 s1 s2 s3 s4 s5 s6 s7 s8 s9 s10 s11 s12 s13 s14 s15 s16 s17 s18 s19 s20 s21 s22 s23 s24 s25 s26 s27 s28 s29 s30 s31 s32 s33 s34 s35 s36 s37 t0 t1 t2 t3 t4 t5 t6 t7 t8 t9 t10 t11 t12 t13 t14 t15 t16 t17 t18 t19 t20 t21 t22 t23 t24 t25 t26 t27 t28 t29 t30 t31 t32 t33 t34 t35 t36 t37 : Sl} {rr r3 : List Sl} {N : List Sl → Prop} : restK 37 N (s0 :: s1 :: s2 :: s3 :: s4 :: s5 :: s6 :: s7 :: s8 :: s9 :: s10 :: s11 :: s12 :: s13 :: s14 :: s15 :: s16 :: s17 :: s18 :: s19 :: s20 :: s21 :: s22 :: s23 :: s24 :: s25 :: s26 :: s27 :: s28 :: s29 :: s30 :: s31 :: s32 :: s33 :: s34 :: s35 :: s36 :: s37 :: rr) (t0 :: t1 :: t2 :: t3 :: t4 :: t5 :: t6 :: t7 :: t8 :: t9 :: t10 :: t11 :: t12 :: t13 :: t14 :: t15 :: t16 :: t17 :: t18 :: t19 :: t20 :: t21 :: t22 :: t23 :: t24 :: t25 :: t26 :: t27 :: t28 :: t29 :: t30 :: t31 :: t32 :: t33 :: t34 :: t35 :: t36 :: t37 :: r3) = N (t0 :: t1 :: t2 :: t3 :: t4 :: t5 :: t6 :: t7 :: t8 :: t9 :: t10 :: t11 :: t12 :: t13 :: t14 :: t15 :: t16 :: t17 :: t18 :: t19 :: t20 :: t21 :: t22 :: t23 :: t24 :: t25 :: t26 :: t27 :: t28 :: t29 :: t30 :: t31 :: t32 :: t33 :: t34 :: t35 :: t36 :: keepI s37 :: r3) := by unfold restK; simp [restD, restD_out]
@[simp ↓] theorem x_put38 {s0 s1 s2 s3 s4 s5 s6 s7 s8 s9 s10 s11 s12 s13 s14 s15 s16 s17 s18 s19 s20 s21 s22 s23 s24 s25 s26 s27 s28 s29 s30 s31 s32 s33 s34 s35 s36 s37 s38 y : Sl} {rr : List Sl} {N : List Sl → Prop} : putK N 38 y (s0 :: s1 :: s2 :: s3 :: s4 :: s5 :: s6 :: s7 :: s8 :: s9 :: s10 :: s11 :: s12 :: s13 :: s14 :: s15 :: s16 :: s17 :: s18 :: s19 :: s20 :: s21 :: s22 :: s23 :: s24 :: s25 :: s26 :: s27 :: s28 :: s29 :: s30 :: s31 :: s32 :: s33 :: s34 :: s35 :: s36 :: s37 :: s38 :: rr) = N (s0 :: s1 :: s2 :: s3 :: s4 :: s5 :: s6 :: s7 :: s8 :: s9 :: s10 :: s11 :: s12 :: s13 :: s14 :: s15 :: s16 :: s17 :: s18 :: s19 :: s20 :: s21 :: s22 :: s23 :: s24 :: s25 :: s26 :: s27 :: s28 :: s29 :: s30 :: s31 :: s32 :: s33 :: s34 :: s35 :: s36 :: s37 :: y :: rr) := id rfl
@[simp ↓] theorem x_rest38 {s0 s1 s2 s3 s4 s5 s6 s7 s8 s9 s10 s11 s12 s13 s14 s15 s16 s17 s18 s19 s20 s21 s22 s23 s24 s25 s26 s27 s28 s29 s30 s31 s32 s33 s34 s35 s36 s37 s38 t0 t1 t2 t3 t4 t5 t6 t7 t8 t9 t10 t11 t12 t13 t14 t15 t16 t17 t18 t19 t20 t21 t22 t23 t24 t25 t26 t27 t28 t29 t30 t31 t32 t33 t34 t35 t36 t37 t38 : Sl} {rr r3 : List Sl} {N : List Sl → Prop} : restK 38 N (s0 :: s1 :: s2 :: s3 :: s4 :: s5 :: s6 :: s7 :: s8 :: s9 :: s10 :: s11 :: s12 :: s13 :: s14 :: s15 :: s16 :: s17 :: s18 :: s19 :: s20 :: s21 :: s22 :: s23 :: s24 :: s25 :: s26 :: s27 :: s28 :: s29 :: s30 :: s31 :: s32 :: s33 :: s34 :: s35 :: s36 :: s37 :: s38 :: rr) (t0 :: t1 :: t2 :: t3 :: t4 :: t5 :: t6 :: t7 :: t8 :: t9 :: t10 :: t11 :: t12 :: t13 :: t14 :: t15 :: t16 :: t17 :: t18 :: t19 :: t20 :: t21 :: t22 :: t23 :: t24 :: t25 :: t26 :: t27 :: t28 :: t29 :: t30 :: t31 :: t32 :: t33 :: t34 :: t35 :: t36 :: t37 :: t38 :: r3) = N (t0 :: t1 :: t2 :: t3 :: t4 :: t5 :: t6 :: t7 :: t8 :: t9 :: t10 :: t11 :: t12 :: t13 :: t14 :: t15 :: t16 :: t17 :: t18 :: t19 :: t20 :: t21 :: t22 :: t23 :: t24 :: t25 :: t26 :: t27 :: t28 :: t29 :: t30 :: t31 :: t32 :: t33 :: t34 :: t35 :: t36 :: t37 :: keepI s38 :: r3) := by unfold restK; simp [restD, restD_out]
@[simp ↓] theorem x_put39 {s0 s1 s2 s3 s4 s5 s6 s7 s8 s9 s10 s11 s12 s13 s14 s15 s16 s17 s18 s19 s20 s21 s22 s23 s24 s25 s26 s27 s28 s29 s30 s31 s32 s33 s34 s35 s36 s37 s38 s39 y : Sl} {rr : List Sl} {N : List Sl → Prop} : putK N 39 y (s0 :: s1 :: s2 :: s3 :: s4 :: s5 :: s6 :: s7 :: s8 :: s9 :: s10 :: s11 :: s12 :: s13 :: s14 :: s15 :: s16 :: s17 :: s18 :: s19 :: s20 :: s21 :: s22 :: s23 :: s24 :: s25 :: s26 :: s27 :: s28 :: s29 :: s30 :: s31 :: s32 :: s33 :: s34 :: s35 :: s36 :: s37 :: s38 :: s39 :: rr) = N (s0 :: s1 :: s2 :: s3 :: s4 :: s5 :: s6 :: s7 :: s8 :: s9 :: s10 :: s11 :: s12 :: s13 :: s14 :: s15 :: s16 :: s17 :: s18 :: s19 :: s20 :: s21 :: s22 :: s23 :: s24 :: s25 :: s26 :: s27 :: s28 :: s29 :: s30 :: s31 :: s32 :: s33 :: s34 :: s35 :: s36 :: s37 :: s38 :: y :: rr) := id rfl
@[simp ↓] theorem x_rest39 {s0 s1 s2 s3 s4 s5 s6 s7 s8 s9 s10 s11 s12 s13 s14 s15 s16 s17 s18 s19 s20 s21 s22 s23 s24 s25 s26 s27 s28 s29 s30 s31 s32 s33 s34 s35 s36 s37 s38 s39 t0 t1 t2 t3 t4 t5 t6 t7 t8 t9 t10 t11 t12 t13 t14 t15 t16 t17 t18 t19 t20 t21 t22 t23 t24 t25 t26 t27 t28 t29 t30 t31 t32 t33 t34 t35 t36 t37 t38 t39 : Sl} {rr r3 : List Sl} {N : List Sl → Prop} : restK 39 N (s0 :: s1 :: s2 :: s3 :: s4 :: s5 :: s6 :: s7 :: s8 :: s9 :: s10 :: s11 :: s12 :: s13 :: s14 :: s15 :: s16 :: s17 :: s18 :: s19 :: s20 :: s21 :: s22 :: s23 :: s24 :: s25 :: s26 :: s27 :: s28 :: s29 :: s30 :: s31 :: s32 :: s33 :: s34 :: s35 :: s36 :: s37 :: s38 :: s39 :: rr) (t0 :: t1 :: t2 :: t3 :: t4 :: t5 :: t6 :: t7 :: t8 :: t9 :: t10 :: t11 :: t12 :: t13 :: t14 :: t15 :: t16 :: t17 :: t18 :: t19 :: t20 :: t21 :: t22 :: t23 :: t24 :: t25 :: t26 :: t27 :: t28 :: t29 :: t30 :: t31 :: t32 :: t33 :: t34 :: t35 :: t36 :: t37 :: t38 :: t39 :: r3) = N (t0 :: t1 :: t2 :: t3 :: t4 :: t5 :: t6 :: t7 :: t8 :: t9 :: t10 :: t11 :: t12 :: t13 :: t14 :: t15 :: t16 :: t17 :: t18 :: t19 :: t20 :: t21 :: t22 :: t23 :: t24 :: t25 :: t26 :: t27 :: t28 :: t29 :: t30 :: t31 :: t32 :: t33 :: t34 :: t35 :: t36 :: t37 :: t38 :: keepI s39 :: r3) := by unfold restK; simp [restD, restD_out]
@[simp ↓] theorem x_sq : wSq a b D0 ρ = a { D0 with nx := fun ρ' => b D0 ρ' } ρ := id rfl
@[simp ↓] theorem x_nx : wNx D0 ρ = D0.nx ρ := id rfl
@[simp ↓] theorem x_set : wSet i w D0 ρ = w ρ fun x ρ1 => got x.sto? fun y => putK D0.nx i y ρ1 := id rfl
@[simp ↓] theorem x_asg : wAsg gg w D0 ρ = w ρ fun x ρ1 => got x.shd? fun d => gg d ρ1 D0.nx := id rfl
def parK (ix : List Nat) (D0 : DE) (ρ1 : List Sl) (ds : List D) : Prop := match ix, ds with
  | [i, j], [d, e] => D0.nx ((ρ1.set i (.im d)).set j (.im e))
  | [i, j, k], [d, e, f] => D0.nx (((ρ1.set i (.im d)).set j (.im e)).set k (.im f))
  | _, _ => False
@[simp ↓] theorem x_par {ix : List Nat} : wPar ix r D0 ρ = r ρ fun xs ρ1 => got (dats? xs) (parK ix D0 ρ1) := id rfl
@[simp ↓] theorem x_parK2 {i j : Nat} {d e : D} : parK [i, j] D0 ρ [d, e] = putK (fun ρ1 => putK D0.nx j (.im e) ρ1) i (.im d) ρ := id rfl
@[simp ↓] theorem x_parK3 {i j k : Nat} {d e f : D} : parK [i, j, k] D0 ρ [d, e, f] = putK (fun ρ1 => putK (fun ρ2 => putK D0.nx k (.im f) ρ2) j (.im e) ρ1) i (.im d) ρ := id rfl
def owAt (i : Nat) (ρ : List Sl) : Prop := ∃ es, ρ[i]? = some (.ow es)
def setK (i : Nat) (D0 : DE) (d : D) (k : Int) (ρ2 : List Sl) : Prop := match ρ2[i]? with
  | some (.ow ds) => got (ixN ds.length k) fun j => D0.nx (ρ2.set i (.ow (ds.set j d)))
  | _ => False
def appK (i : Nat) (D0 : DE) (d : D) (ρ1 : List Sl) : Prop := match ρ1[i]? with
  | some (.ow ds) => ds.length ≤ 100000 ∧ D0.nx (ρ1.set i (.ow (ds ++ [d])))
  | _ => False
@[simp ↓] theorem x_setI {wk we : WE} : wSetI i wk we D0 ρ = we ρ fun y ρ1 => got y.shd? fun d => owAt i ρ1 ∧ wk ρ1 fun kx ρ2 => got kx.int? fun k => setK i D0 d k ρ2 := id rfl
@[simp ↓] theorem x_ret : wRet w D0 ρ = w ρ fun x ρ1 => got x.shd? fun d => D0.rt d := id rfl
@[simp ↓] theorem x_if : wIf t a b D0 ρ = t ρ fun k ρ1 => if k = true then a D0 ρ1 else b D0 ρ1 := id rfl
@[simp ↓] theorem x_drop : wDrop w D0 ρ = w ρ fun x ρ1 => D0.nx ρ1 := id rfl
@[simp ↓] theorem x_app : wApp i w D0 ρ = (owAt i ρ ∧ w ρ fun x ρ1 => got x.shd? fun d => appK i D0 d ρ1) := id rfl
@[simp ↓] theorem x_for {v : WI} : wFor v gg b D0 ρ = v ρ fun ds ρ1 => loopD gg b D0 ds ρ1 := id rfl
def itK (QI : List D → List Sl → Prop) (x : Sl) (ρ1 : List Sl) : Prop := match x with
  | .im (.list ds) => QI ds ρ1
  | .ow ds => QI ds ρ1
  | .im (.tuple ds) => QI ds ρ1
  | _ => False
def enK (QI : List D → List Sl → Prop) (xs : List Sl) (ρ1 : List Sl) : Prop := match xs with
  | [x] => got x.shd? fun d => got (sqD? d) fun ds => QI (enD 0 ds) ρ1
  | [x, y] => got x.shd? fun d => got y.int? fun k => -(2 ^ 62) ≤ k ∧ k < 2 ^ 62 ∧ got (sqD? d) fun ds => QI (enD k ds) ρ1
  | _ => False
def zpK (QI : List D → List Sl → Prop) (xs : List Sl) (ρ1 : List Sl) : Prop := match dats? xs with
  | some [.list ds, .list es] => QI (zpD ds es) ρ1
  | some [.tuple ds, .tuple es] => QI (zpD ds es) ρ1
  | _ => False
/-- a bound of a range -/
def okRg (i : Int) : Prop := -(2 ^ 62) ≤ i ∧ i < 2 ^ 62
def rgK (QI : List D → List Sl → Prop) (xs : List Sl) (ρ1 : List Sl) : Prop := match xs with
  | [x] => got x.int? fun j => -(2 ^ 62) ≤ j ∧ j < 2 ^ 62 ∧ QI (rgD 0 1 j.toNat) ρ1
  | [x, y] => got x.int? fun i => got y.int? fun j => (-(2 ^ 62) ≤ i ∧ i < 2 ^ 62 ∧ -(2 ^ 62) ≤ j ∧ j < 2 ^ 62) ∧ QI (rgD i 1 (j - i).toNat) ρ1
  | [x, y, z] => got x.int? fun i => got y.int? fun j => got z.int? fun c => (-(2 ^ 62) ≤ i ∧ i < 2 ^ 62 ∧ -(2 ^ 62) ≤ j ∧ j < 2 ^ 62) ∧ c = -1 ∧ QI (rgD i (-1) (i - j).toNat) ρ1
  | _ => False
@[simp ↓] theorem x_it : wIt w ρ QI = w ρ (itK QI) := id rfl
@[simp ↓] theorem x_itL {ds : List D} : itK QI (.im (.list ds)) ρ = QI ds ρ := id rfl
@[simp ↓] theorem x_itT {ds : List D} : itK QI (.im (.tuple ds)) ρ = QI ds ρ := id rfl
@[simp ↓] theorem x_itO {ds : List D} : itK QI (.ow ds) ρ = QI ds ρ := id rfl
@[simp ↓] theorem x_en : wEn r ρ QI = r ρ (enK QI) := id rfl
@[simp ↓] theorem x_enT {ds : List D} : enK QI [.im (.tuple ds)] ρ = QI (enD 0 ds) ρ := id rfl
@[simp ↓] theorem x_enL {ds : List D} : enK QI [.im (.list ds)] ρ = QI (enD 0 ds) ρ := id rfl
@[simp ↓] theorem x_enT1 {ds : List D} {k : Int} : enK QI [.im (.tuple ds), .im (.int k)] ρ = (-(2 ^ 62) ≤ k ∧ k < 2 ^ 62 ∧ QI (enD k ds) ρ) := id rfl
@[simp ↓] theorem x_enL1 {ds : List D} {k : Int} : enK QI [.im (.list ds), .im (.int k)] ρ = (-(2 ^ 62) ≤ k ∧ k < 2 ^ 62 ∧ QI (enD k ds) ρ) := id rfl
@[simp ↓] theorem x_zp : wZp r ρ QI = r ρ (zpK QI) := id rfl
@[simp ↓] theorem x_zpT {ds es : List D} : zpK QI [.im (.tuple ds), .im (.tuple es)] ρ = QI (zpD ds es) ρ := id rfl
@[simp ↓] theorem x_zpL {ds es : List D} : zpK QI [.im (.list ds), .im (.list es)] ρ = QI (zpD ds es) ρ := id rfl
@[simp ↓] theorem x_rg : wRg r ρ QI = r ρ (rgK QI) := id rfl
@[simp ↓] theorem x_rg1 {i : Int} : rgK QI [.im (.int i)] ρ = (okRg i ∧ QI (rgD 0 1 i.toNat) ρ) := propext ⟨fun h => ⟨⟨h.1, h.2.1⟩, h.2.2⟩, fun h => ⟨h.1.1, h.1.2, h.2⟩⟩
@[simp ↓] theorem x_rg2 {i j : Int} : rgK QI [.im (.int i), .im (.int j)] ρ = (okRg i ∧ okRg j ∧ QI (rgD i 1 (j - i).toNat) ρ) := propext ⟨fun h => ⟨⟨h.1.1, h.1.2.1⟩, h.1.2.2, h.2⟩, fun h => ⟨⟨h.1.1, h.1.2, h.2.1⟩, h.2.2⟩⟩
@[simp ↓] theorem x_rg3 {i j c : Int} : rgK QI [.im (.int i), .im (.int j), .im (.int c)] ρ = (okRg i ∧ okRg j ∧ c = -1 ∧ QI (rgD i (-1) (i - j).toNat) ρ) := propext ⟨fun h => ⟨⟨h.1.1, h.1.2.1⟩, h.1.2.2, h.2⟩, fun h => ⟨⟨h.1.1, h.1.2, h.2.1⟩, h.2.2⟩⟩
@[simp ↓] theorem x_c {d : D} : wC d ρ Q = Q (.im d) ρ := id rfl
@[simp ↓] theorem x_v0 {rr : List Sl} {d : D} : wV 0 (Sl.im d :: rr) Q = Q (.im d) (Sl.im d :: rr) := id rfl
@[simp ↓] theorem x_v0o {rr : List Sl} {ds : List D} : wV 0 (Sl.ow ds :: rr) Q = Q (.im (.list ds)) (Sl.im (.list ds) :: rr) := id rfl
@[simp ↓] theorem x_v0s {rr : List Sl} : wV 0 (Sl.src :: rr) Q = Q .src (Sl.src :: rr) := id rfl
@[simp ↓] theorem x_p0 {rr : List Sl} {d : D} : wP 0 (Sl.im d :: rr) Q = Q (.im d) (Sl.im d :: rr) := id rfl
@[simp ↓] theorem x_p0o {rr : List Sl} {ds : List D} : wP 0 (Sl.ow ds :: rr) Q = Q (.pk ds) (Sl.ow ds :: rr) := id rfl
@[simp ↓] theorem x_p0s {rr : List Sl} : wP 0 (Sl.src :: rr) Q = Q .src (Sl.src :: rr) := id rfl
@[simp ↓] theorem x_owA0 {rr : List Sl} {ds : List D} : owAt 0 (Sl.ow ds :: rr) = True := eq_true ⟨ds, rfl⟩
@[simp ↓] theorem x_setK0 {rr : List Sl} {ds : List D} {d : D} {k : Int} : setK 0 D0 d k (Sl.ow ds :: rr) = got (ixN ds.length k) fun j => D0.nx (Sl.ow (ds.set j d) :: rr) := id rfl
@[simp ↓] theorem x_appK0 {rr : List Sl} {ds : List D} {d : D} : appK 0 D0 d (Sl.ow ds :: rr) = (ds.length ≤ 100000 ∧ D0.nx (Sl.ow (ds ++ [d]) :: rr)) := id rfl
@[simp ↓] theorem x_pop0 {rr : List Sl} {ds : List D} : wPop 0 D0 (Sl.ow ds :: rr) = (ds ≠ [] ∧ D0.nx (Sl.ow ds.dropLast :: rr)) := id rfl
@[simp ↓] theorem x_v1 {s0 : Sl} {rr : List Sl} {d : D} : wV 1 (s0 :: Sl.im d :: rr) Q = Q (.im d) (s0 :: Sl.im d :: rr) := id rfl
@[simp ↓] theorem x_v1o {s0 : Sl} {rr : List Sl} {ds : List D} : wV 1 (s0 :: Sl.ow ds :: rr) Q = Q (.im (.list ds)) (s0 :: Sl.im (.list ds) :: rr) := id rfl
@[simp ↓] theorem x_v1s {s0 : Sl} {rr : List Sl} : wV 1 (s0 :: Sl.src :: rr) Q = Q .src (s0 :: Sl.src :: rr) := id rfl
@[simp ↓] theorem x_p1 {s0 : Sl} {rr : List Sl} {d : D} : wP 1 (s0 :: Sl.im d :: rr) Q = Q (.im d) (s0 :: Sl.im d :: rr) := id rfl
@[simp ↓] theorem x_p1o {s0 : Sl} {rr : List Sl} {ds : List D} : wP 1 (s0 :: Sl.ow ds :: rr) Q = Q (.pk ds) (s0 :: Sl.ow ds :: rr) := id rfl
@[simp ↓] theorem x_p1s {s0 : Sl} {rr : List Sl} : wP 1 (s0 :: Sl.src :: rr) Q = Q .src (s0 :: Sl.src :: rr) := id rfl
@[simp ↓] theorem x_owA1 {s0 : Sl} {rr : List Sl} {ds : List D} : owAt 1 (s0 :: Sl.ow ds :: rr) = True := eq_true ⟨ds, rfl⟩
@[simp ↓] theorem x_setK1 {s0 : Sl} {rr : List Sl} {ds : List D} {d : D} {k : Int} : setK 1 D0 d k (s0 :: Sl.ow ds :: rr) = got (ixN ds.length k) fun j => D0.nx (s0 :: Sl.ow (ds.set j d) :: rr) := id rfl
@[simp ↓] theorem x_appK1 {s0 : Sl} {rr : List Sl} {ds : List D} {d : D} : appK 1 D0 d (s0 :: Sl.ow ds :: rr) = (ds.length ≤ 100000 ∧ D0.nx (s0 :: Sl.ow (ds ++ [d]) :: rr)) := id rfl
@[simp ↓] theorem x_pop1 {s0 : Sl} {rr : List Sl} {ds : List D} : wPop 1 D0 (s0 :: Sl.ow ds :: rr) = (ds ≠ [] ∧ D0.nx (s0 :: Sl.ow ds.dropLast :: rr)) := id rfl
@[simp ↓] theorem x_v2 {s0 s1 : Sl} {rr : List Sl} {d : D} : wV 2 (s0 :: s1 :: Sl.im d :: rr) Q = Q (.im d) (s0 :: s1 :: Sl.im d :: rr) := id rfl
@[simp ↓] theorem x_v2o {s0 s1 : Sl} {rr : List Sl} {ds : List D} : wV 2 (s0 :: s1 :: Sl.ow ds :: rr) Q = Q (.im (.list ds)) (s0 :: s1 :: Sl.im (.list ds) :: rr) := id rfl
@[simp ↓] theorem x_v2s {s0 s1 : Sl} {rr : List Sl} : wV 2 (s0 :: s1 :: Sl.src :: rr) Q = Q .src (s0 :: s1 :: Sl.src :: rr) := id rfl
@[simp ↓] theorem x_p2 {s0 s1 : Sl} {rr : List Sl} {d : D} : wP 2 (s0 :: s1 :: Sl.im d :: rr) Q = Q (.im d) (s0 :: s1 :: Sl.im d :: rr) := id rfl
@[simp ↓] theorem x_p2o {s0 s1 : Sl} {rr : List Sl} {ds : List D} : wP 2 (s0 :: s1 :: Sl.ow ds :: rr) Q = Q (.pk ds) (s0 :: s1 :: Sl.ow ds :: rr) := id rfl
@[simp ↓] theorem x_p2s {s0 s1 : Sl} {rr : List Sl} : wP 2 (s0 :: s1 :: Sl.src :: rr) Q = Q .src (s0 :: s1 :: Sl.src :: rr) := id rfl
@[simp ↓] theorem x_owA2 {s0 s1 : Sl} {rr : List Sl} {ds : List D} : owAt 2 (s0 :: s1 :: Sl.ow ds :: rr) = True := eq_true ⟨ds, rfl⟩
@[simp ↓] theorem x_setK2 {s0 s1 : Sl} {rr : List Sl} {ds : List D} {d : D} {k : Int} : setK 2 D0 d k (s0 :: s1 :: Sl.ow ds :: rr) = got (ixN ds.length k) fun j => D0.nx (s0 :: s1 :: Sl.ow (ds.set j d) :: rr) := id rfl
@[simp ↓] theorem x_appK2 {s0 s1 : Sl} {rr : List Sl} {ds : List D} {d : D} : appK 2 D0 d (s0 :: s1 :: Sl.ow ds :: rr) = (ds.length ≤ 100000 ∧ D0.nx (s0 :: s1 :: Sl.ow (ds ++ [d]) :: rr)) := id rfl
@[simp ↓] theorem x_pop2 {s0 s1 : Sl} {rr : List Sl} {ds : List D} : wPop 2 D0 (s0 :: s1 :: Sl.ow ds :: rr) = (ds ≠ [] ∧ D0.nx (s0 :: s1 :: Sl.ow ds.dropLast :: rr)) := id rfl
@[simp ↓] theorem x_v3 {s0 s1 s2 : Sl} {rr : List Sl} {d : D} : wV 3 (s0 :: s1 :: s2 :: Sl.im d :: rr) Q = Q (.im d) (s0 :: s1 :: s2 :: Sl.im d :: rr) := id rfl
@[simp ↓] theorem x_v3o {s0 s1 s2 : Sl} {rr : List Sl} {ds : List D} : wV 3 (s0 :: s1 :: s2 :: Sl.ow ds :: rr) Q = Q (.im (.list ds)) (s0 :: s1 :: s2 :: Sl.im (.list ds) :: rr) := id rfl
@[simp ↓] theorem x_v3s {s0 s1 s2 : Sl} {rr : List Sl} : wV 3 (s0 :: s1 :: s2 :: Sl.src :: rr) Q = Q .src (s0 :: s1 :: s2 :: Sl.src :: rr) := id rfl
@[simp ↓] theorem x_p3 {s0 s1 s2 : Sl} {rr : List Sl} {d : D} : wP 3 (s0 :: s1 :: s2 :: Sl.im d :: rr) Q = Q (.im d) (s0 :: s1 :: s2 :: Sl.im d :: rr) := id rfl
@[simp ↓] theorem x_p3o {s0 s1 s2 : Sl} {rr : List Sl} {ds : List D} : wP 3 (s0 :: s1 :: s2 :: Sl.ow ds :: rr) Q = Q (.pk ds) (s0 :: s1 :: s2 :: Sl.ow ds :: rr) := id rfl
@[simp ↓] theorem x_p3s {s0 s1 s2 : Sl} {rr : List Sl} : wP 3 (s0 :: s1 :: s2 :: Sl.src :: rr) Q = Q .src (s0 :: s1 :: s2 :: Sl.src :: rr) := id rfl
@[simp ↓] theorem x_owA3 {s0 s1 s2 : Sl} {rr : List Sl} {ds : List D} : owAt 3 (s0 :: s1 :: s2 :: Sl.ow ds :: rr) = True := eq_true ⟨ds, rfl⟩
@[simp ↓] theorem x_setK3 {s0 s1 s2 : Sl} {rr : List Sl} {ds : List D} {d : D} {k : Int} : setK 3 D0 d k (s0 :: s1 :: s2 :: Sl.ow ds :: rr) = got (ixN ds.length k) fun j => D0.nx (s0 :: s1 :: s2 :: Sl.ow (ds.set j d) :: rr) := id rfl
@[simp ↓] theorem x_appK3 {s0 s1 s2 : Sl} {rr : List Sl} {ds : List D} {d : D} : appK 3 D0 d (s0 :: s1 :: s2 :: Sl.ow ds :: rr) = (ds.length ≤ 100000 ∧ D0.nx (s0 :: s1 :: s2 :: Sl.ow (ds ++ [d]) :: rr)) := id rfl
@[simp ↓] theorem x_pop3 {s0 s1 s2 : Sl} {rr : List Sl} {ds : List D} : wPop 3 D0 (s0 :: s1 :: s2 :: Sl.ow ds :: rr) = (ds ≠ [] ∧ D0.nx (s0 :: s1 :: s2 :: Sl.ow ds.dropLast :: rr)) := id rfl
@[simp ↓] theorem x_v4 {s0 s1 s2 s3 : Sl} {rr : List Sl} {d : D} : wV 4 (s0 :: s1 :: s2 :: s3 :: Sl.im d :: rr) Q = Q (.im d) (s0 :: s1 :: s2 :: s3 :: Sl.im d :: rr) := id rfl
@[simp ↓] theorem x_v4o {s0 s1 s2 s3 : Sl} {rr : List Sl} {ds : List D} : wV 4 (s0 :: s1 :: s2 :: s3 :: Sl.ow ds :: rr) Q = Q (.im (.list ds)) (s0 :: s1 :: s2 :: s3 :: Sl.im (.list ds) :: rr) := id rfl
@[simp ↓] theorem x_v4s {s0 s1 s2 s3 : Sl} {rr : List Sl} : wV 4 (s0 :: s1 :: s2 :: s3 :: Sl.src :: rr) Q = Q .src (s0 :: s1 :: s2 :: s3 :: Sl.src :: rr) := id rfl
@[simp ↓] theorem x_p4 {s0 s1 s2 s3 : Sl} {rr : List Sl} {d : D} : wP 4 (s0 :: s1 :: s2 :: s3 :: Sl.im d :: rr) Q = Q (.im d) (s0 :: s1 :: s2 :: s3 :: Sl.im d :: rr) := id rfl
@[simp ↓] theorem x_p4o {s0 s1 s2 s3 : Sl} {rr : List Sl} {ds : List D} : wP 4 (s0 :: s1 :: s2 :: s3 :: Sl.ow ds :: rr) Q = Q (.pk ds) (s0 :: s1 :: s2 :: s3 :: Sl.ow ds :: rr) := id rfl
@[simp ↓] theorem x_p4s {s0 s1 s2 s3 : Sl} {rr : List Sl} : wP 4 (s0 :: s1 :: s2 :: s3 :: Sl.src :: rr) Q = Q .src (s0 :: s1 :: s2 :: s3 :: Sl.src :: rr) := id rfl
@[simp ↓] theorem x_owA4 {s0 s1 s2 s3 : Sl} {rr : List Sl} {ds : List D} : owAt 4 (s0 :: s1 :: s2 :: s3 :: Sl.ow ds :: rr) = True := eq_true ⟨ds, rfl⟩
@[simp ↓] theorem x_setK4 {s0 s1 s2 s3 : Sl} {rr : List Sl} {ds : List D} {d : D} {k : Int} : setK 4 D0 d k (s0 :: s1 :: s2 :: s3 :: Sl.ow ds :: rr) = got (ixN ds.length k) fun j => D0.nx (s0 :: s1 :: s2 :: s3 :: Sl.ow (ds.set j d) :: rr) := id rfl
@[simp ↓] theorem x_appK4 {s0 s1 s2 s3 : Sl} {rr : List Sl} {ds : List D} {d : D} : appK 4 D0 d (s0 :: s1 :: s2 :: s3 :: Sl.ow ds :: rr) = (ds.length ≤ 100000 ∧ D0.nx (s0 :: s1 :: s2 :: s3 :: Sl.ow (ds ++ [d]) :: rr)) := id rfl
@[simp ↓] theorem x_pop4 {s0 s1 s2 s3 : Sl} {rr : List Sl} {ds : List D} : wPop 4 D0 (s0 :: s1 :: s2 :: s3 :: Sl.ow ds :: rr) = (ds ≠ [] ∧ D0.nx (s0 :: s1 :: s2 :: s3 :: Sl.ow ds.dropLast :: rr)) := id rfl
@[simp ↓] theorem x_v5 {s0 s1 s2 s3 s4 : Sl} {rr : List Sl} {d : D} : wV 5 (s0 :: s1 :: s2 :: s3 :: s4 :: Sl.im d :: rr) Q = Q (.im d) (s0 :: s1 :: s2 :: s3 :: s4 :: Sl.im d :: rr) := id rfl
@[simp ↓] theorem x_v5o {s0 s1 s2 s3 s4 : Sl} {rr : List Sl} {ds : List D} : wV 5 (s0 :: s1 :: s2 :: s3 :: s4 :: Sl.ow ds :: rr) Q = Q (.im (.list ds)) (s0 :: s1 :: s2 :: s3 :: s4 :: Sl.im (.list ds) :: rr) := id rfl
@[simp ↓] theorem x_v5s {s0 s1 s2 s3 s4 : Sl} {rr : List Sl} : wV 5 (s0 :: s1 :: s2 :: s3 :: s4 :: Sl.src :: rr) Q = Q .src (s0 :: s1 :: s2 :: s3 :: s4 :: Sl.src :: rr) := id rfl
@[simp ↓] theorem x_p5 {s0 s1 s2 s3 s4 : Sl} {rr : List Sl} {d : D} : wP 5 (s0 :: s1 :: s2 :: s3 :: s4 :: Sl.im d :: rr) Q = Q (.im d) (s0 :: s1 :: s2 :: s3 :: s4 :: Sl.im d :: rr) := id rfl
@[simp ↓] theorem x_p5o {s0 s1 s2 s3 s4 : Sl} {rr : List Sl} {ds : List D} : wP 5 (s0 :: s1 :: s2 :: s3 :: s4 :: Sl.ow ds :: rr) Q = Q (.pk ds) (s0 :: s1 :: s2 :: s3 :: s4 :: Sl.ow ds :: rr) := id rfl
@[simp ↓] theorem x_p5s {s0 s1 s2 s3 s4 : Sl} {rr : List Sl} : wP 5 (s0 :: s1 :: s2 :: s3 :: s4 :: Sl.src :: rr) Q = Q .src (s0 :: s1 :: s2 :: s3 :: s4 :: Sl.src :: rr) := id rfl
@[simp ↓] theorem x_owA5 {s0 s1 s2 s3 s4 : Sl} {rr : List Sl} {ds : List D} : owAt 5 (s0 :: s1 :: s2 :: s3 :: s4 :: Sl.ow ds :: rr) = True := eq_true ⟨ds, rfl⟩
@[simp ↓] theorem x_setK5 {s0 s1 s2 s3 s4 : Sl} {rr : List Sl} {ds : List D} {d : D} {k : Int} : setK 5 D0 d k (s0 :: s1 :: s2 :: s3 :: s4 :: Sl.ow ds :: rr) = got (ixN ds.length k) fun j => D0.nx (s0 :: s1 :: s2 :: s3 :: s4 :: Sl.ow (ds.set j d) :: rr) := id rfl
@[simp ↓] theorem x_appK5 {s0 s1 s2 s3 s4 : Sl} {rr : List Sl} {ds : List D} {d : D} : appK 5 D0 d (s0 :: s1 :: s2 :: s3 :: s4 :: Sl.ow ds :: rr) = (ds.length ≤ 100000 ∧ D0.nx (s0 :: s1 :: s2 :: s3 :: s4 :: Sl.ow (ds ++ [d]) :: rr)) := id rfl
@[simp ↓] theorem x_pop5 {s0 s1 s2 s3 s4 : Sl} {rr : List Sl} {ds : List D} : wPop 5 D0 (s0 :: s1 :: s2 :: s3 :: s4 :: Sl.ow ds :: rr) = (ds ≠ [] ∧ D0.nx (s0 :: s1 :: s2 :: s3 :: s4 :: Sl.ow ds.dropLast :: rr)) := id rfl
@[simp ↓] theorem x_v6 {s0 s1 s2 s3 s4 s5 : Sl} {rr : List Sl} {d : D} : wV 6 (s0 :: s1 :: s2 :: s3 :: s4 :: s5 :: Sl.im d :: rr) Q = Q (.im d) (s0 :: s1 :: s2 :: s3 :: s4 :: s5 :: Sl.im d :: rr) := id rfl
@[simp ↓] theorem x_v6o {s0 s1 s2 s3 s4 s5 : Sl} {rr : List Sl} {ds : List D} : wV 6 (s0 :: s1 :: s2 :: s3 :: s4 :: s5 :: Sl.ow ds :: rr) Q = Q (.im (.list ds)) (s0 :: s1 :: s2 :: s3 :: s4 :: s5 :: Sl.im (.list ds) :: rr) := id rfl
@[simp ↓] theorem x_v6s {s0 s1 s2 s3 s4 s5 : Sl} {rr : List Sl} : wV 6 (s0 :: s1 :: s2 :: s3 :: s4 :: s5 :: Sl.src :: rr) Q = Q .src (s0 :: s1 :: s2 :: s3 :: s4 :: s5 :: Sl.src :: rr) := id rfl
@[simp ↓] theorem x_p6 {s0 s1 s2 s3 s4 s5 : Sl} {rr : List Sl} {d : D} : wP 6 (s0 :: s1 :: s2 :: s3 :: s4 :: s5 :: Sl.im d :: rr) Q = Q (.im d) (s0 :: s1 :: s2 :: s3 :: s4 :: s5 :: Sl.im d :: rr) := id rfl
@[simp ↓] theorem x_p6o {s0 s1 s2 s3 s4 s5 : Sl} {rr : List Sl} {ds : List D} : wP 6 (s0 :: s1 :: s2 :: s3 :: s4 :: s5 :: Sl.ow ds :: rr) Q = Q (.pk ds) (s0 :: s1 :: s2 :: s3 :: s4 :: s5 :: Sl.ow ds :: rr) := id rfl
@[simp ↓] theorem x_p6s {s0 s1 s2 s3 s4 s5 : Sl} {rr : List Sl} : wP 6 (s0 :: s1 :: s2 :: s3 :: s4 :: s5 :: Sl.src :: rr) Q = Q .src (s0 :: s1 :: s2 :: s3 :: s4 :: s5 :: Sl.src :: rr) := id rfl
@[simp ↓] theorem x_owA6 {s0 s1 s2 s3 s4 s5 : Sl} {rr : List Sl} {ds : List D} : owAt 6 (s0 :: s1 :: s2 :: s3 :: s4 :: s5 :: Sl.ow ds :: rr) = True := eq_true ⟨ds, rfl⟩
@[simp ↓] theorem x_setK6 {s0 s1 s2 s3 s4 s5 : Sl} {rr : List Sl} {ds : List D} {d : D} {k : Int} : setK 6 D0 d k (s0 :: s1 :: s2 :: s3 :: s4 :: s5 :: Sl.ow ds :: rr) = got (ixN ds.length k) fun j => D0.nx (s0 :: s1 :: s2 :: s3 :: s4 :: s5 :: Sl.ow (ds.set j d) :: rr) := id rfl
@[simp ↓] theorem x_appK6 {s0 s1 s2 s3 s4 s5 : Sl} {rr : List Sl} {ds : List D} {d : D} : appK 6 D0 d (s0 :: s1 :: s2 :: s3 :: s4 :: s5 :: Sl.ow ds :: rr) = (ds.length ≤ 100000 ∧ D0.nx (s0 :: s1 :: s2 :: s3 :: s4 :: s5 :: Sl.ow (ds ++ [d]) :: rr)) := id rfl
@[simp ↓] theorem x_pop6 {s0 s1 s2 s3 s4 s5 : Sl} {rr : List Sl} {ds : List D} : wPop 6 D0 (s0 :: s1 :: s2 :: s3 :: s4 :: s5 :: Sl.ow ds :: rr) = (ds ≠ [] ∧ D0.nx (s0 :: s1 :: s2 :: s3 :: s4 :: s5 :: Sl.ow ds.dropLast :: rr)) := id rfl
@[simp ↓] theorem x_v7 {s0 s1 s2 s3 s4 s5 s6 : Sl} {rr : List Sl} {d : D} : wV 7 (s0 :: s1 :: s2 :: s3 :: s4 :: s5 :: s6 :: Sl.im d :: rr) Q = Q (.im d) (s0 :: s1 :: s2 :: s3 :: s4 :: s5 :: s6 :: Sl.im d :: rr) := id rfl
@[simp ↓] theorem x_v7o {s0 s1 s2 s3 s4 s5 s6 : Sl} {rr : List Sl} {ds : List D} : wV 7 (s0 :: s1 :: s2 :: s3 :: s4 :: s5 :: s6 :: Sl.ow ds :: rr) Q = Q (.im (.list ds)) (s0 :: s1 :: s2 :: s3 :: s4 :: s5 :: s6 :: Sl.im (.list ds) :: rr) := id rfl
@[simp ↓] theorem x_v7s {s0 s1 s2 s3 s4 s5 s6 : Sl} {rr : List Sl} : wV 7 (s0 :: s1 :: s2 :: s3 :: s4 :: s5 :: s6 :: Sl.src :: rr) Q = Q .src (s0 :: s1 :: s2 :: s3 :: s4 :: s5 :: s6 :: Sl.src :: rr) := id rfl
@[simp ↓] theorem x_p7 {s0 s1 s2 s3 s4 s5 s6 : Sl} {rr : List Sl} {d : D} : wP 7 (s0 :: s1 :: s2 :: s3 :: s4 :: s5 :: s6 :: Sl.im d :: rr) Q = Q (.im d) (s0 :: s1 :: s2 :: s3 :: s4 :: s5 :: s6 :: Sl.im d :: rr) := id rfl
@[simp ↓] theorem x_p7o {s0 s1 s2 s3 s4 s5 s6 : Sl} {rr : List Sl} {ds : List D} : wP 7 (s0 :: s1 :: s2 :: s3 :: s4 :: s5 :: s6 :: Sl.ow ds :: rr) Q = Q (.pk ds) (s0 :: s1 :: s2 :: s3 :: s4 :: s5 :: s6 :: Sl.ow ds :: rr) := id rfl
@[simp ↓] theorem x_p7s {s0 s1 s2 s3 s4 s5 s6 : Sl} {rr : List Sl} : wP 7 (s0 :: s1 :: s2 :: s3 :: s4 :: s5 :: s6 :: Sl.src :: rr) Q = Q .src (s0 :: s1 :: s2 :: s3 :: s4 :: s5 :: s6 :: Sl.src :: rr) := id rfl
@[simp ↓] theorem x_owA7 {s0 s1 s2 s3 s4 s5 s6 : Sl} {rr : List Sl} {ds : List D} : owAt 7 (s0 :: s1 :: s2 :: s3 :: s4 :: s5 :: s6 :: Sl.ow ds :: rr) = True := eq_true ⟨ds, rfl⟩
@[simp ↓] theorem x_setK7 {s0 s1 s2 s3 s4 s5 s6 : Sl} {rr : List Sl} {ds : List D} {d : D} {k : Int} : setK 7 D0 d k (s0 :: s1 :: s2 :: s3 :: s4 :: s5 :: s6 :: Sl.ow ds :: rr) = got (ixN ds.length k) fun j => D0.nx (s0 :: s1 :: s2 :: s3 :: s4 :: s5 :: s6 :: Sl.ow (ds.set j d) :: rr) := id rfl
@[simp ↓] theorem x_appK7 {s0 s1 s2 s3 s4 s5 s6 : Sl} {rr : List Sl} {ds : List D} {d : D} : appK 7 D0 d (s0 :: s1 :: s2 :: s3 :: s4 :: s5 :: s6 :: Sl.ow ds :: rr) = (ds.length ≤ 100000 ∧ D0.nx (s0 :: s1 :: s2 :: s3 :: s4 :: s5 :: s6 :: Sl.ow (ds ++ [d]) :: rr)) := id rfl
@[simp ↓] theorem x_pop7 {s0 s1 s2 s3 s4 s5 s6 : Sl} {rr : List Sl} {ds : List D} : wPop 7 D0 (s0 :: s1 :: s2 :: s3 :: s4 :: s5 :: s6 :: Sl.ow ds :: rr) = (ds ≠ [] ∧ D0.nx (s0 :: s1 :: s2 :: s3 :: s4 :: s5 :: s6 :: Sl.ow ds.dropLast :: rr)) := id rfl
@[simp ↓] theorem x_v8 {s0 s1 s2 s3 s4 s5 s6 s7 : Sl} {rr : List Sl} {d : D} : wV 8 (s0 :: s1 :: s2 :: s3 :: s4 :: s5 :: s6 :: s7 :: Sl.im d :: rr) Q = Q (.im d) (s0 :: s1 :: s2 :: s3 :: s4 :: s5 :: s6 :: s7 :: Sl.im d :: rr) := id rfl
@[simp ↓] theorem x_v8o {s0 s1 s2 s3 s4 s5 s6 s7 : Sl} {rr : List Sl} {ds : List D} : wV 8 (s0 :: s1 :: s2 :: s3 :: s4 :: s5 :: s6 :: s7 :: Sl.ow ds :: rr) Q = Q (.im (.list ds)) (s0 :: s1 :: s2 :: s3 :: s4 :: s5 :: s6 :: s7 :: Sl.im (.list ds) :: rr) := id rfl
@[simp ↓] theorem x_v8s {s0 s1 s2 s3 s4 s5 s6 s7 : Sl} {rr : List Sl} : wV 8 (s0 :: s1 :: s2 :: s3 :: s4 :: s5 :: s6 :: s7 :: Sl.src :: rr) Q = Q .src (s0 :: s1 :: s2 :: s3 :: s4 :: s5 :: s6 :: s7 :: Sl.src :: rr) := id rfl
@[simp ↓] theorem x_p8 {s0 s1 s2 s3 s4 s5 s6 s7 : Sl} {rr : List Sl} {d : D} : wP 8 (s0 :: s1 :: s2 :: s3 :: s4 :: s5 :: s6 :: s7 :: Sl.im d :: rr) Q = Q (.im d) (s0 :: s1 :: s2 :: s3 :: s4 :: s5 :: s6 :: s7 :: Sl.im d :: rr) := id rfl
@[simp ↓] theorem x_p8o {s0 s1 s2 s3 s4 s5 s6 s7 : Sl} {rr : List Sl} {ds : List D} : wP 8 (s0 :: s1 :: s2 :: s3 :: s4 :: s5 :: s6 :: s7 :: Sl.ow ds :: rr) Q = Q (.pk ds) (s0 :: s1 :: s2 :: s3 :: s4 :: s5 :: s6 :: s7 :: Sl.ow ds :: rr) := id rfl
@[simp ↓] theorem x_p8s {s0 s1 s2 s3 s4 s5 s6 s7 : Sl} {rr : List Sl} : wP 8 (s0 :: s1 :: s2 :: s3 :: s4 :: s5 :: s6 :: s7 :: Sl.src :: rr) Q = Q .src (s0 :: s1 :: s2 :: s3 :: s4 :: s5 :: s6 :: s7 :: Sl.src :: rr) := id rfl
@[simp ↓] theorem x_owA8 {s0 s1 s2 s3 s4 s5 s6 s7 : Sl} {rr : List Sl} {ds : List D} : owAt 8 (s0 :: s1 :: s2 :: s3 :: s4 :: s5 :: s6 :: s7 :: Sl.ow ds :: rr) = True := eq_true ⟨ds, rfl⟩
@[simp ↓] theorem x_setK8 {s0 s1 s2 s3 s4 s5 s6 s7 : Sl} {rr : List Sl} {ds : List D} {d : D} {k : Int} : setK 8 D0 d k (s0 :: s1 :: s2 :: s3 :: s4 :: s5 :: s6 :: s7 :: Sl.ow ds :: rr) = got (ixN ds.length k) fun j => D0.nx (s0 :: s1 :: s2 :: s3 :: s4 :: s5 :: s6 :: s7 :: Sl.ow (ds.set j d) :: rr) := id rfl
@[simp ↓] theorem x_appK8 {s0 s1 s2 s3 s4 s5 s6 s7 : Sl} {rr : List Sl} {ds : List D} {d : D} : appK 8 D0 d (s0 :: s1 :: s2 :: s3 :: s4 :: s5 :: s6 :: s7 :: Sl.ow ds :: rr) = (ds.length ≤ 100000 ∧ D0.nx (s0 :: s1 :: s2 :: s3 :: s4 :: s5 :: s6 :: s7 :: Sl.ow (ds ++ [d]) :: rr)) := id rfl
@[simp ↓] theorem x_pop8 {s0 s1 s2 s3 s4 s5 s6 s7 : Sl} {rr : List Sl} {ds : List D} : wPop 8 D0 (s0 :: s1 :: s2 :: s3 :: s4 :: s5 :: s6 :: s7 :: Sl.ow ds :: rr) = (ds ≠ [] ∧ D0.nx (s0 :: s1 :: s2 :: s3 :: s4 :: s5 :: s6 :: s7 :: Sl.ow ds.dropLast :: rr)) := id rfl
@[simp ↓] theorem x_v9 {s0 s1 s2 s3 s4 s5 s6 s7 s8 : Sl} {rr : List Sl} {d : D} : wV 9 (s0 :: s1 :: s2 :: s3 :: s4 :: s5 :: s6 :: s7 :: s8 :: Sl.im d :: rr) Q = Q (.im d) (s0 :: s1 :: s2 :: s3 :: s4 :: s5 :: s6 :: s7 :: s8 :: Sl.im d :: rr) := id rfl
@[simp ↓] theorem x_v9o {s0 s1 s2 s3 s4 s5 s6 s7 s8 : Sl} {rr : List Sl} {ds : List D} : wV 9 (s0 :: s1 :: s2 :: s3 :: s4 :: s5 :: s6 :: s7 :: s8 :: Sl.ow ds :: rr) Q = Q (.im (.list ds)) (s0 :: s1 :: s2 :: s3 :: s4 :: s5 :: s6 :: s7 :: s8 :: Sl.im (.list ds) :: rr) := id rfl
@[simp ↓] theorem x_v9s {s0 s1 s2 s3 s4 s5 s6 s7 s8 : Sl} {rr : List Sl} : wV 9 (s0 :: s1 :: s2 :: s3 :: s4 :: s5 :: s6 :: s7 :: s8 :: Sl.src :: rr) Q = Q .src (s0 :: s1 :: s2 :: s3 :: s4 :: s5 :: s6 :: s7 :: s8 :: Sl.src :: rr) := id rfl
@[simp ↓] theorem x_p9 {s0 s1 s2 s3 s4 s5 s6 s7 s8 : Sl} {rr : List Sl} {d : D} : wP 9 (s0 :: s1 :: s2 :: s3 :: s4 :: s5 :: s6 :: s7 :: s8 :: Sl.im d :: rr) Q = Q (.im d) (s0 :: s1 :: s2 :: s3 :: s4 :: s5 :: s6 :: s7 :: s8 :: Sl.im d :: rr) := id rfl
@[simp ↓] theorem x_p9o {s0 s1 s2 s3 s4 s5 s6 s7 s8 : Sl} {rr : List Sl} {ds : List D} : wP 9 (s0 :: s1 :: s2 :: s3 :: s4 :: s5 :: s6 :: s7 :: s8 :: Sl.ow ds :: rr) Q = Q (.pk ds) (s0 :: s1 :: s2 :: s3 :: s4 :: s5 :: s6 :: s7 :: s8 :: Sl.ow ds :: rr) := id rfl
@[simp ↓] theorem x_p9s {s0 s1 s2 s3 s4 s5 s6 s7 s8 : Sl} {rr : List Sl} : wP 9 (s0 :: s1 :: s2 :: s3 :: s4 :: s5 :: s6 :: s7 :: s8 :: Sl.src :: rr) Q = Q .src (s0 :: s1 :: s2 :: s3 :: s4 :: s5 :: s6 :: s7 :: s8 :: Sl.src :: rr) := id rfl
@[simp ↓] theorem x_owA9 {s0 s1 s2 s3 s4 s5 s6 s7 s8 : Sl} {rr : List Sl} {ds : List D} : owAt 9 (s0 :: s1 :: s2 :: s3 :: s4 :: s5 :: s6 :: s7 :: s8 :: Sl.ow ds :: rr) = True := eq_true ⟨ds, rfl⟩
@[simp ↓] theorem x_setK9 {s0 s1 s2 s3 s4 s5 s6 s7 s8 : Sl} {rr : List Sl} {ds : List D} {d : D} {k : Int} : setK 9 D0 d k (s0 :: s1 :: s2 :: s3 :: s4 :: s5 :: s6 :: s7 :: s8 :: Sl.ow ds :: rr) = got (ixN ds.length k) fun j => D0.nx (s0 :: s1 :: s2 :: s3 :: s4 :: s5 :: s6 :: s7 :: s8 :: Sl.ow (ds.set j d) :: rr) := id rfl
@[simp ↓] theorem x_appK9 {s0 s1 s2 s3 s4 s5 s6 s7 s8 : Sl} {rr : List Sl} {ds : List D} {d : D} : appK 9 D0 d (s0 :: s1 :: s2 :: s3 :: s4 :: s5 :: s6 :: s7 :: s8 :: Sl.ow ds :: rr) = (ds.length ≤ 100000 ∧ D0.nx (s0 :: s1 :: s2 :: s3 :: s4 :: s5 :: s6 :: s7 :: s8 :: Sl.ow (ds ++ [d]) :: rr)) := id rfl
@[simp ↓] theorem x_pop9 {s0 s1 s2 s3 s4 s5 s6 s7 s8 : Sl} {rr : List Sl} {ds : List D} : wPop 9 D0 (s0 :: s1 :: s2 :: s3 :: s4 :: s5 :: s6 :: s7 :: s8 :: Sl.ow ds :: rr) = (ds ≠ [] ∧ D0.nx (s0 :: s1 :: s2 :: s3 :: s4 :: s5 :: s6 :: s7 :: s8 :: Sl.ow ds.dropLast :: rr)) := id rfl
@[simp ↓] theorem x_v10 {s0 s1 s2 s3 s4 s5 s6 s7 s8 s9 : Sl} {rr : List Sl} {d : D} : wV 10 (s0 :: s1 :: s2 :: s3 :: s4 :: s5 :: s6 :: s7 :: s8 :: s9 :: Sl.im d :: rr) Q = Q (.im d) (s0 :: s1 :: s2 :: s3 :: s4 :: s5 :: s6 :: s7 :: s8 :: s9 :: Sl.im d :: rr) := id rfl
@[simp ↓] theorem x_v10o {s0 s1 s2 s3 s4 s5 s6 s7 s8 s9 : Sl} {rr : List Sl} {ds : List D} : wV 10 (s0 :: s1 :: s2 :: s3 :: s4 :: s5 :: s6 :: s7 :: s8 :: s9 :: Sl.ow ds :: rr) Q = Q (.im (.list ds)) (s0 :: s1 :: s2 :: s3 :: s4 :: s5 :: s6 :: s7 :: s8 :: s9 :: Sl.im (.list ds) :: rr) := id rfl
@[simp ↓] theorem x_v10s {s0 s1 s2 s3 s4 s5 s6 s7 s8 s9 : Sl} {rr : List Sl} : wV 10 (s0 :: s1 :: s2 :: s3 :: s4 :: s5 :: s6 :: s7 :: s8 :: s9 :: Sl.src :: rr) Q = Q .src (s0 :: s1 :: s2 :: s3 :: s4 :: s5 :: s6 :: s7 :: s8 :: s9 :: Sl.src :: rr) := id rfl
@[simp ↓] theorem x_p10 {s0 s1 s2 s3 s4 s5 s6 s7 s8 s9 : Sl} {rr : List Sl} {d : D} : wP 10 (s0 :: s1 :: s2 :: s3 :: s4 :: s5 :: s6 :: s7 :: s8 :: s9 :: Sl.im d :: rr) Q = Q (.im d) (s0 :: s1 :: s2 :: s3 :: s4 :: s5 :: s6 :: s7 :: s8 :: s9 :: Sl.im d :: rr) := id rfl
@[simp ↓] theorem x_p10o {s0 s1 s2 s3 s4 s5 s6 s7 s8 s9 : Sl} {rr : List Sl} {ds : List D} : wP 10 (s0 :: s1 :: s2 :: s3 :: s4 :: s5 :: s6 :: s7 :: s8 :: s9 :: Sl.ow ds :: rr) Q = Q (.pk ds) (s0 :: s1 :: s2 :: s3 :: s4 :: s5 :: s6 :: s7 :: s8 :: s9 :: Sl.ow ds :: rr) := id rfl
@[simp ↓] theorem x_p10s {s0 s1 s2 s3 s4 s5 s6 s7 s8 s9 : Sl} {rr : List Sl} : wP 10 (s0 :: s1 :: s2 :: s3 :: s4 :: s5 :: s6 :: s7 :: s8 :: s9 :: Sl.src :: rr) Q = Q .src (s0 :: s1 :: s2 :: s3 :: s4 :: s5 :: s6 :: s7 :: s8 :: s9 :: Sl.src :: rr) := id rfl
@[simp ↓] theorem x_owA10 {s0 s1 s2 s3 s4 s5 s6 s7 s8 s9 : Sl} {rr : List Sl} {ds : List D} : owAt 10 (s0 :: s1 :: s2 :: s3 :: s4 :: s5 :: s6 :: s7 :: s8 :: s9 :: Sl.ow ds :: rr) = True := eq_true ⟨ds, rfl⟩
@[simp ↓] theorem x_setK10 {s0 s1 s2 s3 s4 s5 s6 s7 s8 s9 : Sl} {rr : List Sl} {ds : List D} {d : D} {k : Int} : setK 10 D0 d k (s0 :: s1 :: s2 :: s3 :: s4 :: s5 :: s6 :: s7 :: s8 :: s9 :: Sl.ow ds :: rr) = got (ixN ds.length k) fun j => D0.nx (s0 :: s1 :: s2 :: s3 :: s4 :: s5 :: s6 :: s7 :: s8 :: s9 :: Sl.ow (ds.set j d) :: rr) := id rfl
@[simp ↓] theorem x_appK10 {s0 s1 s2 s3 s4 s5 s6 s7 s8 s9 : Sl} {rr : List Sl} {ds : List D} {d : D} : appK 10 D0 d (s0 :: s1 :: s2 :: s3 :: s4 :: s5 :: s6 :: s7 :: s8 :: s9 :: Sl.ow ds :: rr) = (ds.length ≤ 100000 ∧ D0.nx (s0 :: s1 :: s2 :: s3 :: s4 :: s5 :: s6 :: s7 :: s8 :: s9 :: Sl.ow (ds ++ [d]) :: rr)) := id rfl
@[simp ↓] theorem x_pop10 {s0 s1 s2 s3 s4 s5 s6 s7 s8 s9 : Sl} {rr : List Sl} {ds : List D} : wPop 10 D0 (s0 :: s1 :: s2 :: s3 :: s4 :: s5 :: s6 :: s7 :: s8 :: s9 :: Sl.ow ds :: rr) = (ds ≠ [] ∧ D0.nx (s0 :: s1 :: s2 :: s3 :: s4 :: s5 :: s6 :: s7 :: s8 :: s9 :: Sl.ow ds.dropLast :: rr)) := id rfl
@[simp ↓] theorem x_v11 {s0 s1 s2 s3 s4 s5 s6 s7 s8 s9 s10 : Sl} {rr : List Sl} {d : D} : wV 11 (s0 :: s1 :: s2 :: s3 :: s4 :: s5 :: s6 :: s7 :: s8 :: s9 :: s10 :: Sl.im d :: rr) Q = Q (.im d) (s0 :: s1 :: s2 :: s3 :: s4 :: s5 :: s6 :: s7 :: s8 :: s9 :: s10 :: Sl.im d :: rr) := id rfl
@[simp ↓] theorem x_v11o {s0 s1 s2 s3 s4 s5 s6 s7 s8 s9 s10 : Sl} {rr : List Sl} {ds : List D} : wV 11 (s0 :: s1 :: s2 :: s3 :: s4 :: s5 :: s6 :: s7 :: s8 :: s9 :: s10 :: Sl.ow ds :: rr) Q = Q (.im (.list ds)) (s0 :: s1 :: s2 :: s3 :: s4 :: s5 :: s6 :: s7 :: s8 :: s9 :: s10 :: Sl.im (.list ds) :: rr) := id rfl
@[simp ↓] theorem x_v11s {s0 s1 s2 s3 s4 s5 s6 s7 s8 s9 s10 : Sl} {rr : List Sl} : wV 11 (s0 :: s1 :: s2 :: s3 :: s4 :: s5 :: s6 :: s7 :: s8 :: s9 :: s10 :: Sl.src :: rr) Q = Q .src (s0 :: s1 :: s2 :: s3 :: s4 :: s5 :: s6 :: s7 :: s8 :: s9 :: s10 :: Sl.src :: rr) := id rfl
@[simp ↓] theorem x_p11 {s0 s1 s2 s3 s4 s5 s6 s7 s8 s9 s10 : Sl} {rr : List Sl} {d : D} : wP 11 (s0 :: s1 :: s2 :: s3 :: s4 :: s5 :: s6 :: s7 :: s8 :: s9 :: s10 :: Sl.im d :: rr) Q = Q (.im d) (s0 :: s1 :: s2 :: s3 :: s4 :: s5 :: s6 :: s7 :: s8 :: s9 :: s10 :: Sl.im d :: rr) := id rfl
@[simp ↓] theorem x_p11o {s0 s1 s2 s3 s4 s5 s6 s7 s8 s9 s10 : Sl} {rr : List Sl} {ds : List D} : wP 11 (s0 :: s1 :: s2 :: s3 :: s4 :: s5 :: s6 :: s7 :: s8 :: s9 :: s10 :: Sl.ow ds :: rr) Q = Q (.pk ds) (s0 :: s1 :: s2 :: s3 :: s4 :: s5 :: s6 :: s7 :: s8 :: s9 :: s10 :: Sl.ow ds :: rr) := id rfl
@[simp ↓] theorem x_p11s {s0 s1 s2 s3 s4 s5 s6 s7 s8 s9 s10 : Sl} {rr : List Sl} : wP 11 (s0 :: s1 :: s2 :: s3 :: s4 :: s5 :: s6 :: s7 :: s8 :: s9 :: s10 :: Sl.src :: rr) Q = Q .src (s0 :: s1 :: s2 :: s3 :: s4 :: s5 :: s6 :: s7 :: s8 :: s9 :: s10 :: Sl.src :: rr) := id rfl
@[simp ↓] theorem x_owA11 {s0 s1 s2 s3 s4 s5 s6 s7 s8 s9 s10 : Sl} {rr : List Sl} {ds : List D} : owAt 11 (s0 :: s1 :: s2 :: s3 :: s4 :: s5 :: s6 :: s7 :: s8 :: s9 :: s10 :: Sl.ow ds :: rr) = True := eq_true ⟨ds, rfl⟩
@[simp ↓] theorem x_setK11 {s0 s1 s2 s3 s4 s5 s6 s7 s8 s9 s10 : Sl} {rr : List Sl} {ds : List D} {d : D} {k : Int} : setK 11 D0 d k (s0 :: s1 :: s2 :: s3 :: s4 :: s5 :: s6 :: s7 :: s8 :: s9 :: s10 :: Sl.ow ds :: rr) = got (ixN ds.length k) fun j => D0.nx (s0 :: s1 :: s2 :: s3 :: s4 :: s5 :: s6 :: s7 :: s8 :: s9 :: s10 :: Sl.ow (ds.set j d) :: rr) := id rfl
@[simp ↓] theorem x_appK11 {s0 s1 s2 s3 s4 s5 s6 s7 s8 s9 s10 : Sl} {rr : List Sl} {ds : List D} {d : D} : appK 11 D0 d (s0 :: s1 :: s2 :: s3 :: s4 :: s5 :: s6 :: s7 :: s8 :: s9 :: s10 :: Sl.ow ds :: rr) = (ds.length ≤ 100000 ∧ D0.nx (s0 :: s1 :: s2 :: s3 :: s4 :: s5 :: s6 :: s7 :: s8 :: s9 :: s10 :: Sl.ow (ds ++ [d]) :: rr)) := id rfl
@[simp ↓] theorem x_pop11 {s0 s1 s2 s3 s4 s5 s6 s7 s8 s9 s10 : Sl} {rr : List Sl} {ds : List D} : wPop 11 D0 (s0 :: s1 :: s2 :: s3 :: s4 :: s5 :: s6 :: s7 :: s8 :: s9 :: s10 :: Sl.ow ds :: rr) = (ds ≠ [] ∧ D0.nx (s0 :: s1 :: s2 :: s3 :: s4 :: s5 :: s6 :: s7 :: s8 :: s9 :: s10 :: Sl.ow ds.dropLast :: rr)) := id rfl
@[simp ↓] theorem x_v12 {s0 s1 s2 s3 s4 s5 s6 s7 s8 s9 s10 s11 : Sl} {rr : List Sl} {d : D} : wV 12 (s0 :: s1 :: s2 :: s3 :: s4 :: s5 :: s6 :: s7 :: s8 :: s9 :: s10 :: s11 :: Sl.im d :: rr) Q = Q (.im d) (s0 :: s1 :: s2 :: s3 :: s4 :: s5 :: s6 :: s7 :: s8 :: s9 :: s10 :: s11 :: Sl.im d :: rr) := id rfl
@[simp ↓] theorem x_v12o {s0 s1 s2 s3 s4 s5 s6 s7 s8 s9 s10 s11 : Sl} {rr : List Sl} {ds : List D} : wV 12 (s0 :: s1 :: s2 :: s3 :: s4 :: s5 :: s6 :: s7 :: s8 :: s9 :: s10 :: s11 :: Sl.ow ds :: rr) Q = Q (.im (.list ds)) (s0 :: s1 :: s2 :: s3 :: s4 :: s5 :: s6 :: s7 :: s8 :: s9 :: s10 :: s11 :: Sl.im (.list ds) :: rr) := id rfl
@[simp ↓] theorem x_v12s {s0 s1 s2 s3 s4 s5 s6 s7 s8 s9 s10 s11 : Sl} {rr : List Sl} : wV 12 (s0 :: s1 :: s2 :: s3 :: s4 :: s5 :: s6 :: s7 :: s8 :: s9 :: s10 :: s11 :: Sl.src :: rr) Q = Q .src (s0 :: s1 :: s2 :: s3 :: s4 :: s5 :: s6 :: s7 :: s8 :: s9 :: s10 :: s11 :: Sl.src :: rr) := id rfl
@[simp ↓] theorem x_p12 {s0 s1 s2 s3 s4 s5 s6 s7 s8 s9 s10 s11 : Sl} {rr : List Sl} {d : D} : wP 12 (s0 :: s1 :: s2 :: s3 :: s4 :: s5 :: s6 :: s7 :: s8 :: s9 :: s10 :: s11 :: Sl.im d :: rr) Q = Q (.im d) (s0 :: s1 :: s2 :: s3 :: s4 :: s5 :: s6 :: s7 :: s8 :: s9 :: s10 :: s11 :: Sl.im d :: rr) := id rfl
@[simp ↓] theorem x_p12o {s0 s1 s2 s3 s4 s5 s6 s7 s8 s9 s10 s11 : Sl} {rr : List Sl} {ds : List D} : wP 12 (s0 :: s1 :: s2 :: s3 :: s4 :: s5 :: s6 :: s7 :: s8 :: s9 :: s10 :: s11 :: Sl.ow ds :: rr) Q = Q (.pk ds) (s0 :: s1 :: s2 :: s3 :: s4 :: s5 :: s6 :: s7 :: s8 :: s9 :: s10 :: s11 :: Sl.ow ds :: rr) := id rfl
@[simp ↓] theorem x_p12s {s0 s1 s2 s3 s4 s5 s6 s7 s8 s9 s10 s11 : Sl} {rr : List Sl} : wP 12 (s0 :: s1 :: s2 :: s3 :: s4 :: s5 :: s6 :: s7 :: s8 :: s9 :: s10 :: s11 :: Sl.src :: rr) Q = Q .src (s0 :: s1 :: s2 :: s3 :: s4 :: s5 :: s6 :: s7 :: s8 :: s9 :: s10 :: s11 :: Sl.src :: rr) := id rfl
@[simp ↓] theorem x_owA12 {s0 s1 s2 s3 s4 s5 s6 s7 s8 s9 s10 s11 : Sl} {rr : List Sl} {ds : List D} : owAt 12 (s0 :: s1 :: s2 :: s3 :: s4 :: s5 :: s6 :: s7 :: s8 :: s9 :: s10 :: s11 :: Sl.ow ds :: rr) = True := eq_true ⟨ds, rfl⟩
@[simp ↓] theorem x_setK12 {s0 s1 s2 s3 s4 s5 s6 s7 s8 s9 s10 s11 : Sl} {rr : List Sl} {ds : List D} {d : D} {k : Int} : setK 12 D0 d k (s0 :: s1 :: s2 :: s3 :: s4 :: s5 :: s6 :: s7 :: s8 :: s9 :: s10 :: s11 :: Sl.ow ds :: rr) = got (ixN ds.length k) fun j => D0.nx (s0 :: s1 :: s2 :: s3 :: s4 :: s5 :: s6 :: s7 :: s8 :: s9 :: s10 :: s11 :: Sl.ow (ds.set j d) :: rr) := id rfl
@[simp ↓] theorem x_appK12 {s0 s1 s2 s3 s4 s5 s6 s7 s8 s9 s10 s11 : Sl} {rr : List Sl} {ds : List D} {d : D} : appK 12 D0 d (s0 :: s1 :: s2 :: s3 :: s4 :: s5 :: s6 :: s7 :: s8 :: s9 :: s10 :: s11 :: Sl.ow ds :: rr) = (ds.length ≤ 100000 ∧ D0.nx (s0 :: s1 :: s2 :: s3 :: s4 :: s5 :: s6 :: s7 :: s8 :: s9 :: s10 :: s11 :: Sl.ow (ds ++ [d]) :: rr)) := id rfl
@[simp ↓] theorem x_pop12 {s0 s1 s2 s3 s4 s5 s6 s7 s8 s9 s10 s11 : Sl} {rr : List Sl} {ds : List D} : wPop 12 D0 (s0 :: s1 :: s2 :: s3 :: s4 :: s5 :: s6 :: s7 :: s8 :: s9 :: s10 :: s11 :: Sl.ow ds :: rr) = (ds ≠ [] ∧ D0.nx (s0 :: s1 :: s2 :: s3 :: s4 :: s5 :: s6 :: s7 :: s8 :: s9 :: s10 :: s11 :: Sl.ow ds.dropLast :: rr)) := id rfl
@[simp ↓] theorem x_v13 {s0 s1 s2 s3 s4 s5 s6 s7 s8 s9 s10 s11 s12 : Sl} {rr : List Sl} {d : D} : wV 13 (s0 :: s1 :: s2 :: s3 :: s4 :: s5 :: s6 :: s7 :: s8 :: s9 :: s10 :: s11 :: s12 :: Sl.im d :: rr) Q = Q (.im d) (s0 :: s1 :: s2 :: s3 :: s4 :: s5 :: s6 :: s7 :: s8 :: s9 :: s10 :: s11 :: s12 :: Sl.im d :: rr) := id rfl
@[simp ↓] theorem x_v13o {s0 s1 s2 s3 s4 s5 s6 s7 s8 s9 s10 s11 s12 : Sl} {rr : List Sl} {ds : List D} : wV 13 (s0 :: s1 :: s2 :: s3 :: s4 :: s5 :: s6 :: s7 :: s8 :: s9 :: s10 :: s11 :: s12 :: Sl.ow ds :: rr) Q = Q (.im (.list ds)) (s0 :: s1 :: s2 :: s3 :: s4 :: s5 :: s6 :: s7 :: s8 :: s9 :: s10 :: s11 :: s12 :: Sl.im (.list ds) :: rr) := id rfl
@[simp ↓] theorem x_v13s {s0 s1 s2 s3 s4 s5 s6 s7 s8 s9 s10 s11 s12 : Sl} {rr : List Sl} : wV 13 (s0 :: s1 :: s2 :: s3 :: s4 :: s5 :: s6 :: s7 :: s8 :: s9 :: s10 :: s11 :: s12 :: Sl.src :: rr) Q = Q .src (s0 :: s1 :: s2 :: s3 :: s4 :: s5 :: s6 :: s7 :: s8 :: s9 :: s10 :: s11 :: s12 :: Sl.src :: rr) := id rfl
@[simp ↓] theorem x_p13 {s0 s1 s2 s3 s4 s5 s6 s7 s8 s9 s10 s11 s12 : Sl} {rr : List Sl} {d : D} : wP 13 (s0 :: s1 :: s2 :: s3 :: s4 :: s5 :: s6 :: s7 :: s8 :: s9 :: s10 :: s11 :: s12 :: Sl.im d :: rr) Q = Q (.im d) (s0 :: s1 :: s2 :: s3 :: s4 :: s5 :: s6 :: s7 :: s8 :: s9 :: s10 :: s11 :: s12 :: Sl.im d :: rr) := id rfl
@[simp ↓] theorem x_p13o {s0 s1 s2 s3 s4 s5 s6 s7 s8 s9 s10 s11 s12 : Sl} {rr : List Sl} {ds : List D} : wP 13 (s0 :: s1 :: s2 :: s3 :: s4 :: s5 :: s6 :: s7 :: s8 :: s9 :: s10 :: s11 :: s12 :: Sl.ow ds :: rr) Q = Q (.pk ds) (s0 :: s1 :: s2 :: s3 :: s4 :: s5 :: s6 :: s7 :: s8 :: s9 :: s10 :: s11 :: s12 :: Sl.ow ds :: rr) := id rfl
@[simp ↓] theorem x_p13s {s0 s1 s2 s3 s4 s5 s6 s7 s8 s9 s10 s11 s12 : Sl} {rr : List Sl} : wP 13 (s0 :: s1 :: s2 :: s3 :: s4 :: s5 :: s6 :: s7 :: s8 :: s9 :: s10 :: s11 :: s12 :: Sl.src :: rr) Q = Q .src (s0 :: s1 :: s2 :: s3 :: s4 :: s5 :: s6 :: s7 :: s8 :: s9 :: s10 :: s11 :: s12 :: Sl.src :: rr) := id rfl
@[simp ↓] theorem x_owA13 {s0 s1 s2 s3 s4 s5 s6 s7 s8 s9 s10 s11 s12 : Sl} {rr : List Sl} {ds : List D} : owAt 13 (s0 :: s1 :: s2 :: s3 :: s4 :: s5 :: s6 :: s7 :: s8 :: s9 :: s10 :: s11 :: s12 :: Sl.ow ds :: rr) = True := eq_true ⟨ds, rfl⟩
@[simp ↓] theorem x_setK13 {s0 s1 s2 s3 s4 s5 s6 s7 s8 s9 s10 s11 s12 : Sl} {rr : List Sl} {ds : List D} {d : D} {k : Int} : setK 13 D0 d k (s0 :: s1 :: s2 :: s3 :: s4 :: s5 :: s6 :: s7 :: s8 :: s9 :: s10 :: s11 :: s12 :: Sl.ow ds :: rr) = got (ixN ds.length k) fun j => D0.nx (s0 :: s1 :: s2 :: s3 :: s4 :: s5 :: s6 :: s7 :: s8 :: s9 :: s10 :: s11 :: s12 :: Sl.ow (ds.set j d) :: rr) := id rfl
@[simp ↓] theorem x_appK13 {s0 s1 s2 s3 s4 s5 s6 s7 s8 s9 s10 s11 s12 : Sl} {rr : List Sl} {ds : List D} {d : D} : appK 13 D0 d (s0 :: s1 :: s2 :: s3 :: s4 :: s5 :: s6 :: s7 :: s8 :: s9 :: s10 :: s11 :: s12 :: Sl.ow ds :: rr) = (ds.length ≤ 100000 ∧ D0.nx (s0 :: s1 :: s2 :: s3 :: s4 :: s5 :: s6 :: s7 :: s8 :: s9 :: s10 :: s11 :: s12 :: Sl.ow (ds ++ [d]) :: rr)) := id rfl
@[simp ↓] theorem x_pop13 {s0 s1 s2 s3 s4 s5 s6 s7 s8 s9 s10 s11 s12 : Sl} {rr : List Sl} {ds : List D} : wPop 13 D0 (s0 :: s1 :: s2 :: s3 :: s4 :: s5 :: s6 :: s7 :: s8 :: s9 :: s10 :: s11 :: s12 :: Sl.ow ds :: rr) = (ds ≠ [] ∧ D0.nx (s0 :: s1 :: s2 :: s3 :: s4 :: s5 :: s6 :: s7 :: s8 :: s9 :: s10 :: s11 :: s12 :: Sl.ow ds.dropLast :: rr)) := id rfl
@[simp ↓] theorem x_v14 {s0 s1 s2 s3 s4 s5 s6 s7 s8 s9 s10 s11 s12 s13 : Sl} {rr : List Sl} {d : D} : wV 14 (s0 :: s1 :: s2 :: s3 :: s4 :: s5 :: s6 :: s7 :: s8 :: s9 :: s10 :: s11 :: s12 :: s13 :: Sl.im d :: rr) Q = Q (.im d) (s0 :: s1 :: s2 :: s3 :: s4 :: s5 :: s6 :: s7 :: s8 :: s9 :: s10 :: s11 :: s12 :: s13 :: Sl.im d :: rr) := id rfl
@[simp ↓] theorem x_v14o {s0 s1 s2 s3 s4 s5 s6 s7 s8 s9 s10 s11 s12 s13 : Sl} {rr : List Sl} {ds : List D} : wV 14 (s0 :: s1 :: s2 :: s3 :: s4 :: s5 :: s6 :: s7 :: s8 :: s9 :: s10 :: s11 :: s12 :: s13 :: Sl.ow ds :: rr) Q = Q (.im (.list ds)) (s0 :: s1 :: s2 :: s3 :: s4 :: s5 :: s6 :: s7 :: s8 :: s9 :: s10 :: s11 :: s12 :: s13 :: Sl.im (.list ds) :: rr) := id rfl
@[simp ↓] theorem x_v14s {s0 s1 s2 s3 s4 s5 s6 s7 s8 s9 s10 s11 s12 s13 : Sl} {rr : List Sl} : wV 14 (s0 :: s1 :: s2 :: s3 :: s4 :: s5 :: s6 :: s7 :: s8 :: s9 :: s10 :: s11 :: s12 :: s13 :: Sl.src :: rr) Q = Q .src (s0 :: s1 :: s2 :: s3 :: s4 :: s5 :: s6 :: s7 :: s8 :: s9 :: s10 :: s11 :: s12 :: s13 :: Sl.src :: rr) := id rfl
@[simp ↓] theorem x_p14 {s0 s1 s2 s3 s4 s5 s6 s7 s8 s9 s10 s11 s12 s13 : Sl} {rr : List Sl} {d : D} : wP 14 (s0 :: s1 :: s2 :: s3 :: s4 :: s5 :: s6 :: s7 :: s8 :: s9 :: s10 :: s11 :: s12 :: s13 :: Sl.im d :: rr) Q = Q (.im d) (s0 :: s1 :: s2 :: s3 :: s4 :: s5 :: s6 :: s7 :: s8 :: s9 :: s10 :: s11 :: s12 :: s13 :: Sl.im d :: rr) := id rfl
@[simp ↓] theorem x_p14o {s0 s1 s2 s3 s4 s5 s6 s7 s8 s9 s10 s11 s12 s13 : Sl} {rr : List Sl} {ds : List D} : wP 14 (s0 :: s1 :: s2 :: s3 :: s4 :: s5 :: s6 :: s7 :: s8 :: s9 :: s10 :: s11 :: s12 :: s13 :: Sl.ow ds :: rr) Q = Q (.pk ds) (s0 :: s1 :: s2 :: s3 :: s4 :: s5 :: s6 :: s7 :: s8 :: s9 :: s10 :: s11 :: s12 :: s13 :: Sl.ow ds :: rr) := id rfl
@[simp ↓] theorem x_p14s {s0 s1 s2 s3 s4 s5 s6 s7 s8 s9 s10 s11 s12 s13 : Sl} {rr : List Sl} : wP 14 (s0 :: s1 :: s2 :: s3 :: s4 :: s5 :: s6 :: s7 :: s8 :: s9 :: s10 :: s11 :: s12 :: s13 :: Sl.src :: rr) Q = Q .src (s0 :: s1 :: s2 :: s3 :: s4 :: s5 :: s6 :: s7 :: s8 :: s9 :: s10 :: s11 :: s12 :: s13 :: Sl.src :: rr) := id rfl
@[simp ↓] theorem x_owA14 {s0 s1 s2 s3 s4 s5 s6 s7 s8 s9 s10 s11 s12 s13 : Sl} {rr : List Sl} {ds : List D} : owAt 14 (s0 :: s1 :: s2 :: s3 :: s4 :: s5 :: s6 :: s7 :: s8 :: s9 :: s10 :: s11 :: s12 :: s13 :: Sl.ow ds :: rr) = True := eq_true ⟨ds, rfl⟩
@[simp ↓] theorem x_setK14 {s0 s1 s2 s3 s4 s5 s6 s7 s8 s9 s10 s11 s12 s13 : Sl} {rr : List Sl} {ds : List D} {d : D} {k : Int} : setK 14 D0 d k (s0 :: s1 :: s2 :: s3 :: s4 :: s5 :: s6 :: s7 :: s8 :: s9 :: s10 :: s11 :: s12 :: s13 :: Sl.ow ds :: rr) = got (ixN ds.length k) fun j => D0.nx (s0 :: s1 :: s2 :: s3 :: s4 :: s5 :: s6 :: s7 :: s8 :: s9 :: s10 :: s11 :: s12 :: s13 :: Sl.ow (ds.set j d) :: rr) := id rfl
@[simp ↓] theorem x_appK14 {s0 s1 s2 s3 s4 s5 s6 s7 s8 s9 s10 s11 s12 s13 : Sl} {rr : List Sl} {ds : List D} {d : D} : appK 14 D0 d (s0 :: s1 :: s2 :: s3 :: s4 :: s5 :: s6 :: s7 :: s8 :: s9 :: s10 :: s11 :: s12 :: s13 :: Sl.ow ds :: rr) = (ds.length ≤ 100000 ∧ D0.nx (s0 :: s1 :: s2 :: s3 :: s4 :: s5 :: s6 :: s7 :: s8 :: s9 :: s10 :: s11 :: s12 :: s13 :: Sl.ow (ds ++ [d]) :: rr)) := id rfl
@[simp ↓] theorem x_pop14 {s0 s1 s2 s3 s4 s5 s6 s7 s8 s9 s10 s11 s12 s13 : Sl} {rr : List Sl} {ds : List D} : wPop 14 D0 (s0 :: s1 :: s2 :: s3 :: s4 :: s5 :: s6 :: s7 :: s8 :: s9 :: s10 :: s11 :: s12 :: s13 :: Sl.ow ds :: rr) = (ds ≠ [] ∧ D0.nx (s0 :: s1 :: s2 :: s3 :: s4 :: s5 :: s6 :: s7 :: s8 :: s9 :: s10 :: s11 :: s12 :: s13 :: Sl.ow ds.dropLast :: rr)) := id rfl
@[simp ↓] theorem x_v15 {s0 s1 s2 s3 s4 s5 s6 s7 s8 s9 s10 s11 s12 s13 s14 : Sl} {rr : List Sl} {d : D} : wV 15 (s0 :: s1 :: s2 :: s3 :: s4 :: s5 :: s6 :: s7 :: s8 :: s9 :: s10 :: s11 :: s12 :: s13 :: s14 :: Sl.im d :: rr) Q = Q (.im d) (s0 :: s1 :: s2 :: s3 :: s4 :: s5 :: s6 :: s7 :: s8 :: s9 :: s10 :: s11 :: s12 :: s13 :: s14 :: Sl.im d :: rr) := id rfl
@[simp ↓] theorem x_v15o {s0 s1 s2 s3 s4 s5 s6 s7 s8 s9 s10 s11 s12 s13 s14 : Sl} {rr : List Sl} {ds : List D} : wV 15 (s0 :: s1 :: s2 :: s3 :: s4 :: s5 :: s6 :: s7 :: s8 :: s9 :: s10 :: s11 :: s12 :: s13 :: s14 :: Sl.ow ds :: rr) Q = Q (.im (.list ds)) (s0 :: s1 :: s2 :: s3 :: s4 :: s5 :: s6 :: s7 :: s8 :: s9 :: s10 :: s11 :: s12 :: s13 :: s14 :: Sl.im (.list ds) :: rr) := id rfl
@[simp ↓] theorem x_v15s {s0 s1 s2 s3 s4 s5 s6 s7 s8 s9 s10 s11 s12 s13 s14 : Sl} {rr : List Sl} : wV 15 (s0 :: s1 :: s2 :: s3 :: s4 :: s5 :: s6 :: s7 :: s8 :: s9 :: s10 :: s11 :: s12 :: s13 :: s14 :: Sl.src :: rr) Q = Q .src (s0 :: s1 :: s2 :: s3 :: s4 :: s5 :: s6 :: s7 :: s8 :: s9 :: s10 :: s11 :: s12 :: s13 :: s14 :: Sl.src :: rr) := id rfl
@[simp ↓] theorem x_p15 {s0 s1 s2 s3 s4 s5 s6 s7 s8 s9 s10 s11 s12 s13 s14 : Sl} {rr : List Sl} {d : D} : wP 15 (s0 :: s1 :: s2 :: s3 :: s4 :: s5 :: s6 :: s7 :: s8 :: s9 :: s10 :: s11 :: s12 :: s13 :: s14 :: Sl.im d :: rr) Q = Q (.im d) (s0 :: s1 :: s2 :: s3 :: s4 :: s5 :: s6 :: s7 :: s8 :: s9 :: s10 :: s11 :: s12 :: s13 :: s14 :: Sl.im d :: rr) := id rfl
@[simp ↓] theorem x_p15o {s0 s1 s2 s3 s4 s5 s6 s7 s8 s9 s10 s11 s12 s13 s14 : Sl} {rr : List Sl} {ds : List D} : wP 15 (s0 :: s1 :: s2 :: s3 :: s4 :: s5 :: s6 :: s7 :: s8 :: s9 :: s10 :: s11 :: s12 :: s13 :: s14 :: Sl.ow ds :: rr) Q = Q (.pk ds) (s0 :: s1 :: s2 :: s3 :: s4 :: s5 :: s6 :: s7 :: s8 :: s9 :: s10 :: s11 :: s12 :: s13 :: s14 :: Sl.ow ds :: rr) := id rfl
@[simp ↓] theorem x_p15s {s0 s1 s2 s3 s4 s5 s6 s7 s8 s9 s10 s11 s12 s13 s14 : Sl} {rr : List Sl} : wP 15 (s0 :: s1 :: s2 :: s3 :: s4 :: s5 :: s6 :: s7 :: s8 :: s9 :: s10 :: s11 :: s12 :: s13 :: s14 :: Sl.src :: rr) Q = Q .src (s0 :: s1 :: s2 :: s3 :: s4 :: s5 :: s6 :: s7 :: s8 :: s9 :: s10 :: s11 :: s12 :: s13 :: s14 :: Sl.src :: rr) := id rfl
@[simp ↓] theorem x_owA15 {s0 s1 s2 s3 s4 s5 s6 s7 s8 s9 s10 s11 s12 s13 s14 : Sl} {rr : List Sl} {ds : List D} : owAt 15 (s0 :: s1 :: s2 :: s3 :: s4 :: s5 :: s6 :: s7 :: s8 :: s9 :: s10 :: s11 :: s12 :: s13 :: s14 :: Sl.ow ds :: rr) = True := eq_true ⟨ds, rfl⟩
@[simp ↓] theorem x_setK15 {s0 s1 s2 s3 s4 s5 s6 s7 s8 s9 s10 s11 s12 s13 s14 : Sl} {rr : List Sl} {ds : List D} {d : D} {k : Int} : setK 15 D0 d k (s0 :: s1 :: s2 :: s3 :: s4 :: s5 :: s6 :: s7 :: s8 :: s9 :: s10 :: s11 :: s12 :: s13 :: s14 :: Sl.ow ds :: rr) = got (ixN ds.length k) fun j => D0.nx (s0 :: s1 :: s2 :: s3 :: s4 :: s5 :: s6 :: s7 :: s8 :: s9 :: s10 :: s11 :: s12 :: s13 :: s14 :: Sl.ow (ds.set j d) :: rr) := id rfl
@[simp ↓] theorem x_appK15 {s0 s1 s2 s3 s4 s5 s6 s7 s8 s9 s10 s11 s12 s13 s14 : Sl} {rr : List Sl} {ds : List D} {d : D} : appK 15 D0 d (s0 :: s1 :: s2 :: s3 :: s4 :: s5 :: s6 :: s7 :: s8 :: s9 :: s10 :: s11 :: s12 :: s13 :: s14 :: Sl.ow ds :: rr) = (ds.length ≤ 100000 ∧ D0.nx (s0 :: s1 :: s2 :: s3 :: s4 :: s5 :: s6 :: s7 :: s8 :: s9 :: s10 :: s11 :: s12 :: s13 :: s14 :: Sl.ow (ds ++ [d]) :: rr)) := id rfl
@[simp ↓] theorem x_pop15 {s0 s1 s2 s3 s4 s5 s6 s7 s8 s9 s10 s11 s12 s13 s14 : Sl} {rr : List Sl} {ds : List D} : wPop 15 D0 (s0 :: s1 :: s2 :: s3 :: s4 :: s5 :: s6 :: s7 :: s8 :: s9 :: s10 :: s11 :: s12 :: s13 :: s14 :: Sl.ow ds :: rr) = (ds ≠ [] ∧ D0.nx (s0 :: s1 :: s2 :: s3 :: s4 :: s5 :: s6 :: s7 :: s8 :: s9 :: s10 :: s11 :: s12 :: s13 :: s14 :: Sl.ow ds.dropLast :: rr)) := id rfl
@[simp ↓] theorem x_v16 {s0 s1 s2 s3 s4 s5 s6 s7 s8 s9 s10 s11 s12 s13 s14 s15 : Sl} {rr : List Sl} {d : D} : wV 16 (s0 :: s1 :: s2 :: s3 :: s4 :: s5 :: s6 :: s7 :: s8 :: s9 :: s10 :: s11 :: s12 :: s13 :: s14 :: s15 :: Sl.im d :: rr) Q = Q (.im d) (s0 :: s1 :: s2 :: s3 :: s4 :: s5 :: s6 :: s7 :: s8 :: s9 :: s10 :: s11 :: s12 :: s13 :: s14 :: s15 :: Sl.im d :: rr) := id rfl
@[simp ↓] theorem x_v16o {s0 s1 s2 s3 s4 s5 s6 s7 s8 s9 s10 s11 s12 s13 s14 s15 : Sl} {rr : List Sl} {ds : List D} : wV 16 (s0 :: s1 :: s2 :: s3 :: s4 :: s5 :: s6 :: s7 :: s8 :: s9 :: s10 :: s11 :: s12 :: s13 :: s14 :: s15 :: Sl.ow ds :: rr) Q = Q (.im (.list ds)) (s0 :: s1 :: s2 :: s3 :: s4 :: s5 :: s6 :: s7 :: s8 :: s9 :: s10 :: s11 :: s12 :: s13 :: s14 :: s15 :: Sl.im (.list ds) :: rr) := id rfl
@[simp ↓] theorem x_v16s {s0 s1 s2 s3 s4 s5 s6 s7 s8 s9 s10 s11 s12 s13 s14 s15 : Sl} {rr : List Sl} : wV 16 (s0 :: s1 :: s2 :: s3 :: s4 :: s5 :: s6 :: s7 :: s8 :: s9 :: s10 :: s11 :: s12 :: s13 :: s14 :: s15 :: Sl.src :: rr) Q = Q .src (s0 :: s1 :: s2 :: s3 :: s4 :: s5 :: s6 :: s7 :: s8 :: s9 :: s10 :: s11 :: s12 :: s13 :: s14 :: s15 :: Sl.src :: rr) := id rfl
@[simp ↓] theorem x_p16 {s0 s1 s2 s3 s4 s5 s6 s7 s8 s9 s10 s11 s12 s13 s14 s15 : Sl} {rr : List Sl} {d : D} : wP 16 (s0 :: s1 :: s2 :: s3 :: s4 :: s5 :: s6 :: s7 :: s8 :: s9 :: s10 :: s11 :: s12 :: s13 :: s14 :: s15 :: Sl.im d :: rr) Q = Q (.im d) (s0 :: s1 :: s2 :: s3 :: s4 :: s5 :: s6 :: s7 :: s8 :: s9 :: s10 :: s11 :: s12 :: s13 :: s14 :: s15 :: Sl.im d :: rr) := id rfl
@[simp ↓] theorem x_p16o {s0 s1 s2 s3 s4 s5 s6 s7 s8 s9 s10 s11 s12 s13 s14 s15 : Sl} {rr : List Sl} {ds : List D} : wP 16 (s0 :: s1 :: s2 :: s3 :: s4 :: s5 :: s6 :: s7 :: s8 :: s9 :: s10 :: s11 :: s12 :: s13 :: s14 :: s15 :: Sl.ow ds :: rr) Q = Q (.pk ds) (s0 :: s1 :: s2 :: s3 :: s4 :: s5 :: s6 :: s7 :: s8 :: s9 :: s10 :: s11 :: s12 :: s13 :: s14 :: s15 :: Sl.ow ds :: rr) := id rfl
@[simp ↓] theorem x_p16s {s0 s1 s2 s3 s4 s5 s6 s7 s8 s9 s10 s11 s12 s13 s14 s15 : Sl} {rr : List Sl} : wP 16 (s0 :: s1 :: s2 :: s3 :: s4 :: s5 :: s6 :: s7 :: s8 :: s9 :: s10 :: s11 :: s12 :: s13 :: s14 :: s15 :: Sl.src :: rr) Q = Q .src (s0 :: s1 :: s2 :: s3 :: s4 :: s5 :: s6 :: s7 :: s8 :: s9 :: s10 :: s11 :: s12 :: s13 :: s14 :: s15 :: Sl.src :: rr) := id rfl
@[simp ↓] theorem x_owA16 {s0 s1 s2 s3 s4 s5 s6 s7 s8 s9 s10 s11 s12 s13 s14 s15 : Sl} {rr : List Sl} {ds : List D} : owAt 16 (s0 :: s1 :: s2 :: s3 :: s4 :: s5 :: s6 :: s7 :: s8 :: s9 :: s10 :: s11 :: s12 :: s13 :: s14 :: s15 :: Sl.ow ds :: rr) = True := eq_true ⟨ds, rfl⟩
@[simp ↓] theorem x_setK16 {s0 s1 s2 s3 s4 s5 s6 s7 s8 s9 s10 s11 s12 s13 s14 s15 : Sl} {rr : List Sl} {ds : List D} {d : D} {k : Int} : setK 16 D0 d k (s0 :: s1 :: s2 :: s3 :: s4 :: s5 :: s6 :: s7 :: s8 :: s9 :: s10 :: s11 :: s12 :: s13 :: s14 :: s15 :: Sl.ow ds :: rr) = got (ixN ds.length k) fun j => D0.nx (s0 :: s1 :: s2 :: s3 :: s4 :: s5 :: s6 :: s7 :: s8 :: s9 :: s10 :: s11 :: s12 :: s13 :: s14 :: s15 :: Sl.ow (ds.set j d) :: rr) := id rfl
@[simp ↓] theorem x_appK16 {s0 s1 s2 s3 s4 s5 s6 s7 s8 s9 s10 s11 s12 s13 s14 s15 : Sl} {rr : List Sl} {ds : List D} {d : D} : appK 16 D0 d (s0 :: s1 :: s2 :: s3 :: s4 :: s5 :: s6 :: s7 :: s8 :: s9 :: s10 :: s11 :: s12 :: s13 :: s14 :: s15 :: Sl.ow ds :: rr) = (ds.length ≤ 100000 ∧ D0.nx (s0 :: s1 :: s2 :: s3 :: s4 :: s5 :: s6 :: s7 :: s8 :: s9 :: s10 :: s11 :: s12 :: s13 :: s14 :: s15 :: Sl.ow (ds ++ [d]) :: rr)) := id rfl
@[simp ↓] theorem x_pop16 {s0 s1 s2 s3 s4 s5 s6 s7 s8 s9 s10 s11 s12 s13 s14 s15 : Sl} {rr : List Sl} {ds : List D} : wPop 16 D0 (s0 :: s1 :: s2 :: s3 :: s4 :: s5 :: s6 :: s7 :: s8 :: s9 :: s10 :: s11 :: s12 :: s13 :: s14 :: s15 :: Sl.ow ds :: rr) = (ds ≠ [] ∧ D0.nx (s0 :: s1 :: s2 :: s3 :: s4 :: s5 :: s6 :: s7 :: s8 :: s9 :: s10 :: s11 :: s12 :: s13 :: s14 :: s15 :: Sl.ow ds.dropLast :: rr)) := id rfl
@[simp ↓] theorem x_v17 {s0 s1 s2 s3 s4 s5 s6 s7 s8 s9 s10 s11 s12 s13 s14 s15 s16 : Sl} {rr : List Sl} {d : D} : wV 17 (s0 :: s1 :: s2 :: s3 :: s4 :: s5 :: s6 :: s7 :: s8 :: s9 :: s10 :: s11 :: s12 :: s13 :: s14 :: s15 :: s16 :: Sl.im d :: rr) Q = Q (.im d) (s0 :: s1 :: s2 :: s3 :: s4 :: s5 :: s6 :: s7 :: s8 :: s9 :: s10 :: s11 :: s12 :: s13 :: s14 :: s15 :: s16 :: Sl.im d :: rr) := id rfl
@[simp ↓] theorem x_v17o {s0 s1 s2 s3 s4 s5 s6 s7 s8 s9 s10 s11 s12 s13 s14 s15 s16 : Sl} {rr : List Sl} {ds : List D} : wV 17 (s0 :: s1 :: s2 :: s3 :: s4 :: s5 :: s6 :: s7 :: s8 :: s9 :: s10 :: s11 :: s12 :: s13 :: s14 :: s15 :: s16 :: Sl.ow ds :: rr) Q = Q (.im (.list ds)) (s0 :: s1 :: s2 :: s3 :: s4 :: s5 :: s6 :: s7 :: s8 :: s9 :: s10 :: s11 :: s12 :: s13 :: s14 :: s15 :: s16 :: Sl.im (.list ds) :: rr) := id rfl
@[simp ↓] theorem x_v17s {s0 s1 s2 s3 s4 s5 s6 s7 s8 s9 s10 s11 s12 s13 s14 s15 s16 : Sl} {rr : List Sl} : wV 17 (s0 :: s1 :: s2 :: s3 :: s4 :: s5 :: s6 :: s7 :: s8 :: s9 :: s10 :: s11 :: s12 :: s13 :: s14 :: s15 :: s16 :: Sl.src :: rr) Q = Q .src (s0 :: s1 :: s2 :: s3 :: s4 :: s5 :: s6 :: s7 :: s8 :: s9 :: s10 :: s11 :: s12 :: s13 :: s14 :: s15 :: s16 :: Sl.src :: rr) := id rfl
@[simp ↓] theorem x_p17 {s0 s1 s2 s3 s4 s5 s6 s7 s8 s9 s10 s11 s12 s13 s14 s15 s16 : Sl} {rr : List Sl} {d : D} : wP 17 (s0 :: s1 :: s2 :: s3 :: s4 :: s5 :: s6 :: s7 :: s8 :: s9 :: s10 :: s11 :: s12 :: s13 :: s14 :: s15 :: s16 :: Sl.im d :: rr) Q = Q (.im d) (s0 :: s1 :: s2 :: s3 :: s4 :: s5 :: s6 :: s7 :: s8 :: s9 :: s10 :: s11 :: s12 :: s13 :: s14 :: s15 :: s16 :: Sl.im d :: rr) := id rfl
@[simp ↓] theorem x_p17o {s0 s1 s2 s3 s4 s5 s6 s7 s8 s9 s10 s11 s12 s13 s14 s15 s16 : Sl} {rr : List Sl} {ds : List D} : wP 17 (s0 :: s1 :: s2 :: s3 :: s4 :: s5 :: s6 :: s7 :: s8 :: s9 :: s10 :: s11 :: s12 :: s13 :: s14 :: s15 :: s16 :: Sl.ow ds :: rr) Q = Q (.pk ds) (s0 :: s1 :: s2 :: s3 :: s4 :: s5 :: s6 :: s7 :: s8 :: s9 :: s10 :: s11 :: s12 :: s13 :: s14 :: s15 :: s16 :: Sl.ow ds :: rr) := id rfl
@[simp ↓] theorem x_p17s {s0 s1 s2 s3 s4 s5 s6 s7 s8 s9 s10 s11 s12 s13 s14 s15 s16 : Sl} {rr : List Sl} : wP 17 (s0 :: s1 :: s2 :: s3 :: s4 :: s5 :: s6 :: s7 :: s8 :: s9 :: s10 :: s11 :: s12 :: s13 :: s14 :: s15 :: s16 :: Sl.src :: rr) Q = Q .src (s0 :: s1 :: s2 :: s3 :: s4 :: s5 :: s6 :: s7 :: s8 :: s9 :: s10 :: s11 :: s12 :: s13 :: s14 :: s15 :: s16 :: Sl.src :: rr) := id rfl
@[simp ↓] theorem x_owA17 {s0 s1 s2 s3 s4 s5 s6 s7 s8 s9 s10 s11 s12 s13 s14 s15 s16 : Sl} {rr : List Sl} {ds : List D} : owAt 17 (s0 :: s1 :: s2 :: s3 :: s4 :: s5 :: s6 :: s7 :: s8 :: s9 :: s10 :: s11 :: s12 :: s13 :: s14 :: s15 :: s16 :: Sl.ow ds :: rr) = True := eq_true ⟨ds, rfl⟩
@[simp ↓] theorem x_setK17 {s0 s1 s2 s3 s4 s5 s6 s7 s8 s9 s10 s11 s12 s13 s14 s15 s16 : Sl} {rr : List Sl} {ds : List D} {d : D} {k : Int} : setK 17 D0 d k (s0 :: s1 :: s2 :: s3 :: s4 :: s5 :: s6 :: s7 :: s8 :: s9 :: s10 :: s11 :: s12 :: s13 :: s14 :: s15 :: s16 :: Sl.ow ds :: rr) = got (ixN ds.length k) fun j => D0.nx (s0 :: s1 :: s2 :: s3 :: s4 :: s5 :: s6 :: s7 :: s8 :: s9 :: s10 :: s11 :: s12 :: s13 :: s14 :: s15 :: s16 :: Sl.ow (ds.set j d) :: rr) := id rfl
@[simp ↓] theorem x_appK17 {s0 s1 s2 s3 s4 s5 s6 s7 s8 s9 s10 s11 s12 s13 s14 s15 s16 : Sl} {rr : List Sl} {ds : List D} {d : D} : appK 17 D0 d (s0 :: s1 :: s2 :: s3 :: s4 :: s5 :: s6 :: s7 :: s8 :: s9 :: s10 :: s11 :: s12 :: s13 :: s14 :: s15 :: s16 :: Sl.ow ds :: rr) = (ds.length ≤ 100000 ∧ D0.nx (s0 :: s1 :: s2 :: s3 :: s4 :: s5 :: s6 :: s7 :: s8 :: s9 :: s10 :: s11 :: s12 :: s13 :: s14 :: s15 :: s16 :: Sl.ow (ds ++ [d]) :: rr)) := id rfl
@[simp ↓] theorem x_pop17 {s0 s1 s2 s3 s4 s5 s6 s7 s8 s9 s10 s11 s12 s13 s14 s15 s16 : Sl} {rr : List Sl} {ds : List D} : wPop 17 D0 (s0 :: s1 :: s2 :: s3 :: s4 :: s5 :: s6 :: s7 :: s8 :: s9 :: s10 :: s11 :: s12 :: s13 :: s14 :: s15 :: s16 :: Sl.ow ds :: rr) = (ds ≠ [] ∧ D0.nx (s0 :: s1 :: s2 :: s3 :: s4 :: s5 :: s6 :: s7 :: s8 :: s9 :: s10 :: s11 :: s12 :: s13 :: s14 :: s15 :: s16 :: Sl.ow ds.dropLast :: rr)) := id rfl
@[simp ↓] theorem x_v18 {s0 s1 s2 s3 s4 s5 s6 s7 s8 s9 s10 s11 s12 s13 s14 s15 s16 s17 : Sl} {rr : List Sl} {d : D} : wV 18 (s0 :: s1 :: s2 :: s3 :: s4 :: s5 :: s6 :: s7 :: s8 :: s9 :: s10 :: s11 :: s12 :: s13 :: s14 :: s15 :: s16 :: s17 :: Sl.im d :: rr) Q = Q (.im d) (s0 :: s1 :: s2 :: s3 :: s4 :: s5 :: s6 :: s7 :: s8 :: s9 :: s10 :: s11 :: s12 :: s13 :: s14 :: s15 :: s16 :: s17 :: Sl.im d :: rr) := id rfl
@[simp ↓] theorem x_v18o {s0 s1 s2 s3 s4 s5 s6 s7 s8 s9 s10 s11 s12 s13 s14 s15 s16 s17 : Sl} {rr : List Sl} {ds : List D} : wV 18 (s0 :: s1 :: s2 :: s3 :: s4 :: s5 :: s6 :: s7 :: s8 :: s9 :: s10 :: s11 :: s12 :: s13 :: s14 :: s15 :: s16 :: s17 :: Sl.ow ds :: rr) Q = Q (.im (.list ds)) (s0 :: s1 :: s2 :: s3 :: s4 :: s5 :: s6 :: s7 :: s8 :: s9 :: s10 :: s11 :: s12 :: s13 :: s14 :: s15 :: s16 :: s17 :: Sl.im (.list ds) :: rr) := id rfl
@[simp ↓] theorem x_v18s {s0 s1 s2 s3 s4 s5 s6 s7 s8 s9 s10 s11 s12 s13 s14 s15 s16 s17 : Sl} {rr : List Sl} : wV 18 (s0 :: s1 :: s2 :: s3 :: s4 :: s5 :: s6 :: s7 :: s8 :: s9 :: s10 :: s11 :: s12 :: s13 :: s14 :: s15 :: s16 :: s17 :: Sl.src :: rr) Q = Q .src (s0 :: s1 :: s2 :: s3 :: s4 :: s5 :: s6 :: s7 :: s8 :: s9 :: s10 :: s11 :: s12 :: s13 :: s14 :: s15 :: s16 :: s17 :: Sl.src :: rr) := id rfl
@[simp ↓] theorem x_p18 {s0 s1 s2 s3 s4 s5 s6 s7 s8 s9 s10 s11 s12 s13 s14 s15 s16 s17 : Sl} {rr : List Sl} {d : D} : wP 18 (s0 :: s1 :: s2 :: s3 :: s4 :: s5 :: s6 :: s7 :: s8 :: s9 :: s10 :: s11 :: s12 :: s13 :: s14 :: s15 :: s16 :: s17 :: Sl.im d :: rr) Q = Q (.im d) (s0 :: s1 :: s2 :: s3 :: s4 :: s5 :: s6 :: s7 :: s8 :: s9 :: s10 :: s11 :: s12 :: s13 :: s14 :: s15 :: s16 :: s17 :: Sl.im d :: rr) := id rfl
@[simp ↓] theorem x_p18o {s0 s1 s2 s3 s4 s5 s6 s7 s8 s9 s10 s11 s12 s13 s14 s15 s16 s17 : Sl} {rr : List Sl} {ds : List D} : wP 18 (s0 :: s1 :: s2 :: s3 :: s4 :: s5 :: s6 :: s7 :: s8 :: s9 :: s10 :: s11 :: s12 :: s13 :: s14 :: s15 :: s16 :: s17 :: Sl.ow ds :: rr) Q = Q (.pk ds) (s0 :: s1 :: s2 :: s3 :: s4 :: s5 :: s6 :: s7 :: s8 :: s9 :: s10 :: s11 :: s12 :: s13 :: s14 :: s15 :: s16 :: s17 :: Sl.ow ds :: rr) := id rfl
@[simp ↓] theorem x_p18s {s0 s1 s2 s3 s4 s5 s6 s7 s8 s9 s10 s11 s12 s13 s14 s15 s16 s17 : Sl} {rr : List Sl} : wP 18 (s0 :: s1 :: s2 :: s3 :: s4 :: s5 :: s6 :: s7 :: s8 :: s9 :: s10 :: s11 :: s12 :: s13 :: s14 :: s15 :: s16 :: s17 :: Sl.src :: rr) Q = Q .src (s0 :: s1 :: s2 :: s3 :: s4 :: s5 :: s6 :: s7 :: s8 :: s9 :: s10 :: s11 :: s12 :: s13 :: s14 :: s15 :: s16 :: s17 :: Sl.src :: rr) := id rfl
@[simp ↓] theorem x_owA18 {s0 s1 s2 s3 s4 s5 s6 s7 s8 s9 s10 s11 s12 s13 s14 s15 s16 s17 : Sl} {rr : List Sl} {ds : List D} : owAt 18 (s0 :: s1 :: s2 :: s3 :: s4 :: s5 :: s6 :: s7 :: s8 :: s9 :: s10 :: s11 :: s12 :: s13 :: s14 :: s15 :: s16 :: s17 :: Sl.ow ds :: rr) = True := eq_true ⟨ds, rfl⟩
@[simp ↓] theorem x_setK18 {s0 s1 s2 s3 s4 s5 s6 s7 s8 s9 s10 s11 s12 s13 s14 s15 s16 s17 : Sl} {rr : List Sl} {ds : List D} {d : D} {k : Int} : setK 18 D0 d k (s0 :: s1 :: s2 :: s3 :: s4 :: s5 :: s6 :: s7 :: s8 :: s9 :: s10 :: s11 :: s12 :: s13 :: s14 :: s15 :: s16 :: s17 :: Sl.ow ds :: rr) = got (ixN ds.length k) fun j => D0.nx (s0 :: s1 :: s2 :: s3 :: s4 :: s5 :: s6 :: s7 :: s8 :: s9 :: s10 :: s11 :: s12 :: s13 :: s14 :: s15 :: s16 :: s17 :: Sl.ow (ds.set j d) :: rr) := id rfl
@[simp ↓] theorem x_appK18 {s0 s1 s2 s3 s4 s5 s6 s7 s8 s9 s10 s11 s12 s13 s14 s15 s16 s17 : Sl} {rr : List Sl} {ds : List D} {d : D} : appK 18 D0 d (s0 :: s1 :: s2 :: s3 :: s4 :: s5 :: s6 :: s7 :: s8 :: s9 :: s10 :: s11 :: s12 :: s13 :: s14 :: s15 :: s16 :: s17 :: Sl.ow ds :: rr) = (ds.length ≤ 100000 ∧ D0.nx (s0 :: s1 :: s2 :: s3 :: s4 :: s5 :: s6 :: s7 :: s8 :: s9 :: s10 :: s11 :: s12 :: s13 :: s14 :: s15 :: s16 :: s17 :: Sl.ow (ds ++ [d]) :: rr)) := id rfl
@[simp ↓] theorem x_pop18 {s0 s1 s2 s3 s4 s5 s6 s7 s8 s9 s10 s11 s12 s13 s14 s15 s16 s17 : Sl} {rr : List Sl} {ds : List D} : wPop 18 D0 (s0 :: s1 :: s2 :: s3 :: s4 :: s5 :: s6 :: s7 :: s8 :: s9 :: s10 :: s11 :: s12 :: s13 :: s14 :: s15 :: s16 :: s17 :: Sl.ow ds :: rr) = (ds ≠ [] ∧ D0.nx (s0 :: s1 :: s2 :: s3 :: s4 :: s5 :: s6 :: s7 :: s8 :: s9 :: s10 :: s11 :: s12 :: s13 :: s14 :: s15 :: s16 :: s17 :: Sl.ow ds.dropLast :: rr)) := id rfl
@[simp ↓] theorem x_v19 {s0 s1 s2 s3 s4 s5 s6 s7 s8 s9 s10 s11 s12 s13 s14 s15 s16 s17 s18 : Sl} {rr : List Sl} {d : D} : wV 19 (s0 :: s1 :: s2 :: s3 :: s4 :: s5 :: s6 :: s7 :: s8 :: s9 :: s10 :: s11 :: s12 :: s13 :: s14 :: s15 :: s16 :: s17 :: s18 :: Sl.im d :: rr) Q = Q (.im d) (s0 :: s1 :: s2 :: s3 :: s4 :: s5 :: s6 :: s7 :: s8 :: s9 :: s10 :: s11 :: s12 :: s13 :: s14 :: s15 :: s16 :: s17 :: s18 :: Sl.im d :: rr) := id rfl
@[simp ↓] theorem x_v19o {s0 s1 s2 s3 s4 s5 s6 s7 s8 s9 s10 s11 s12 s13 s14 s15 s16 s17 s18 : Sl} {rr : List Sl} {ds : List D} : wV 19 (s0 :: s1 :: s2 :: s3 :: s4 :: s5 :: s6 :: s7 :: s8 :: s9 :: s10 :: s11 :: s12 :: s13 :: s14 :: s15 :: s16 :: s17 :: s18 :: Sl.ow ds :: rr) Q = Q (.im (.list ds)) (s0 :: s1 :: s2 :: s3 :: s4 :: s5 :: s6 :: s7 :: s8 :: s9 :: s10 :: s11 :: s12 :: s13 :: s14 :: s15 :: s16 :: s17 :: s18 :: Sl.im (.list ds) :: rr) := id rfl
@[simp ↓] theorem x_v19s {s0 s1 s2 s3 s4 s5 s6 s7 s8 s9 s10 s11 s12 s13 s14 s15 s16 s17 s18 : Sl} {rr : List Sl} : wV 19 (s0 :: s1 :: s2 :: s3 :: s4 :: s5 :: s6 :: s7 :: s8 :: s9 :: s10 :: s11 :: s12 :: s13 :: s14 :: s15 :: s16 :: s17 :: s18 :: Sl.src :: rr) Q = Q .src (s0 :: s1 :: s2 :: s3 :: s4 :: s5 :: s6 :: s7 :: s8 :: s9 :: s10 :: s11 :: s12 :: s13 :: s14 :: s15 :: s16 :: s17 :: s18 :: Sl.src :: rr) := id rfl
@[simp ↓] theorem x_p19 {s0 s1 s2 s3 s4 s5 s6 s7 s8 s9 s10 s11 s12 s13 s14 s15 s16 s17 s18 : Sl} {rr : List Sl} {d : D} : wP 19 (s0 :: s1 :: s2 :: s3 :: s4 :: s5 :: s6 :: s7 :: s8 :: s9 :: s10 :: s11 :: s12 :: s13 :: s14 :: s15 :: s16 :: s17 :: s18 :: Sl.im d :: rr) Q = Q (.im d) (s0 :: s1 :: s2 :: s3 :: s4 :: s5 :: s6 :: s7 :: s8 :: s9 :: s10 :: s11 :: s12 :: s13 :: s14 :: s15 :: s16 :: s17 :: s18 :: Sl.im d :: rr) := id rfl
@[simp ↓] theorem x_p19o {s0 s1 s2 s3 s4 s5 s6 s7 s8 s9 s10 s11 s12 s13 s14 s15 s16 s17 s18 : Sl} {rr : List Sl} {ds : List D} : wP 19 (s0 :: s1 :: s2 :: s3 :: s4 :: s5 :: s6 :: s7 :: s8 :: s9 :: s10 :: s11 :: s12 :: s13 :: s14 :: s15 :: s16 :: s17 :: s18 :: Sl.ow ds :: rr) Q = Q (.pk ds) (s0 :: s1 :: s2 :: s3 :: s4 :: s5 :: s6 :: s7 :: s8 :: s9 :: s10 :: s11 :: s12 :: s13 :: s14 :: s15 :: s16 :: s17 :: s18 :: Sl.ow ds :: rr) := id rfl
@[simp ↓] theorem x_p19s {s0 s1 s2 s3 s4 s5 s6 s7 s8 s9 s10 s11 s12 s13 s14 s15 s16 s17 s18 : Sl} {rr : List Sl} : wP 19 (s0 :: s1 :: s2 :: s3 :: s4 :: s5 :: s6 :: s7 :: s8 :: s9 :: s10 :: s11 :: s12 :: s13 :: s14 :: s15 :: s16 :: s17 :: s18 :: Sl.src :: rr) Q = Q .src (s0 :: s1 :: s2 :: s3 :: s4 :: s5 :: s6 :: s7 :: s8 :: s9 :: s10 :: s11 :: s12 :: s13 :: s14 :: s15 :: s16 :: s17 :: s18 :: Sl.src :: rr) := id rfl
@[simp ↓] theorem x_owA19 {s0 s1 s2 s3 s4 s5 s6 s7 s8 s9 s10 s11 s12 s13 s14 s15 s16 s17 s18 : Sl} {rr : List Sl} {ds : List D} : owAt 19 (s0 :: s1 :: s2 :: s3 :: s4 :: s5 :: s6 :: s7 :: s8 :: s9 :: s10 :: s11 :: s12 :: s13 :: s14 :: s15 :: s16 :: s17 :: s18 :: Sl.ow ds :: rr) = True := eq_true ⟨ds, rfl⟩
@[simp ↓] theorem x_setK19 {s0 s1 s2 s3 s4 s5 s6 s7 s8 s9 s10 s11 s12 s13 s14 s15 s16 s17 s18 : Sl} {rr : List Sl} {ds : List D} {d : D} {k : Int} : setK 19 D0 d k (s0 :: s1 :: s2 :: s3 :: s4 :: s5 :: s6 :: s7 :: s8 :: s9 :: s10 :: s11 :: s12 :: s13 :: s14 :: s15 :: s16 :: s17 :: s18 :: Sl.ow ds :: rr) = got (ixN ds.length k) fun j => D0.nx (s0 :: s1 :: s2 :: s3 :: s4 :: s5 :: s6 :: s7 :: s8 :: s9 :: s10 :: s11 :: s12 :: s13 :: s14 :: s15 :: s16 :: s17 :: s18 :: Sl.ow (ds.set j d) :: rr) := id rfl
@[simp ↓] theorem x_appK19 {s0 s1 s2 s3 s4 s5 s6 s7 s8 s9 s10 s11 s12 s13 s14 s15 s16 s17 s18 : Sl} {rr : List Sl} {ds : List D} {d : D} : appK 19 D0 d (s0 :: s1 :: s2 :: s3 :: s4 :: s5 :: s6 :: s7 :: s8 :: s9 :: s10 :: s11 :: s12 :: s13 :: s14 :: s15 :: s16 :: s17 :: s18 :: Sl.ow ds :: rr) = (ds.length ≤ 100000 ∧ D0.nx (s0 :: s1 :: s2 :: s3 :: s4 :: s5 :: s6 :: s7 :: s8 :: s9 :: s10 :: s11 :: s12 :: s13 :: s14 :: s15 :: s16 :: s17 :: s18 :: Sl.ow (ds ++ [d]) :: rr)) := id rfl
@[simp ↓] theorem x_pop19 {s0 s1 s2 s3 s4 s5 s6 s7 s8 s9 s10 s11 s12 s13 s14 s15 s16 s17 s18 : Sl} {rr : List Sl} {ds : List D} : wPop 19 D0 (s0 :: s1 :: s2 :: s3 :: s4 :: s5 :: s6 :: s7 :: s8 :: s9 :: s10 :: s11 :: s12 :: s13 :: s14 :: s15 :: s16 :: s17 :: s18 :: Sl.ow ds :: rr) = (ds ≠ [] ∧ D0.nx (s0 :: s1 :: s2 :: s3 :: s4 :: s5 :: s6 :: s7 :: s8 :: s9 :: s10 :: s11 :: s12 :: s13 :: s14 :: s15 :: s16 :: s17 :: s18 :: Sl.ow ds.dropLast :: rr)) := id rfl
@[simp ↓] theorem x_v20 {s0 s1 s2 s3 s4 s5 s6 s7 s8 s9 s10 s11 s12 s13 s14 s15 s16 s17 s18 s19 : Sl} {rr : List Sl} {d : D} : wV 20 (s0 :: s1 :: s2 :: s3 :: s4 :: s5 :: s6 :: s7 :: s8 :: s9 :: s10 :: s11 :: s12 :: s13 :: s14 :: s15 :: s16 :: s17 :: s18 :: s19 :: Sl.im d :: rr) Q = Q (.im d) (s0 :: s1 :: s2 :: s3 :: s4 :: s5 :: s6 :: s7 :: s8 :: s9 :: s10 :: s11 :: s12 :: s13 :: s14 :: s15 :: s16 :: s17 :: s18 :: s19 :: Sl.im d :: rr) := id rfl
@[simp ↓] theorem x_v20o {s0 s1 s2 s3 s4 s5 s6 s7 s8 s9 s10 s11 s12 s13 s14 s15 s16 s17 s18 s19 : Sl} {rr : List Sl} {ds : List D} : wV 20 (s0 :: s1 :: s2 :: s3 :: s4 :: s5 :: s6 :: s7 :: s8 :: s9 :: s10 :: s11 :: s12 :: s13 :: s14 :: s15 :: s16 :: s17 :: s18 :: s19 :: Sl.ow ds :: rr) Q = Q (.im (.list ds)) (s0 :: s1 :: s2 :: s3 :: s4 :: s5 :: s6 :: s7 :: s8 :: s9 :: s10 :: s11 :: s12 :: s13 :: s14 :: s15 :: s16 :: s17 :: s18 :: s19 :: Sl.im (.list ds) :: rr) := id rfl
@[simp ↓] theorem x_v20s {s0 s1 s2 s3 s4 s5 s6 s7 s8 s9 s10 s11 s12 s13 s14 s15 s16 s17 s18 s19 : Sl} {rr : List Sl} : wV 20 (s0 :: s1 :: s2 :: s3 :: s4 :: s5 :: s6 :: s7 :: s8 :: s9 :: s10 :: s11 :: s12 :: s13 :: s14 :: s15 :: s16 :: s17 :: s18 :: s19 :: Sl.src :: rr) Q = Q .src (s0 :: s1 :: s2 :: s3 :: s4 :: s5 :: s6 :: s7 :: s8 :: s9 :: s10 :: s11 :: s12 :: s13 :: s14 :: s15 :: s16 :: s17 :: s18 :: s19 :: Sl.src :: rr) := id rfl
@[simp ↓] theorem x_p20 {s0 s1 s2 s3 s4 s5 s6 s7 s8 s9 s10 s11 s12 s13 s14 s15 s16 s17 s18 s19 : Sl} {rr : List Sl} {d : D} : wP 20 (s0 :: s1 :: s2 :: s3 :: s4 :: s5 :: s6 :: s7 :: s8 :: s9 :: s10 :: s11 :: s12 :: s13 :: s14 :: s15 :: s16 :: s17 :: s18 :: s19 :: Sl.im d :: rr) Q = Q (.im d) (s0 :: s1 :: s2 :: s3 :: s4 :: s5 :: s6 :: s7 :: s8 :: s9 :: s10 :: s11 :: s12 :: s13 :: s14 :: s15 :: s16 :: s17 :: s18 :: s19 :: Sl.im d :: rr) := id rfl
@[simp ↓] theorem x_p20o {s0 s1 s2 s3 s4 s5 s6 s7 s8 s9 s10 s11 s12 s13 s14 s15 s16 s17 s18 s19 : Sl} {rr : List Sl} {ds : List D} : wP 20 (s0 :: s1 :: s2 :: s3 :: s4 :: s5 :: s6 :: s7 :: s8 :: s9 :: s10 :: s11 :: s12 :: s13 :: s14 :: s15 :: s16 :: s17 :: s18 :: s19 :: Sl.ow ds :: rr) Q = Q (.pk ds) (s0 :: s1 :: s2 :: s3 :: s4 :: s5 :: s6 :: s7 :: s8 :: s9 :: s10 :: s11 :: s12 :: s13 :: s14 :: s15 :: s16 :: s17 :: s18 :: s19 :: Sl.ow ds :: rr) := id rfl
@[simp ↓] theorem x_p20s {s0 s1 s2 s3 s4 s5 s6 s7 s8 s9 s10 s11 s12 s13 s14 s15 s16 s17 s18 s19 : Sl} {rr : List Sl} : wP 20 (s0 :: s1 :: s2 :: s3 :: s4 :: s5 :: s6 :: s7 :: s8 :: s9 :: s10 :: s11 :: s12 :: s13 :: s14 :: s15 :: s16 :: s17 :: s18 :: s19 :: Sl.src :: rr) Q = Q .src (s0 :: s1 :: s2 :: s3 :: s4 :: s5 :: s6 :: s7 :: s8 :: s9 :: s10 :: s11 :: s12 :: s13 :: s14 :: s15 :: s16 :: s17 :: s18 :: s19 :: Sl.src :: rr) := id rfl
@[simp ↓] theorem x_owA20 {s0 s1 s2 s3 s4 s5 s6 s7 s8 s9 s10 s11 s12 s13 s14 s15 s16 s17 s18 s19 : Sl} {rr : List Sl} {ds : List D} : owAt 20 (s0 :: s1 :: s2 :: s3 :: s4 :: s5 :: s6 :: s7 :: s8 :: s9 :: s10 :: s11 :: s12 :: s13 :: s14 :: s15 :: s16 :: s17 :: s18 :: s19 :: Sl.ow ds :: rr) = True := eq_true ⟨ds, rfl⟩
@[simp ↓] theorem x_setK20 {s0 s1 s2 s3 s4 s5 s6 s7 s8 s9 s10 s11 s12 s13 s14 s15 s16 s17 s18 s19 : Sl} {rr : List Sl} {ds : List D} {d : D} {k : Int} : setK 20 D0 d k (s0 :: s1 :: s2 :: s3 :: s4 :: s5 :: s6 :: s7 :: s8 :: s9 :: s10 :: s11 :: s12 :: s13 :: s14 :: s15 :: s16 :: s17 :: s18 :: s19 :: Sl.ow ds :: rr) = got (ixN ds.length k) fun j => D0.nx (s0 :: s1 :: s2 :: s3 :: s4 :: s5 :: s6 :: s7 :: s8 :: s9 :: s10 :: s11 :: s12 :: s13 :: s14 :: s15 :: s16 :: s17 :: s18 :: s19 :: Sl.ow (ds.set j d) :: rr) := id rfl
@[simp ↓] theorem x_appK20 {s0 s1 s2 s3 s4 s5 s6 s7 s8 s9 s10 s11 s12 s13 s14 s15 s16 s17 s18 s19 : Sl} {rr : List Sl} {ds : List D} {d : D} : appK 20 D0 d (s0 :: s1 :: s2 :: s3 :: s4 :: s5 :: s6 :: s7 :: s8 :: s9 :: s10 :: s11 :: s12 :: s13 :: s14 :: s15 :: s16 :: s17 :: s18 :: s19 :: Sl.ow ds :: rr) = (ds.length ≤ 100000 ∧ D0.nx (s0 :: s1 :: s2 :: s3 :: s4 :: s5 :: s6 :: s7 :: s8 :: s9 :: s10 :: s11 :: s12 :: s13 :: s14 :: s15 :: s16 :: s17 :: s18 :: s19 :: Sl.ow (ds ++ [d]) :: rr)) := id rfl
@[simp ↓] theorem x_pop20 {s0 s1 s2 s3 s4 s5 s6 s7 s8 s9 s10 s11 s12 s13 s14 s15 s16 s17 s18 s19 : Sl} {rr : List Sl} {ds : List D} : wPop 20 D0 (s0 :: s1 :: s2 :: s3 :: s4 :: s5 :: s6 :: s7 :: s8 :: s9 :: s10 :: s11 :: s12 :: s13 :: s14 :: s15 :: s16 :: s17 :: s18 :: s19 :: Sl.ow ds :: rr) = (ds ≠ [] ∧ D0.nx (s0 :: s1 :: s2 :: s3 :: s4 :: s5 :: s6 :: s7 :: s8 :: s9 :: s10 :: s11 :: s12 :: s13 :: s14 :: s15 :: s16 :: s17 :: s18 :: s19 :: Sl.ow ds.dropLast :: rr)) := id rfl
@[simp ↓] theorem x_v21 {s0 s1 s2 s3 s4 s5 s6 s7 s8 s9 s10 s11 s12 s13 s14 s15 s16 s17 s18 s19 s20 : Sl} {rr : List Sl} {d : D} : wV 21 (s0 :: s1 :: s2 :: s3 :: s4 :: s5 :: s6 :: s7 :: s8 :: s9 :: s10 :: s11 :: s12 :: s13 :: s14 :: s15 :: s16 :: s17 :: s18 :: s19 :: s20 :: Sl.im d :: rr) Q = Q (.im d) (s0 :: s1 :: s2 :: s3 :: s4 :: s5 :: s6 :: s7 :: s8 :: s9 :: s10 :: s11 :: s12 :: s13 :: s14 :: s15 :: s16 :: s17 :: s18 :: s19 :: s20 :: Sl.im d :: rr) := id rfl
@[simp ↓] theorem x_v21o {s0 s1 s2 s3 s4 s5 s6 s7 s8 s9 s10 s11 s12 s13 s14 s15 s16 s17 s18 s19 s20 : Sl} {rr : List Sl} {ds : List D} : wV 21 (s0 :: s1 :: s2 :: s3 :: s4 :: s5 :: s6 :: s7 :: s8 :: s9 :: s10 :: s11 :: s12 :: s13 :: s14 :: s15 :: s16 :: s17 :: s18 :: s19 :: s20 :: Sl.ow ds :: rr) Q = Q (.im (.list ds)) (s0 :: s1 :: s2 :: s3 :: s4 :: s5 :: s6 :: s7 :: s8 :: s9 :: s10 :: s11 :: s12 :: s13 :: s14 :: s15 :: s16 :: s17 :: s18 :: s19 :: s20 :: Sl.im (.list ds) :: rr) := id rfl
@[simp ↓] theorem x_v21s {s0 s1 s2 s3 s4 s5 s6 s7 s8 s9 s10 s11 s12 s13 s14 s15 s16 s17 s18 s19 s20 : Sl} {rr : List Sl} : wV 21 (s0 :: s1 :: s2 :: s3 :: s4 :: s5 :: s6 :: s7 :: s8 :: s9 :: s10 :: s11 :: s12 :: s13 :: s14 :: s15 :: s16 :: s17 :: s18 :: s19 :: s20 :: Sl.src :: rr) Q = Q .src (s0 :: s1 :: s2 :: s3 :: s4 :: s5 :: s6 :: s7 :: s8 :: s9 :: s10 :: s11 :: s12 :: s13 :: s14 :: s15 :: s16 :: s17 :: s18 :: s19 :: s20 :: Sl.src :: rr) := id rfl
@[simp ↓] theorem x_p21 {s0 s1 s2 s3 s4 s5 s6 s7 s8 s9 s10 s11 s12 s13 s14 s15 s16 s17 s18 s19 s20 : Sl} {rr : List Sl} {d : D} : wP 21 (s0 :: s1 :: s2 :: s3 :: s4 :: s5 :: s6 :: s7 :: s8 :: s9 :: s10 :: s11 :: s12 :: s13 :: s14 :: s15 :: s16 :: s17 :: s18 :: s19 :: s20 :: Sl.im d :: rr) Q = Q (.im d) (s0 :: s1 :: s2 :: s3 :: s4 :: s5 :: s6 :: s7 :: s8 :: s9 :: s10 :: s11 :: s12 :: s13 :: s14 :: s15 :: s16 :: s17 :: s18 :: s19 :: s20 :: Sl.im d :: rr) := id rfl
@[simp ↓] theorem x_p21o {s0 s1 s2 s3 s4 s5 s6 s7 s8 s9 s10 s11 s12 s13 s14 s15 s16 s17 s18 s19 s20 : Sl} {rr : List Sl} {ds : List D} : wP 21 (s0 :: s1 :: s2 :: s3 :: s4 :: s5 :: s6 :: s7 :: s8 :: s9 :: s10 :: s11 :: s12 :: s13 :: s14 :: s15 :: s16 :: s17 :: s18 :: s19 :: s20 :: Sl.ow ds :: rr) Q = Q (.pk ds) (s0 :: s1 :: s2 :: s3 :: s4 :: s5 :: s6 :: s7 :: s8 :: s9 :: s10 :: s11 :: s12 :: s13 :: s14 :: s15 :: s16 :: s17 :: s18 :: s19 :: s20 :: Sl.ow ds :: rr) := id rfl
@[simp ↓] theorem x_p21s {s0 s1 s2 s3 s4 s5 s6 s7 s8 s9 s10 s11 s12 s13 s14 s15 s16 s17 s18 s19 s20 : Sl} {rr : List Sl} : wP 21 (s0 :: s1 :: s2 :: s3 :: s4 :: s5 :: s6 :: s7 :: s8 :: s9 :: s10 :: s11 :: s12 :: s13 :: s14 :: s15 :: s16 :: s17 :: s18 :: s19 :: s20 :: Sl.src :: rr) Q = Q .src (s0 :: s1 :: s2 :: s3 :: s4 :: s5 :: s6 :: s7 :: s8 :: s9 :: s10 :: s11 :: s12 :: s13 :: s14 :: s15 :: s16 :: s17 :: s18 :: s19 :: s20 :: Sl.src :: rr) := id rfl
@[simp ↓] theorem x_owA21 {s0 s1 s2 s3 s4 s5 s6 s7 s8 s9 s10 s11 s12 s13 s14 s15 s16 s17 s18 s19 s20 : Sl} {rr : List Sl} {ds : List D} : owAt 21 (s0 :: s1 :: s2 :: s3 :: s4 :: s5 :: s6 :: s7 :: s8 :: s9 :: s10 :: s11 :: s12 :: s13 :: s14 :: s15 :: s16 :: s17 :: s18 :: s19 :: s20 :: Sl.ow ds :: rr) = True := eq_true ⟨ds, rfl⟩
@[simp ↓] theorem x_setK21 {s0 s1 s2 s3 s4 s5 s6 s7 s8 s9 s10 s11 s12 s13 s14 s15 s16 s17 s18 s19 s20 : Sl} {rr : List Sl} {ds : List D} {d : D} {k : Int} : setK 21 D0 d k (s0 :: s1 :: s2 :: s3 :: s4 :: s5 :: s6 :: s7 :: s8 :: s9 :: s10 :: s11 :: s12 :: s13 :: s14 :: s15 :: s16 :: s17 :: s18 :: s19 :: s20 :: Sl.ow ds :: rr) = got (ixN ds.length k) fun j => D0.nx (s0 :: s1 :: s2 :: s3 :: s4 :: s5 :: s6 :: s7 :: s8 :: s9 :: s10 :: s11 :: s12 :: s13 :: s14 :: s15 :: s16 :: s17 :: s18 :: s19 :: s20 :: Sl.ow (ds.set j d) :: rr) := id rfl
@[simp ↓] theorem x_appK21 {s0 s1 s2 s3 s4 s5 s6 s7 s8 s9 s10 s11 s12 s13 s14 s15 s16 s17 s18 s19 s20 : Sl} {rr : List Sl} {ds : List D} {d : D} : appK 21 D0 d (s0 :: s1 :: s2 :: s3 :: s4 :: s5 :: s6 :: s7 :: s8 :: s9 :: s10 :: s11 :: s12 :: s13 :: s14 :: s15 :: s16 :: s17 :: s18 :: s19 :: s20 :: Sl.ow ds :: rr) = (ds.length ≤ 100000 ∧ D0.nx (s0 :: s1 :: s2 :: s3 :: s4 :: s5 :: s6 :: s7 :: s8 :: s9 :: s10 :: s11 :: s12 :: s13 :: s14 :: s15 :: s16 :: s17 :: s18 :: s19 :: s20 :: Sl.ow (ds ++ [d]) :: rr)) := id rfl
@[simp ↓] theorem x_pop21 {s0 s1 s2 s3 s4 s5 s6 s7 s8 s9 s10 s11 s12 s13 s14 s15 s16 s17 s18 s19 s20 : Sl} {rr : List Sl} {ds : List D} : wPop 21 D0 (s0 :: s1 :: s2 :: s3 :: s4 :: s5 :: s6 :: s7 :: s8 :: s9 :: s10 :: s11 :: s12 :: s13 :: s14 :: s15 :: s16 :: s17 :: s18 :: s19 :: s20 :: Sl.ow ds :: rr) = (ds ≠ [] ∧ D0.nx (s0 :: s1 :: s2 :: s3 :: s4 :: s5 :: s6 :: s7 :: s8 :: s9 :: s10 :: s11 :: s12 :: s13 :: s14 :: s15 :: s16 :: s17 :: s18 :: s19 :: s20 :: Sl.ow ds.dropLast :: rr)) := id rfl
@[simp ↓] theorem x_v22 {s0 s1 s2 s3 s4 s5 s6 s7 s8 s9 s10 s11 s12 s13 s14 s15 s16 s17 s18 s19 s20 s21 : Sl} {rr : List Sl} {d : D} : wV 22 (s0 :: s1 :: s2 :: s3 :: s4 :: s5 :: s6 :: s7 :: s8 :: s9 :: s10 :: s11 :: s12 :: s13 :: s14 :: s15 :: s16 :: s17 :: s18 :: s19 :: s20 :: s21 :: Sl.im d :: rr) Q = Q (.im d) (s0 :: s1 :: s2 :: s3 :: s4 :: s5 :: s6 :: s7 :: s8 :: s9 :: s10 :: s11 :: s12 :: s13 :: s14 :: s15 :: s16 :: s17 :: s18 :: s19 :: s20 :: s21 :: Sl.im d :: rr) := id rfl
@[simp ↓] theorem x_v22o {s0 s1 s2 s3 s4 s5 s6 s7 s8 s9 s10 s11 s12 s13 s14 s15 s16 s17 s18 s19 s20 s21 : Sl} {rr : List Sl} {ds : List D} : wV 22 (s0 :: s1 :: s2 :: s3 :: s4 :: s5 :: s6 :: s7 :: s8 :: s9 :: s10 :: s11 :: s12 :: s13 :: s14 :: s15 :: s16 :: s17 :: s18 :: s19 :: s20 :: s21 :: Sl.ow ds :: rr) Q = Q (.im (.list ds)) (s0 :: s1 :: s2 :: s3 :: s4 :: s5 :: s6 :: s7 :: s8 :: s9 :: s10 :: s11 :: s12 :: s13 :: s14 :: s15 :: s16 :: s17 :: s18 :: s19 :: s20 :: s21 :: Sl.im (.list ds) :: rr) := id rfl
@[simp ↓] theorem x_v22s {s0 s1 s2 s3 s4 s5 s6 s7 s8 s9 s10 s11 s12 s13 s14 s15 s16 s17 s18 s19 s20 s21 : Sl} {rr : List Sl} : wV 22 (s0 :: s1 :: s2 :: s3 :: s4 :: s5 :: s6 :: s7 :: s8 :: s9 :: s10 :: s11 :: s12 :: s13 :: s14 :: s15 :: s16 :: s17 :: s18 :: s19 :: s20 :: s21 :: Sl.src :: rr) Q = Q .src (s0 :: s1 :: s2 :: s3 :: s4 :: s5 :: s6 :: s7 :: s8 :: s9 :: s10 :: s11 :: s12 :: s13 :: s14 :: s15 :: s16 :: s17 :: s18 :: s19 :: s20 :: s21 :: Sl.src :: rr) := id rfl
@[simp ↓] theorem x_p22 {s0 s1 s2 s3 s4 s5 s6 s7 s8 s9 s10 s11 s12 s13 s14 s15 s16 s17 s18 s19 s20 s21 : Sl} {rr : List Sl} {d : D} : wP 22 (s0 :: s1 :: s2 :: s3 :: s4 :: s5 :: s6 :: s7 :: s8 :: s9 :: s10 :: s11 :: s12 :: s13 :: s14 :: s15 :: s16 :: s17 :: s18 :: s19 :: s20 :: s21 :: Sl.im d :: rr) Q = Q (.im d) (s0 :: s1 :: s2 :: s3 :: s4 :: s5 :: s6 :: s7 :: s8 :: s9 :: s10 :: s11 :: s12 :: s13 :: s14 :: s15 :: s16 :: s17 :: s18 :: s19 :: s20 :: s21 :: Sl.im d :: rr) := id rfl
@[simp ↓] theorem x_p22o {s0 s1 s2 s3 s4 s5 s6 s7 s8 s9 s10 s11 s12 s13 s14 s15 s16 s17 s18 s19 s20 s21 : Sl} {rr : List Sl} {ds : List D} : wP 22 (s0 :: s1 :: s2 :: s3 :: s4 :: s5 :: s6 :: s7 :: s8 :: s9 :: s10 :: s11 :: s12 :: s13 :: s14 :: s15 :: s16 :: s17 :: s18 :: s19 :: s20 :: s21 :: Sl.ow ds :: rr) Q = Q (.pk ds) (s0 :: s1 :: s2 :: s3 :: s4 :: s5 :: s6 :: s7 :: s8 :: s9 :: s10 :: s11 :: s12 :: s13 :: s14 :: s15 :: s16 :: s17 :: s18 :: s19 :: s20 :: s21 :: Sl.ow ds :: rr) := id rfl
@[simp ↓] theorem x_p22s {s0 s1 s2 s3 s4 s5 s6 s7 s8 s9 s10 s11 s12 s13 s14 s15 s16 s17 s18 s19 s20 s21 : Sl} {rr : List Sl} : wP 22 (s0 :: s1 :: s2 :: s3 :: s4 :: s5 :: s6 :: s7 :: s8 :: s9 :: s10 :: s11 :: s12 :: s13 :: s14 :: s15 :: s16 :: s17 :: s18 :: s19 :: s20 :: s21 :: Sl.src :: rr) Q = Q .src (s0 :: s1 :: s2 :: s3 :: s4 :: s5 :: s6 :: s7 :: s8 :: s9 :: s10 :: s11 :: s12 :: s13 :: s14 :: s15 :: s16 :: s17 :: s18 :: s19 :: s20 :: s21 :: Sl.src :: rr) := id rfl
@[simp ↓] theorem x_owA22 {s0 s1 s2 s3 s4 s5 s6 s7 s8 s9 s10 s11 s12 s13 s14 s15 s16 s17 s18 s19 s20 s21 : Sl} {rr : List Sl} {ds : List D} : owAt 22 (s0 :: s1 :: s2 :: s3 :: s4 :: s5 :: s6 :: s7 :: s8 :: s9 :: s10 :: s11 :: s12 :: s13 :: s14 :: s15 :: s16 :: s17 :: s18 :: s19 :: s20 :: s21 :: Sl.ow ds :: rr) = True := eq_true ⟨ds, rfl⟩
@[simp ↓] theorem x_setK22 {s0 s1 s2 s3 s4 s5 s6 s7 s8 s9 s10 s11 s12 s13 s14 s15 s16 s17 s18 s19 s20 s21 : Sl} {rr : List Sl} {ds : List D} {d : D} {k : Int} : setK 22 D0 d k (s0 :: s1 :: s2 :: s3 :: s4 :: s5 :: s6 :: s7 :: s8 :: s9 :: s10 :: s11 :: s12 :: s13 :: s14 :: s15 :: s16 :: s17 :: s18 :: s19 :: s20 :: s21 :: Sl.ow ds :: rr) = got (ixN ds.length k) fun j => D0.nx (s0 :: s1 :: s2 :: s3 :: s4 :: s5 :: s6 :: s7 :: s8 :: s9 :: s10 :: s11 :: s12 :: s13 :: s14 :: s15 :: s16 :: s17 :: s18 :: s19 :: s20 :: s21 :: Sl.ow (ds.set j d) :: rr) := id rfl
@[simp ↓] theorem x_appK22 {s0 s1 s2 s3 s4 s5 s6 s7 s8 s9 s10 s11 s12 s13 s14 s15 s16 s17 s18 s19 s20 s21 : Sl} {rr : List Sl} {ds : List D} {d : D} : appK 22 D0 d (s0 :: s1 :: s2 :: s3 :: s4 :: s5 :: s6 :: s7 :: s8 :: s9 :: s10 :: s11 :: s12 :: s13 :: s14 :: s15 :: s16 :: s17 :: s18 :: s19 :: s20 :: s21 :: Sl.ow ds :: rr) = (ds.length ≤ 100000 ∧ D0.nx (s0 :: s1 :: s2 :: s3 :: s4 :: s5 :: s6 :: s7 :: s8 :: s9 :: s10 :: s11 :: s12 :: s13 :: s14 :: s15 :: s16 :: s17 :: s18 :: s19 :: s20 :: s21 :: Sl.ow (ds ++ [d]) :: rr)) := id rfl
@[simp ↓] theorem x_pop22 {s0 s1 s2 s3 s4 s5 s6 s7 s8 s9 s10 s11 s12 s13 s14 s15 s16 s17 s18 s19 s20 s21 : Sl} {rr : List Sl} {ds : List D} : wPop 22 D0 (s0 :: s1 :: s2 :: s3 :: s4 :: s5 :: s6 :: s7 :: s8 :: s9 :: s10 :: s11 :: s12 :: s13 :: s14 :: s15 :: s16 :: s17 :: s18 :: s19 :: s20 :: s21 :: Sl.ow ds :: rr) = (ds ≠ [] ∧ D0.nx (s0 :: s1 :: s2 :: s3 :: s4 :: s5 :: s6 :: s7 :: s8 :: s9 :: s10 :: s11 :: s12 :: s13 :: s14 :: s15 :: s16 :: s17 :: s18 :: s19 :: s20 :: s21 :: Sl.ow ds.dropLast :: rr)) := id rfl
@[simp ↓] theorem x_v23 {s0 s1 s2 s3 s4 s5 s6 s7 s8 s9 s10 s11 s12 s13 s14 s15 s16 s17 s18 s19 s20 s21 s22 : Sl} {rr : List Sl} {d : D} : wV 23 (s0 :: s1 :: s2 :: s3 :: s4 :: s5 :: s6 :: s7 :: s8 :: s9 :: s10 :: s11 :: s12 :: s13 :: s14 :: s15 :: s16 :: s17 :: s18 :: s19 :: s20 :: s21 :: s22 :: Sl.im d :: rr) Q = Q (.im d) (s0 :: s1 :: s2 :: s3 :: s4 :: s5 :: s6 :: s7 :: s8 :: s9 :: s10 :: s11 :: s12 :: s13 :: s14 :: s15 :: s16 :: s17 :: s18 :: s19 :: s20 :: s21 :: s22 :: Sl.im d :: rr) := id rfl
@[simp ↓] theorem x_v23o {s0 s1 s2 s3 s4 s5 s6 s7 s8 s9 s10 s11 s12 s13 s14 s15 s16 s17 s18 s19 s20 s21 s22 : Sl} {rr : List Sl} {ds : List D} : wV 23 (s0 :: s1 :: s2 :: s3 :: s4 :: s5 :: s6 :: s7 :: s8 :: s9 :: s10 :: s11 :: s12 :: s13 :: s14 :: s15 :: s16 :: s17 :: s18 :: s19 :: s20 :: s21 :: s22 :: Sl.ow ds :: rr) Q = Q (.im (.list ds)) (s0 :: s1 :: s2 :: s3 :: s4 :: s5 :: s6 :: s7 :: s8 :: s9 :: s10 :: s11 :: s12 :: s13 :: s14 :: s15 :: s16 :: s17 :: s18 :: s19 :: s20 :: s21 :: s22 :: Sl.im (.list ds) :: rr) := id rfl
@[simp ↓] theorem x_v23s {s0 s1 s2 s3 s4 s5 s6 s7 s8 s9 s10 s11 s12 s13 s14 s15 s16 s17 s18 s19 s20 s21 s22 : Sl} {rr : List Sl} : wV 23 (s0 :: s1 :: s2 :: s3 :: s4 :: s5 :: s6 :: s7 :: s8 :: s9 :: s10 :: s11 :: s12 :: s13 :: s14 :: s15 :: s16 :: s17 :: s18 :: s19 :: s20 :: s21 :: s22 :: Sl.src :: rr) Q = Q .src (s0 :: s1 :: s2 :: s3 :: s4 :: s5 :: s6 :: s7 :: s8 :: s9 :: s10 :: s11 :: s12 :: s13 :: s14 :: s15 :: s16 :: s17 :: s18 :: s19 :: s20 :: s21 :: s22 :: Sl.src :: rr) := id rfl
@[simp ↓] theorem x_p23 {s0 s1 s2 s3 s4 s5 s6 s7 s8 s9 s10 s11 s12 s13 s14 s15 s16 s17 s18 s19 s20 s21 s22 : Sl} {rr : List Sl} {d : D} : wP 23 (s0 :: s1 :: s2 :: s3 :: s4 :: s5 :: s6 :: s7 :: s8 :: s9 :: s10 :: s11 :: s12 :: s13 :: s14 :: s15 :: s16 :: s17 :: s18 :: s19 :: s20 :: s21 :: s22 :: Sl.im d :: rr) Q = Q (.im d) (s0 :: s1 :: s2 :: s3 :: s4 :: s5 :: s6 :: s7 :: s8 :: s9 :: s10 :: s11 :: s12 :: s13 :: s14 :: s15 :: s16 :: s17 :: s18 :: s19 :: s20 :: s21 :: s22 :: Sl.im d :: rr) := id rfl
@[simp ↓] theorem x_p23o {s0 s1 s2 s3 s4 s5 s6 s7 s8 s9 s10 s11 s12 s13 s14 s15 s16 s17 s18 s19 s20 s21 s22 : Sl} {rr : List Sl} {ds : List D} : wP 23 (s0 :: s1 :: s2 :: s3 :: s4 :: s5 :: s6 :: s7 :: s8 :: s9 :: s10 :: s11 :: s12 :: s13 :: s14 :: s15 :: s16 :: s17 :: s18 :: s19 :: s20 :: s21 :: s22 :: Sl.ow ds :: rr) Q = Q (.pk ds) (s0 :: s1 :: s2 :: s3 :: s4 :: s5 :: s6 :: s7 :: s8 :: s9 :: s10 :: s11 :: s12 :: s13 :: s14 :: s15 :: s16 :: s17 :: s18 :: s19 :: s20 :: s21 :: s22 :: Sl.ow ds :: rr) := id rfl
@[simp ↓] theorem x_p23s {s0 s1 s2 s3 s4 s5 s6 s7 s8 s9 s10 s11 s12 s13 s14 s15 s16 s17 s18 s19 s20 s21 s22 : Sl} {rr : List Sl} : wP 23 (s0 :: s1 :: s2 :: s3 :: s4 :: s5 :: s6 :: s7 :: s8 :: s9 :: s10 :: s11 :: s12 :: s13 :: s14 :: s15 :: s16 :: s17 :: s18 :: s19 :: s20 :: s21 :: s22 :: Sl.src :: rr) Q = Q .src (s0 :: s1 :: s2 :: s3 :: s4 :: s5 :: s6 :: s7 :: s8 :: s9 :: s10 :: s11 :: s12 :: s13 :: s14 :: s15 :: s16 :: s17 :: s18 :: s19 :: s20 :: s21 :: s22 :: Sl.src :: rr) := id rfl
@[simp ↓] theorem x_owA23 {s0 s1 s2 s3 s4 s5 s6 s7 s8 s9 s10 s11 s12 s13 s14 s15 s16 s17 s18 s19 s20 s21 s22 : Sl} {rr : List Sl} {ds : List D} : owAt 23 (s0 :: s1 :: s2 :: s3 :: s4 :: s5 :: s6 :: s7 :: s8 :: s9 :: s10 :: s11 :: s12 :: s13 :: s14 :: s15 :: s16 :: s17 :: s18 :: s19 :: s20 :: s21 :: s22 :: Sl.ow ds :: rr) = True := eq_true ⟨ds, rfl⟩
@[simp ↓] theorem x_setK23 {s0 s1 s2 s3 s4 s5 s6 s7 s8 s9 s10 s11 s12 s13 s14 s15 s16 s17 s18 s19 s20 s21 s22 : Sl} {rr : List Sl} {ds : List D} {d : D} {k : Int} : setK 23 D0 d k (s0 :: s1 :: s2 :: s3 :: s4 :: s5 :: s6 :: s7 :: s8 :: s9 :: s10 :: s11 :: s12 :: s13 :: s14 :: s15 :: s16 :: s17 :: s18 :: s19 :: s20 :: s21 :: s22 :: Sl.ow ds :: rr) = got (ixN ds.length k) fun j => D0.nx (s0 :: s1 :: s2 :: s3 :: s4 :: s5 :: s6 :: s7 :: s8 :: s9 :: s10 :: s11 :: s12 :: s13 :: s14 :: s15 :: s16 :: s17 :: s18 :: s19 :: s20 :: s21 :: s22 :: Sl.ow (ds.set j d) :: rr) := id rfl
@[simp ↓] theorem x_appK23 {s0 s1 s2 s3 s4 s5 s6 s7 s8 s9 s10 s11 s12 s13 s14 s15 s16 s17 s18 s19 s20 s21 s22 : Sl} {rr : List Sl} {ds : List D} {d : D} : appK 23 D0 d (s0 :: s1 :: s2 :: s3 :: s4 :: s5 :: s6 :: s7 :: s8 :: s9 :: s10 :: s11 :: s12 :: s13 :: s14 :: s15 :: s16 :: s17 :: s18 :: s19 :: s20 :: s21 :: s22 :: Sl.ow ds :: rr) = (ds.length ≤ 100000 ∧ D0.nx (s0 :: s1 :: s2 :: s3 :: s4 :: s5 :: s6 :: s7 :: s8 :: s9 :: s10 :: s11 :: s12 :: s13 :: s14 :: s15 :: s16 :: s17 :: s18 :: s19 :: s20 :: s21 :: s22 :: Sl.ow (ds ++ [d]) :: rr)) := id rfl
@[simp ↓] theorem x_pop23 {s0 s1 s2 s3 s4 s5 s6 s7 s8 s9 s10 s11 s12 s13 s14 s15 s16 s17 s18 s19 s20 s21 s22 : Sl} {rr : List Sl} {ds : List D} : wPop 23 D0 (s0 :: s1 :: s2 :: s3 :: s4 :: s5 :: s6 :: s7 :: s8 :: s9 :: s10 :: s11 :: s12 :: s13 :: s14 :: s15 :: s16 :: s17 :: s18 :: s19 :: s20 :: s21 :: s22 :: Sl.ow ds :: rr) = (ds ≠ [] ∧ D0.nx (s0 :: s1 :: s2 :: s3 :: s4 :: s5 :: s6 :: s7 :: s8 :: s9 :: s10 :: s11 :: s12 :: s13 :: s14 :: s15 :: s16 :: s17 :: s18 :: s19 :: s20 :: s21 :: s22 :: Sl.ow ds.dropLast :: rr)) := id rfl
@[simp ↓] theorem x_v24 {s0 s1 s2 s3 s4 s5 s6 s7 s8 s9 s10 s11 s12 s13 s14 s15 s16 s17 s18 s19 s20 s21 s22 s23 : Sl} {rr : List Sl} {d : D} : wV 24 (s0 :: s1 :: s2 :: s3 :: s4 :: s5 :: s6 :: s7 :: s8 :: s9 :: s10 :: s11 :: s12 :: s13 :: s14 :: s15 :: s16 :: s17 :: s18 :: s19 :: s20 :: s21 :: s22 :: s23 :: Sl.im d :: rr) Q = Q (.im d) (s0 :: s1 :: s2 :: s3 :: s4 :: s5 :: s6 :: s7 :: s8 :: s9 :: s10 :: s11 :: s12 :: s13 :: s14 :: s15 :: s16 :: s17 :: s18 :: s19 :: s20 :: s21 :: s22 :: s23 :: Sl.im d :: rr) := id rfl
@[simp ↓] theorem x_v24o {s0 s1 s2 s3 s4 s5 s6 s7 s8 s9 s10 s11 s12 s13 s14 s15 s16 s17 s18 s19 s20 s21 s22 s23 : Sl} {rr : List Sl} {ds : List D} : wV 24 (s0 :: s1 :: s2 :: s3 :: s4 :: s5 :: s6 :: s7 :: s8 :: s9 :: s10 :: s11 :: s12 :: s13 :: s14 :: s15 :: s16 :: s17 :: s18 :: s19 :: s20 :: s21 :: s22 :: s23 :: Sl.ow ds :: rr) Q = Q (.im (.list ds)) (s0 :: s1 :: s2 :: s3 :: s4 :: s5 :: s6 :: s7 :: s8 :: s9 :: s10 :: s11 :: s12 :: s13 :: s14 :: s15 :: s16 :: s17 :: s18 :: s19 :: s20 :: s21 :: s22 :: s23 :: Sl.im (.list ds) :: rr) := id rfl
@[simp ↓] theorem x_v24s {s0 s1 s2 s3 s4 s5 s6 s7 s8 s9 s10 s11 s12 s13 s14 s15 s16 s17 s18 s19 s20 s21 s22 s23 : Sl} {rr : List Sl} : wV 24 (s0 :: s1 :: s2 :: s3 :: s4 :: s5 :: s6 :: s7 :: s8 :: s9 :: s10 :: s11 :: s12 :: s13 :: s14 :: s15 :: s16 :: s17 :: s18 :: s19 :: s20 :: s21 :: s22 :: s23 :: Sl.src :: rr) Q = Q .src (s0 :: s1 :: s2 :: s3 :: s4 :: s5 :: s6 :: s7 :: s8 :: s9 :: s10 :: s11 :: s12 :: s13 :: s14 :: s15 :: s16 :: s17 :: s18 :: s19 :: s20 :: s21 :: s22 :: s23 :: Sl.src :: rr) := id rfl
@[simp ↓] theorem x_p24 {s0 s1 s2 s3 s4 s5 s6 s7 s8 s9 s10 s11 s12 s13 s14 s15 s16 s17 s18 s19 s20 s21 s22 s23 : Sl} {rr : List Sl} {d : D} : wP 24 (s0 :: s1 :: s2 :: s3 :: s4 :: s5 :: s6 :: s7 :: s8 :: s9 :: s10 :: s11 :: s12 :: s13 :: s14 :: s15 :: s16 :: s17 :: s18 :: s19 :: s20 :: s21 :: s22 :: s23 :: Sl.im d :: rr) Q = Q (.im d) (s0 :: s1 :: s2 :: s3 :: s4 :: s5 :: s6 :: s7 :: s8 :: s9 :: s10 :: s11 :: s12 :: s13 :: s14 :: s15 :: s16 :: s17 :: s18 :: s19 :: s20 :: s21 :: s22 :: s23 :: Sl.im d :: rr) := id rfl
@[simp ↓] theorem x_p24o {s0 s1 s2 s3 s4 s5 s6 s7 s8 s9 s10 s11 s12 s13 s14 s15 s16 s17 s18 s19 s20 s21 s22 s23 : Sl} {rr : List Sl} {ds : List D} : wP 24 (s0 :: s1 :: s2 :: s3 :: s4 :: s5 :: s6 :: s7 :: s8 :: s9 :: s10 :: s11 :: s12 :: s13 :: s14 :: s15 :: s16 :: s17 :: s18 :: s19 :: s20 :: s21 :: s22 :: s23 :: Sl.ow ds :: rr) Q = Q (.pk ds) (s0 :: s1 :: s2 :: s3 :: s4 :: s5 :: s6 :: s7 :: s8 :: s9 :: s10 :: s11 :: s12 :: s13 :: s14 :: s15 :: s16 :: s17 :: s18 :: s19 :: s20 :: s21 :: s22 :: s23 :: Sl.ow ds :: rr) := id rfl
@[simp ↓] theorem x_p24s {s0 s1 s2 s3 s4 s5 s6 s7 s8 s9 s10 s11 s12 s13 s14 s15 s16 s17 s18 s19 s20 s21 s22 s23 : Sl} {rr : List Sl} : wP 24 (s0 :: s1 :: s2 :: s3 :: s4 :: s5 :: s6 :: s7 :: s8 :: s9 :: s10 :: s11 :: s12 :: s13 :: s14 :: s15 :: s16 :: s17 :: s18 :: s19 :: s20 :: s21 :: s22 :: s23 :: Sl.src :: rr) Q = Q .src (s0 :: s1 :: s2 :: s3 :: s4 :: s5 :: s6 :: s7 :: s8 :: s9 :: s10 :: s11 :: s12 :: s13 :: s14 :: s15 :: s16 :: s17 :: s18 :: s19 :: s20 :: s21 :: s22 :: s23 :: Sl.src :: rr) := id rfl
@[simp ↓] theorem x_owA24 {s0 s1 s2 s3 s4 s5 s6 s7 s8 s9 s10 s11 s12 s13 s14 s15 s16 s17 s18 s19 s20 s21 s22 s23 : Sl} {rr : List Sl} {ds : List D} : owAt 24 (s0 :: s1 :: s2 :: s3 :: s4 :: s5 :: s6 :: s7 :: s8 :: s9 :: s10 :: s11 :: s12 :: s13 :: s14 :: s15 :: s16 :: s17 :: s18 :: s19 :: s20 :: s21 :: s22 :: s23 :: Sl.ow ds :: rr) = True := eq_true ⟨ds, rfl⟩
@[simp ↓] theorem x_setK24 {s0 s1 s2 s3 s4 s5 s6 s7 s8 s9 s10 s11 s12 s13 s14 s15 s16 s17 s18 s19 s20 s21 s22 s23 : Sl} {rr : List Sl} {ds : List D} {d : D} {k : Int} : setK 24 D0 d k (s0 :: s1 :: s2 :: s3 :: s4 :: s5 :: s6 :: s7 :: s8 :: s9 :: s10 :: s11 :: s12 :: s13 :: s14 :: s15 :: s16 :: s17 :: s18 :: s19 :: s20 :: s21 :: s22 :: s23 :: Sl.ow ds :: rr) = got (ixN ds.length k) fun j => D0.nx (s0 :: s1 :: s2 :: s3 :: s4 :: s5 :: s6 :: s7 :: s8 :: s9 :: s10 :: s11 :: s12 :: s13 :: s14 :: s15 :: s16 :: s17 :: s18 :: s19 :: s20 :: s21 :: s22 :: s23 :: Sl.ow (ds.set j d) :: rr) := id rfl
@[simp ↓] theorem x_appK24 {s0 s1 s2 s3 s4 s5 s6 s7 s8 s9 s10 s11 s12 s13 s14 s15 s16 s17 s18 s19 s20 s21 s22 s23 : Sl} {rr : List Sl} {ds : List D} {d : D} : appK 24 D0 d (s0 :: s1 :: s2 :: s3 :: s4 :: s5 :: s6 :: s7 :: s8 :: s9 :: s10 :: s11 :: s12 :: s13 :: s14 :: s15 :: s16 :: s17 :: s18 :: s19 :: s20 :: s21 :: s22 :: s23 :: Sl.ow ds :: rr) = (ds.length ≤ 100000 ∧ D0.nx (s0 :: s1 :: s2 :: s3 :: s4 :: s5 :: s6 :: s7 :: s8 :: s9 :: s10 :: s11 :: s12 :: s13 :: s14 :: s15 :: s16 :: s17 :: s18 :: s19 :: s20 :: s21 :: s22 :: s23 :: Sl.ow (ds ++ [d]) :: rr)) := id rfl
@[simp ↓] theorem x_pop24 {s0 s1 s2 s3 s4 s5 s6 s7 s8 s9 s10 s11 s12 s13 s14 s15 s16 s17 s18 s19 s20 s21 s22 s23 : Sl} {rr : List Sl} {ds : List D} : wPop 24 D0 (s0 :: s1 :: s2 :: s3 :: s4 :: s5 :: s6 :: s7 :: s8 :: s9 :: s10 :: s11 :: s12 :: s13 :: s14 :: s15 :: s16 :: s17 :: s18 :: s19 :: s20 :: s21 :: s22 :: s23 :: Sl.ow ds :: rr) = (ds ≠ [] ∧ D0.nx (s0 :: s1 :: s2 :: s3 :: s4 :: s5 :: s6 :: s7 :: s8 :: s9 :: s10 :: s11 :: s12 :: s13 :: s14 :: s15 :: s16 :: s17 :: s18 :: s19 :: s20 :: s21 :: s22 :: s23 :: Sl.ow ds.dropLast :: rr)) := id rfl
@[simp ↓] theorem x_v25 {s0 s1 s2 s3 s4 s5 s6 s7 s8 s9 s10 s11 s12 s13 s14 s15 s16 s17 s18 s19 s20 s21 s22 s23 s24 : Sl} {rr : List Sl} {d : D} : wV 25 (s0 :: s1 :: s2 :: s3 :: s4 :: s5 :: s6 :: s7 :: s8 :: s9 :: s10 :: s11 :: s12 :: s13 :: s14 :: s15 :: s16 :: s17 :: s18 :: s19 :: s20 :: s21 :: s22 :: s23 :: s24 :: Sl.im d :: rr) Q = Q (.im d) (s0 :: s1 :: s2 :: s3 :: s4 :: s5 :: s6 :: s7 :: s8 :: s9 :: s10 :: s11 :: s12 :: s13 :: s14 :: s15 :: s16 :: s17 :: s18 :: s19 :: s20 :: s21 :: s22 :: s23 :: s24 :: Sl.im d :: rr) := id rfl
@[simp ↓] theorem x_v25o {s0 s1 s2 s3 s4 s5 s6 s7 s8 s9 s10 s11 s12 s13 s14 s15 s16 s17 s18 s19 s20 s21 s22 s23 s24 : Sl} {rr : List Sl} {ds : List D} : wV 25 (s0 :: s1 :: s2 :: s3 :: s4 :: s5 :: s6 :: s7 :: s8 :: s9 :: s10 :: s11 :: s12 :: s13 :: s14 :: s15 :: s16 :: s17 :: s18 :: s19 :: s20 :: s21 :: s22 :: s23 :: s24 :: Sl.ow ds :: rr) Q = Q (.im (.list ds)) (s0 :: s1 :: s2 :: s3 :: s4 :: s5 :: s6 :: s7 :: s8 :: s9 :: s10 :: s11 :: s12 :: s13 :: s14 :: s15 :: s16 :: s17 :: s18 :: s19 :: s20 :: s21 :: s22 :: s23 :: s24 :: Sl.im (.list ds) :: rr) := id rfl
@[simp ↓] theorem x_v25s {s0 s1 s2 s3 s4 s5 s6 s7 s8 s9 s10 s11 s12 s13 s14 s15 s16 s17 s18 s19 s20 s21 s22 s23 s24 : Sl} {rr : List Sl} : wV 25 (s0 :: s1 :: s2 :: s3 :: s4 :: s5 :: s6 :: s7 :: s8 :: s9 :: s10 :: s11 :: s12 :: s13 :: s14 :: s15 :: s16 :: s17 :: s18 :: s19 :: s20 :: s21 :: s22 :: s23 :: s24 :: Sl.src :: rr) Q = Q .src (s0 :: s1 :: s2 :: s3 :: s4 :: s5 :: s6 :: s7 :: s8 :: s9 :: s10 :: s11 :: s12 :: s13 :: s14 :: s15 :: s16 :: s17 :: s18 :: s19 :: s20 :: s21 :: s22 :: s23 :: s24 :: Sl.src :: rr) := id rfl
@[simp ↓] theorem x_p25 {s0 s1 s2 s3 s4 s5 s6 s7 s8 s9 s10 s11 s12 s13 s14 s15 s16 s17 s18 s19 s20 s21 s22 s23 s24 : Sl} {rr : List Sl} {d : D} : wP 25 (s0 :: s1 :: s2 :: s3 :: s4 :: s5 :: s6 :: s7 :: s8 :: s9 :: s10 :: s11 :: s12 :: s13 :: s14 :: s15 :: s16 :: s17 :: s18 :: s19 :: s20 :: s21 :: s22 :: s23 :: s24 :: Sl.im d :: rr) Q = Q (.im d) (s0 :: s1 :: s2 :: s3 :: s4 :: s5 :: s6 :: s7 :: s8 :: s9 :: s10 :: s11 :: s12 :: s13 :: s14 :: s15 :: s16 :: s17 :: s18 :: s19 :: s20 :: s21 :: s22 :: s23 :: s24 :: Sl.im d :: rr) := id rfl
@[simp ↓] theorem x_p25o {s0 s1 s2 s3 s4 s5 s6 s7 s8 s9 s10 s11 s12 s13 s14 s15 s16 s17 s18 s19 s20 s21 s22 s23 s24 : Sl} {rr : List Sl} {ds : List D} : wP 25 (s0 :: s1 :: s2 :: s3 :: s4 :: s5 :: s6 :: s7 :: s8 :: s9 :: s10 :: s11 :: s12 :: s13 :: s14 :: s15 :: s16 :: s17 :: s18 :: s19 :: s20 :: s21 :: s22 :: s23 :: s24 :: Sl.ow ds :: rr) Q = Q (.pk ds) (s0 :: s1 :: s2 :: s3 :: s4 :: s5 :: s6 :: s7 :: s8 :: s9 :: s10 :: s11 :: s12 :: s13 :: s14 :: s15 :: s16 :: s17 :: s18 :: s19 :: s20 :: s21 :: s22 :: s23 :: s24 :: Sl.ow ds :: rr) := id rfl
@[simp ↓] theorem x_p25s {s0 s1 s2 s3 s4 s5 s6 s7 s8 s9 s10 s11 s12 s13 s14 s15 s16 s17 s18 s19 s20 s21 s22 s23 s24 : Sl} {rr : List Sl} : wP 25 (s0 :: s1 :: s2 :: s3 :: s4 :: s5 :: s6 :: s7 :: s8 :: s9 :: s10 :: s11 :: s12 :: s13 :: s14 :: s15 :: s16 :: s17 :: s18 :: s19 :: s20 :: s21 :: s22 :: s23 :: s24 :: Sl.src :: rr) Q = Q .src (s0 :: s1 :: s2 :: s3 :: s4 :: s5 :: s6 :: s7 :: s8 :: s9 :: s10 :: s11 :: s12 :: s13 :: s14 :: s15 :: s16 :: s17 :: s18 :: s19 :: s20 :: s21 :: s22 :: s23 :: s24 :: Sl.src :: rr) := id rfl
@[simp ↓] theorem x_owA25 {s0 s1 s2 s3 s4 s5 s6 s7 s8 s9 s10 s11 s12 s13 s14 s15 s16 s17 s18 s19 s20 s21 s22 s23 s24 : Sl} {rr : List Sl} {ds : List D} : owAt 25 (s0 :: s1 :: s2 :: s3 :: s4 :: s5 :: s6 :: s7 :: s8 :: s9 :: s10 :: s11 :: s12 :: s13 :: s14 :: s15 :: s16 :: s17 :: s18 :: s19 :: s20 :: s21 :: s22 :: s23 :: s24 :: Sl.ow ds :: rr) = True := eq_true ⟨ds, rfl⟩
@[simp ↓] theorem x_setK25 {s0 s1 s2 s3 s4 s5 s6 s7 s8 s9 s10 s11 s12 s13 s14 s15 s16 s17 s18 s19 s20 s21 s22 s23 s24 : Sl} {rr : List Sl} {ds : List D} {d : D} {k : Int} : setK 25 D0 d k (s0 :: s1 :: s2 :: s3 :: s4 :: s5 :: s6 :: s7 :: s8 :: s9 :: s10 :: s11 :: s12 :: s13 :: s14 :: s15 :: s16 :: s17 :: s18 :: s19 :: s20 :: s21 :: s22 :: s23 :: s24 :: Sl.ow ds :: rr) = got (ixN ds.length k) fun j => D0.nx (s0 :: s1 :: s2 :: s3 :: s4 :: s5 :: s6 :: s7 :: s8 :: s9 :: s10 :: s11 :: s12 :: s13 :: s14 :: s15 :: s16 :: s17 :: s18 :: s19 :: s20 :: s21 :: s22 :: s23 :: s24 :: Sl.ow (ds.set j d) :: rr) := id rfl
@[simp ↓] theorem x_appK25 {s0 s1 s2 s3 s4 s5 s6 s7 s8 s9 s10 s11 s12 s13 s14 s15 s16 s17 s18 s19 s20 s21 s22 s23 s24 : Sl} {rr : List Sl} {ds : List D} {d : D} : appK 25 D0 d (s0 :: s1 :: s2 :: s3 :: s4 :: s5 :: s6 :: s7 :: s8 :: s9 :: s10 :: s11 :: s12 :: s13 :: s14 :: s15 :: s16 :: s17 :: s18 :: s19 :: s20 :: s21 :: s22 :: s23 :: s24 :: Sl.ow ds :: rr) = (ds.length ≤ 100000 ∧ D0.nx (s0 :: s1 :: s2 :: s3 :: s4 :: s5 :: s6 :: s7 :: s8 :: s9 :: s10 :: s11 :: s12 :: s13 :: s14 :: s15 :: s16 :: s17 :: s18 :: s19 :: s20 :: s21 :: s22 :: s23 :: s24 :: Sl.ow (ds ++ [d]) :: rr)) := id rfl
@[simp ↓] theorem x_pop25 {s0 s1 s2 s3 s4 s5 s6 s7 s8 s9 s10 s11 s12 s13 s14 s15 s16 s17 s18 s19 s20 s21 s22 s23 s24 : Sl} {rr : List Sl} {ds : List D} : wPop 25 D0 (s0 :: s1 :: s2 :: s3 :: s4 :: s5 :: s6 :: s7 :: s8 :: s9 :: s10 :: s11 :: s12 :: s13 :: s14 :: s15 :: s16 :: s17 :: s18 :: s19 :: s20 :: s21 :: s22 :: s23 :: s24 :: Sl.ow ds :: rr) = (ds ≠ [] ∧ D0.nx (s0 :: s1 :: s2 :: s3 :: s4 :: s5 :: s6 :: s7 :: s8 :: s9 :: s10 :: s11 :: s12 :: s13 :: s14 :: s15 :: s16 :: s17 :: s18 :: s19 :: s20 :: s21 :: s22 :: s23 :: s24 :: Sl.ow ds.dropLast :: rr)) := id rfl
@[simp ↓] theorem x_v26 {s0 s1 s2 s3 s4 s5 s6 s7 s8 s9 s10 s11 s12 s13 s14 s15 s16 s17 s18 s19 s20 s21 s22 s23 s24 s25 : Sl} {rr : List Sl} {d : D} : wV 26 (s0 :: s1 :: s2 :: s3 :: s4 :: s5 :: s6 :: s7 :: s8 :: s9 :: s10 :: s11 :: s12 :: s13 :: s14 :: s15 :: s16 :: s17 :: s18 :: s19 :: s20 :: s21 :: s22 :: s23 :: s24 :: s25 :: Sl.im d :: rr) Q = Q (.im d) (s0 :: s1 :: s2 :: s3 :: s4 :: s5 :: s6 :: s7 :: s8 :: s9 :: s10 :: s11 :: s12 :: s13 :: s14 :: s15 :: s16 :: s17 :: s18 :: s19 :: s20 :: s21 :: s22 :: s23 :: s24 :: s25 :: Sl.im d :: rr) := id rfl
@[simp ↓] theorem x_v26o {s0 s1 s2 s3 s4 s5 s6 s7 s8 s9 s10 s11 s12 s13 s14 s15 s16 s17 s18 s19 s20 s21 s22 s23 s24 s25 : Sl} {rr : List Sl} {ds : List D} : wV 26 (s0 :: s1 :: s2 :: s3 :: s4 :: s5 :: s6 :: s7 :: s8 :: s9 :: s10 :: s11 :: s12 :: s13 :: s14 :: s15 :: s16 :: s17 :: s18 :: s19 :: s20 :: s21 :: s22 :: s23 :: s24 :: s25 :: Sl.ow ds :: rr) Q = Q (.im (.list ds)) (s0 :: s1 :: s2 :: s3 :: s4 :: s5 :: s6 :: s7 :: s8 :: s9 :: s10 :: s11 :: s12 :: s13 :: s14 :: s15 :: s16 :: s17 :: s18 :: s19 :: s20 :: s21 :: s22 :: s23 :: s24 :: s25 :: Sl.im (.list ds) :: rr) := id rfl
@[simp ↓] theorem x_v26s {s0 s1 s2 s3 s4 s5 s6 s7 s8 s9 s10 s11 s12 s13 s14 s15 s16 s17 s18 s19 s20 s21 s22 s23 s24 s25 : Sl} {rr : List Sl} : wV 26 (s0 :: s1 :: s2 :: s3 :: s4 :: s5 :: s6 :: s7 :: s8 :: s9 :: s10 :: s11 :: s12 :: s13 :: s14 :: s15 :: s16 :: s17 :: s18 :: s19 :: s20 :: s21 :: s22 :: s23 :: s24 :: s25 :: Sl.src :: rr) Q = Q .src (s0 :: s1 :: s2 :: s3 :: s4 :: s5 :: s6 :: s7 :: s8 :: s9 :: s10 :: s11 :: s12 :: s13 :: s14 :: s15 :: s16 :: s17 :: s18 :: s19 :: s20 :: s21 :: s22 :: s23 :: s24 :: s25 :: Sl.src :: rr) := id rfl
@[simp ↓] theorem x_p26 {s0 s1 s2 s3 s4 s5 s6 s7 s8 s9 s10 s11 s12 s13 s14 s15 s16 s17 s18 s19 s20 s21 s22 s23 s24 s25 : Sl} {rr : List Sl} {d : D} : wP 26 (s0 :: s1 :: s2 :: s3 :: s4 :: s5 :: s6 :: s7 :: s8 :: s9 :: s10 :: s11 :: s12 :: s13 :: s14 :: s15 :: s16 :: s17 :: s18 :: s19 :: s20 :: s21 :: s22 :: s23 :: s24 :: s25 :: Sl.im d :: rr) Q = Q (.im d) (s0 :: s1 :: s2 :: s3 :: s4 :: s5 :: s6 :: s7 :: s8 :: s9 :: s10 :: s11 :: s12 :: s13 :: s14 :: s15 :: s16 :: s17 :: s18 :: s19 :: s20 :: s21 :: s22 :: s23 :: s24 :: s25 :: Sl.im d :: rr) := id rfl
@[simp ↓] theorem x_p26o {s0 s1 s2 s3 s4 s5 s6 s7 s8 s9 s10 s11 s12 s13 s14 s15 s16 s17 s18 s19 s20 s21 s22 s23 s24 s25 : Sl} {rr : List Sl} {ds : List D} : wP 26 (s0 :: s1 :: s2 :: s3 :: s4 :: s5 :: s6 :: s7 :: s8 :: s9 :: s10 :: s11 :: s12 :: s13 :: s14 :: s15 :: s16 :: s17 :: s18 :: s19 :: s20 :: s21 :: s22 :: s23 :: s24 :: s25 :: Sl.ow ds :: rr) Q = Q (.pk ds) (s0 :: s1 :: s2 :: s3 :: s4 :: s5 :: s6 :: s7 :: s8 :: s9 :: s10 :: s11 :: s12 :: s13 :: s14 :: s15 :: s16 :: s17 :: s18 :: s19 :: s20 :: s21 :: s22 :: s23 :: s24 :: s25 :: Sl.ow ds :: rr) := id rfl
@[simp ↓] theorem x_p26s {s0 s1 s2 s3 s4 s5 s6 s7 s8 s9 s10 s11 s12 s13 s14 s15 s16 s17 s18 s19 s20 s21 s22 s23 s24 s25 : Sl} {rr : List Sl} : wP 26 (s0 :: s1 :: s2 :: s3 :: s4 :: s5 :: s6 :: s7 :: s8 :: s9 :: s10 :: s11 :: s12 :: s13 :: s14 :: s15 :: s16 :: s17 :: s18 :: s19 :: s20 :: s21 :: s22 :: s23 :: s24 :: s25 :: Sl.src :: rr) Q = Q .src (s0 :: s1 :: s2 :: s3 :: s4 :: s5 :: s6 :: s7 :: s8 :: s9 :: s10 :: s11 :: s12 :: s13 :: s14 :: s15 :: s16 :: s17 :: s18 :: s19 :: s20 :: s21 :: s22 :: s23 :: s24 :: s25 :: Sl.src :: rr) := id rfl
@[simp ↓] theorem x_owA26 {s0 s1 s2 s3 s4 s5 s6 s7 s8 s9 s10 s11 s12 s13 s14 s15 s16 s17 s18 s19 s20 s21 s22 s23 s24 s25 : Sl} {rr : List Sl} {ds : List D} : owAt 26 (s0 :: s1 :: s2 :: s3 :: s4 :: s5 :: s6 :: s7 :: s8 :: s9 :: s10 :: s11 :: s12 :: s13 :: s14 :: s15 :: s16 :: s17 :: s18 :: s19 :: s20 :: s21 :: s22 :: s23 :: s24 :: s25 :: Sl.ow ds :: rr) = True := eq_true ⟨ds, rfl⟩
@[simp ↓] theorem x_setK26 {s0 s1 s2 s3 s4 s5 s6 s7 s8 s9 s10 s11 s12 s13 s14 s15 s16 s17 s18 s19 s20 s21 s22 s23 s24 s25 : Sl} {rr : List Sl} {ds : List D} {d : D} {k : Int} : setK 26 D0 d k (s0 :: s1 :: s2 :: s3 :: s4 :: s5 :: s6 :: s7 :: s8 :: s9 :: s10 :: s11 :: s12 :: s13 :: s14 :: s15 :: s16 :: s17 :: s18 :: s19 :: s20 :: s21 :: s22 :: s23 :: s24 :: s25 :: Sl.ow ds :: rr) = got (ixN ds.length k) fun j => D0.nx (s0 :: s1 :: s2 :: s3 :: s4 :: s5 :: s6 :: s7 :: s8 :: s9 :: s10 :: s11 :: s12 :: s13 :: s14 :: s15 :: s16 :: s17 :: s18 :: s19 :: s20 :: s21 :: s22 :: s23 :: s24 :: s25 :: Sl.ow (ds.set j d) :: rr) := id rfl
@[simp ↓] theorem x_appK26 {s0 s1 s2 s3 s4 s5 s6 s7 s8 s9 s10 s11 s12 s13 s14 s15 s16 s17 s18 s19 s20 s21 s22 s23 s24 s25 : Sl} {rr : List Sl} {ds : List D} {d : D} : appK 26 D0 d (s0 :: s1 :: s2 :: s3 :: s4 :: s5 :: s6 :: s7 :: s8 :: s9 :: s10 :: s11 :: s12 :: s13 :: s14 :: s15 :: s16 :: s17 :: s18 :: s19 :: s20 :: s21 :: s22 :: s23 :: s24 :: s25 :: Sl.ow ds :: rr) = (ds.length ≤ 100000 ∧ D0.nx (s0 :: s1 :: s2 :: s3 :: s4 :: s5 :: s6 :: s7 :: s8 :: s9 :: s10 :: s11 :: s12 :: s13 :: s14 :: s15 :: s16 :: s17 :: s18 :: s19 :: s20 :: s21 :: s22 :: s23 :: s24 :: s25 :: Sl.ow (ds ++ [d]) :: rr)) := id rfl
@[simp ↓] theorem x_pop26 {s0 s1 s2 s3 s4 s5 s6 s7 s8 s9 s10 s11 s12 s13 s14 s15 s16 s17 s18 s19 s20 s21 s22 s23 s24 s25 : Sl} {rr : List Sl} {ds : List D} : wPop 26 D0 (s0 :: s1 :: s2 :: s3 :: s4 :: s5 :: s6 :: s7 :: s8 :: s9 :: s10 :: s11 :: s12 :: s13 :: s14 :: s15 :: s16 :: s17 :: s18 :: s19 :: s20 :: s21 :: s22 :: s23 :: s24 :: s25 :: Sl.ow ds :: rr) = (ds ≠ [] ∧ D0.nx (s0 :: s1 :: s2 :: s3 :: s4 :: s5 :: s6 :: s7 :: s8 :: s9 :: s10 :: s11 :: s12 :: s13 :: s14 :: s15 :: s16 :: s17 :: s18 :: s19 :: s20 :: s21 :: s22 :: s23 :: s24 :: s25 :: Sl.ow ds.dropLast :: rr)) := id rfl
@[simp ↓] theorem x_v27 {s0 s1 s2 s3 s4 s5 s6 s7 s8 s9 s10 s11 s12 s13 s14 s15 s16 s17 s18 s19 s20 s21 s22 s23 s24 s25 s26 : Sl} {rr : List Sl} {d : D} : wV 27 (s0 :: s1 :: s2 :: s3 :: s4 :: s5 :: s6 :: s7 :: s8 :: s9 :: s10 :: s11 :: s12 :: s13 :: s14 :: s15 :: s16 :: s17 :: s18 :: s19 :: s20 :: s21 :: s22 :: s23 :: s24 :: s25 :: s26 :: Sl.im d :: rr) Q = Q (.im d) (s0 :: s1 :: s2 :: s3 :: s4 :: s5 :: s6 :: s7 :: s8 :: s9 :: s10 :: s11 :: s12 :: s13 :: s14 :: s15 :: s16 :: s17 :: s18 :: s19 :: s20 :: s21 :: s22 :: s23 :: s24 :: s25 :: s26 :: Sl.im d :: rr) := id rfl
@[simp ↓] theorem x_v27o {s0 s1 s2 s3 s4 s5 s6 s7 s8 s9 s10 s11 s12 s13 s14 s15 s16 s17 s18 s19 s20 s21 s22 s23 s24 s25 s26 : Sl} {rr : List Sl} {ds : List D} : wV 27 (s0 :: s1 :: s2 :: s3 :: s4 :: s5 :: s6 :: s7 :: s8 :: s9 :: s10 :: s11 :: s12 :: s13 :: s14 :: s15 :: s16 :: s17 :: s18 :: s19 :: s20 :: s21 :: s22 :: s23 :: s24 :: s25 :: s26 :: Sl.ow ds :: rr) Q = Q (.im (.list ds)) (s0 :: s1 :: s2 :: s3 :: s4 :: s5 :: s6 :: s7 :: s8 :: s9 :: s10 :: s11 :: s12 :: s13 :: s14 :: s15 :: s16 :: s17 :: s18 :: s19 :: s20 :: s21 :: s22 :: s23 :: s24 :: s25 :: s26 :: Sl.im (.list ds) :: rr) := id rfl
@[simp ↓] theorem x_v27s {s0 s1 s2 s3 s4 s5 s6 s7 s8 s9 s10 s11 s12 s13 s14 s15 s16 s17 s18 s19 s20 s21 s22 s23 s24 s25 s26 : Sl} {rr : List Sl} : wV 27 (s0 :: s1 :: s2 :: s3 :: s4 :: s5 :: s6 :: s7 :: s8 :: s9 :: s10 :: s11 :: s12 :: s13 :: s14 :: s15 :: s16 :: s17 :: s18 :: s19 :: s20 :: s21 :: s22 :: s23 :: s24 :: s25 :: s26 :: Sl.src :: rr) Q = Q .src (s0 :: s1 :: s2 :: s3 :: s4 :: s5 :: s6 :: s7 :: s8 :: s9 :: s10 :: s11 :: s12 :: s13 :: s14 :: s15 :: s16 :: s17 :: s18 :: s19 :: s20 :: s21 :: s22 :: s23 :: s24 :: s25 :: s26 :: Sl.src :: rr) := id rfl
@[simp ↓] theorem x_p27 {s0 s1 s2 s3 s4 s5 s6 s7 s8 s9 s10 s11 s12 s13 s14 s15 s16 s17 s18 s19 s20 s21 s22 s23 s24 s25 s26 : Sl} {rr : List Sl} {d : D} : wP 27 (s0 :: s1 :: s2 :: s3 :: s4 :: s5 :: s6 :: s7 :: s8 :: s9 :: s10 :: s11 :: s12 :: s13 :: s14 :: s15 :: s16 :: s17 :: s18 :: s19 :: s20 :: s21 :: s22 :: s23 :: s24 :: s25 :: s26 :: Sl.im d :: rr) Q = Q (.im d) (s0 :: s1 :: s2 :: s3 :: s4 :: s5 :: s6 :: s7 :: s8 :: s9 :: s10 :: s11 :: s12 :: s13 :: s14 :: s15 :: s16 :: s17 :: s18 :: s19 :: s20 :: s21 :: s22 :: s23 :: s24 :: s25 :: s26 :: Sl.im d :: rr) := id rfl
@[simp ↓] theorem x_p27o {s0 s1 s2 s3 s4 s5 s6 s7 s8 s9 s10 s11 s12 s13 s14 s15 s16 s17 s18 s19 s20 s21 s22 s23 s24 s25 s26 : Sl} {rr : List Sl} {ds : List D} : wP 27 (s0 :: s1 :: s2 :: s3 :: s4 :: s5 :: s6 :: s7 :: s8 :: s9 :: s10 :: s11 :: s12 :: s13 :: s14 :: s15 :: s16 :: s17 :: s18 :: s19 :: s20 :: s21 :: s22 :: s23 :: s24 :: s25 :: s26 :: Sl.ow ds :: rr) Q = Q (.pk ds) (s0 :: s1 :: s2 :: s3 :: s4 :: s5 :: s6 :: s7 :: s8 :: s9 :: s10 :: s11 :: s12 :: s13 :: s14 :: s15 :: s16 :: s17 :: s18 :: s19 :: s20 :: s21 :: s22 :: s23 :: s24 :: s25 :: s26 :: Sl.ow ds :: rr) := id rfl
@[simp ↓] theorem x_p27s {s0 s1 s2 s3 s4 s5 s6 s7 s8 s9 s10 s11 s12 s13 s14 s15 s16 s17 s18 s19 s20 s21 s22 s23 s24 s25 s26 : Sl} {rr : List Sl} : wP 27 (s0 :: s1 :: s2 :: s3 :: s4 :: s5 :: s6 :: s7 :: s8 :: s9 :: s10 :: s11 :: s12 :: s13 :: s14 :: s15 :: s16 :: s17 :: s18 :: s19 :: s20 :: s21 :: s22 :: s23 :: s24 :: s25 :: s26 :: Sl.src :: rr) Q = Q .src (s0 :: s1 :: s2 :: s3 :: s4 :: s5 :: s6 :: s7 :: s8 :: s9 :: s10 :: s11 :: s12 :: s13 :: s14 :: s15 :: s16 :: s17 :: s18 :: s19 :: s20 :: s21 :: s22 :: s23 :: s24 :: s25 :: s26 :: Sl.src :: rr) := id rfl
@[simp ↓] theorem x_owA27 {s0 s1 s2 s3 s4 s5 s6 s7 s8 s9 s10 s11 s12 s13 s14 s15 s16 s17 s18 s19 s20 s21 s22 s23 s24 s25 s26 : Sl} {rr : List Sl} {ds : List D} : owAt 27 (s0 :: s1 :: s2 :: s3 :: s4 :: s5 :: s6 :: s7 :: s8 :: s9 :: s10 :: s11 :: s12 :: s13 :: s14 :: s15 :: s16 :: s17 :: s18 :: s19 :: s20 :: s21 :: s22 :: s23 :: s24 :: s25 :: s26 :: Sl.ow ds :: rr) = True := eq_true ⟨ds, rfl⟩
@[simp ↓] theorem x_setK27 {s0 s1 s2 s3 s4 s5 s6 s7 s8 s9 s10 s11 s12 s13 s14 s15 s16 s17 s18 s19 s20 s21 s22 s23 s24 s25 s26 : Sl} {rr : List Sl} {ds : List D} {d : D} {k : Int} : setK 27 D0 d k (s0 :: s1 :: s2 :: s3 :: s4 :: s5 :: s6 :: s7 :: s8 :: s9 :: s10 :: s11 :: s12 :: s13 :: s14 :: s15 :: s16 :: s17 :: s18 :: s19 :: s20 :: s21 :: s22 :: s23 :: s24 :: s25 :: s26 :: Sl.ow ds :: rr) = got (ixN ds.length k) fun j => D0.nx (s0 :: s1 :: s2 :: s3 :: s4 :: s5 :: s6 :: s7 :: s8 :: s9 :: s10 :: s11 :: s12 :: s13 :: s14 :: s15 :: s16 :: s17 :: s18 :: s19 :: s20 :: s21 :: s22 :: s23 :: s24 :: s25 :: s26 :: Sl.ow (ds.set j d) :: rr) := id rfl
@[simp ↓] theorem x_appK27 {s0 s1 s2 s3 s4 s5 s6 s7 s8 s9 s10 s11 s12 s13 s14 s15 s16 s17 s18 s19 s20 s21 s22 s23 s24 s25 s26 : Sl} {rr : List Sl} {ds : List D} {d : D} : appK 27 D0 d (s0 :: s1 :: s2 :: s3 :: s4 :: s5 :: s6 :: s7 :: s8 :: s9 :: s10 :: s11 :: s12 :: s13 :: s14 :: s15 :: s16 :: s17 :: s18 :: s19 :: s20 :: s21 :: s22 :: s23 :: s24 :: s25 :: s26 :: Sl.ow ds :: rr) = (ds.length ≤ 100000 ∧ D0.nx (s0 :: s1 :: s2 :: s3 :: s4 :: s5 :: s6 :: s7 :: s8 :: s9 :: s10 :: s11 :: s12 :: s13 :: s14 :: s15 :: s16 :: s17 :: s18 :: s19 :: s20 :: s21 :: s22 :: s23 :: s24 :: s25 :: s26 :: Sl.ow (ds ++ [d]) :: rr)) := id rfl
@[simp ↓] theorem x_pop27 {s0 s1 s2 s3 s4 s5 s6 s7 s8 s9 s10 s11 s12 s13 s14 s15 s16 s17 s18 s19 s20 s21 s22 s23 s24 s25 s26 : Sl} {rr : List Sl} {ds : List D} : wPop 27 D0 (s0 :: s1 :: s2 :: s3 :: s4 :: s5 :: s6 :: s7 :: s8 :: s9 :: s10 :: s11 :: s12 :: s13 :: s14 :: s15 :: s16 :: s17 :: s18 :: s19 :: s20 :: s21 :: s22 :: s23 :: s24 :: s25 :: s26 :: Sl.ow ds :: rr) = (ds ≠ [] ∧ D0.nx (s0 :: s1 :: s2 :: s3 :: s4 :: s5 :: s6 :: s7 :: s8 :: s9 :: s10 :: s11 :: s12 :: s13 :: s14 :: s15 :: s16 :: s17 :: s18 :: s19 :: s20 :: s21 :: s22 :: s23 :: s24 :: s25 :: s26 :: Sl.ow ds.dropLast :: rr)) := id rfl
@[simp ↓] theorem x_v28 {s0 s1 s2 s3 s4 s5 s6 s7 s8 s9 s10 s11 s12 s13 s14 s15 s16 s17 s18 s19 s20 s21 s22 s23 s24 s25 s26 s27 : Sl} {rr : List Sl} {d : D} : wV 28 (s0 :: s1 :: s2 :: s3 :: s4 :: s5 :: s6 :: s7 :: s8 :: s9 :: s10 :: s11 :: s12 :: s13 :: s14 :: s15 :: s16 :: s17 :: s18 :: s19 :: s20 :: s21 :: s22 :: s23 :: s24 :: s25 :: s26 :: s27 :: Sl.im d :: rr) Q = Q (.im d) (s0 :: s1 :: s2 :: s3 :: s4 :: s5 :: s6 :: s7 :: s8 :: s9 :: s10 :: s11 :: s12 :: s13 :: s14 :: s15 :: s16 :: s17 :: s18 :: s19 :: s20 :: s21 :: s22 :: s23 :: s24 :: s25 :: s26 :: s27 :: Sl.im d :: rr) := id rfl
@[simp ↓] theorem x_v28o {s0 s1 s2 s3 s4 s5 s6 s7 s8 s9 s10 s11 s12 s13 s14 s15 s16 s17 s18 s19 s20 s21 s22 s23 s24 s25 s26 s27 : Sl} {rr : List Sl} {ds : List D} : wV 28 (s0 :: s1 :: s2 :: s3 :: s4 :: s5 :: s6 :: s7 :: s8 :: s9 :: s10 :: s11 :: s12 :: s13 :: s14 :: s15 :: s16 :: s17 :: s18 :: s19 :: s20 :: s21 :: s22 :: s23 :: s24 :: s25 :: s26 :: s27 :: Sl.ow ds :: rr) Q = Q (.im (.list ds)) (s0 :: s1 :: s2 :: s3 :: s4 :: s5 :: s6 :: s7 :: s8 :: s9 :: s10 :: s11 :: s12 :: s13 :: s14 :: s15 :: s16 :: s17 :: s18 :: s19 :: s20 :: s21 :: s22 :: s23 :: s24 :: s25 :: s26 :: s27 :: Sl.im (.list ds) :: rr) := id rfl
@[simp ↓] theorem x_v28s {s0 s1 s2 s3 s4 s5 s6 s7 s8 s9 s10 s11 s12 s13 s14 s15 s16 s17 s18 s19 s20 s21 s22 s23 s24 s25 s26 s27 : Sl} {rr : List Sl} : wV 28 (s0 :: s1 :: s2 :: s3 :: s4 :: s5 :: s6 :: s7 :: s8 :: s9 :: s10 :: s11 :: s12 :: s13 :: s14 :: s15 :: s16 :: s17 :: s18 :: s19 :: s20 :: s21 :: s22 :: s23 :: s24 :: s25 :: s26 :: s27 :: Sl.src :: rr) Q = Q .src (s0 :: s1 :: s2 :: s3 :: s4 :: s5 :: s6 :: s7 :: s8 :: s9 :: s10 :: s11 :: s12 :: s13 :: s14 :: s15 :: s16 :: s17 :: s18 :: s19 :: s20 :: s21 :: s22 :: s23 :: s24 :: s25 :: s26 :: s27 :: Sl.src :: rr) := id rfl
@[simp ↓] theorem x_p28 {s0 s1 s2 s3 s4 s5 s6 s7 s8 s9 s10 s11 s12 s13 s14 s15 s16 s17 s18 s19 s20 s21 s22 s23 s24 s25 s26 s27 : Sl} {rr : List Sl} {d : D} : wP 28 (s0 :: s1 :: s2 :: s3 :: s4 :: s5 :: s6 :: s7 :: s8 :: s9 :: s10 :: s11 :: s12 :: s13 :: s14 :: s15 :: s16 :: s17 :: s18 :: s19 :: s20 :: s21 :: s22 :: s23 :: s24 :: s25 :: s26 :: s27 :: Sl.im d :: rr) Q = Q (.im d) (s0 :: s1 :: s2 :: s3 :: s4 :: s5 :: s6 :: s7 :: s8 :: s9 :: s10 :: s11 :: s12 :: s13 :: s14 :: s15 :: s16 :: s17 :: s18 :: s19 :: s20 :: s21 :: s22 :: s23 :: s24 :: s25 :: s26 :: s27 :: Sl.im d :: rr) := id rfl
@[simp ↓] theorem x_p28o {s0 s1 s2 s3 s4 s5 s6 s7 s8 s9 s10 s11 s12 s13 s14 s15 s16 s17 s18 s19 s20 s21 s22 s23 s24 s25 s26 s27 : Sl} {rr : List Sl} {ds : List D} : wP 28 (s0 :: s1 :: s2 :: s3 :: s4 :: s5 :: s6 :: s7 :: s8 :: s9 :: s10 :: s11 :: s12 :: s13 :: s14 :: s15 :: s16 :: s17 :: s18 :: s19 :: s20 :: s21 :: s22 :: s23 :: s24 :: s25 :: s26 :: s27 :: Sl.ow ds :: rr) Q = Q (.pk ds) (s0 :: s1 :: s2 :: s3 :: s4 :: s5 :: s6 :: s7 :: s8 :: s9 :: s10 :: s11 :: s12 :: s13 :: s14 :: s15 :: s16 :: s17 :: s18 :: s19 :: s20 :: s21 :: s22 :: s23 :: s24 :: s25 :: s26 :: s27 :: Sl.ow ds :: rr) := id rfl
@[simp ↓] theorem x_p28s {s0 s1 s2 s3 s4 s5 s6 s7 s8 s9 s10 s11 s12 s13 s14 s15 s16 s17 s18 s19 s20 s21 s22 s23 s24 s25 s26 s27 : Sl} {rr : List Sl} : wP 28 (s0 :: s1 :: s2 :: s3 :: s4 :: s5 :: s6 :: s7 :: s8 :: s9 :: s10 :: s11 :: s12 :: s13 :: s14 :: s15 :: s16 :: s17 :: s18 :: s19 :: s20 :: s21 :: s22 :: s23 :: s24 :: s25 :: s26 :: s27 :: Sl.src :: rr) Q = Q .src (s0 :: s1 :: s2 :: s3 :: s4 :: s5 :: s6 :: s7 :: s8 :: s9 :: s10 :: s11 :: s12 :: s13 :: s14 :: s15 :: s16 :: s17 :: s18 :: s19 :: s20 :: s21 :: s22 :: s23 :: s24 :: s25 :: s26 :: s27 :: Sl.src :: rr) := id rfl
@[simp ↓] theorem x_owA28 {s0 s1 s2 s3 s4 s5 s6 s7 s8 s9 s10 s11 s12 s13 s14 s15 s16 s17 s18 s19 s20 s21 s22 s23 s24 s25 s26 s27 : Sl} {rr : List Sl} {ds : List D} : owAt 28 (s0 :: s1 :: s2 :: s3 :: s4 :: s5 :: s6 :: s7 :: s8 :: s9 :: s10 :: s11 :: s12 :: s13 :: s14 :: s15 :: s16 :: s17 :: s18 :: s19 :: s20 :: s21 :: s22 :: s23 :: s24 :: s25 :: s26 :: s27 :: Sl.ow ds :: rr) = True := eq_true ⟨ds, rfl⟩
@[simp ↓] theorem x_setK28 {s0 s1 s2 s3 s4 s5 s6 s7 s8 s9 s10 s11 s12 s13 s14 s15 s16 s17 s18 s19 s20 s21 s22 s23 s24 s25 s26 s27 : Sl} {rr : List Sl} {ds : List D} {d : D} {k : Int} : setK 28 D0 d k (s0 :: s1 :: s2 :: s3 :: s4 :: s5 :: s6 :: s7 :: s8 :: s9 :: s10 :: s11 :: s12 :: s13 :: s14 :: s15 :: s16 :: s17 :: s18 :: s19 :: s20 :: s21 :: s22 :: s23 :: s24 :: s25 :: s26 :: s27 :: Sl.ow ds :: rr) = got (ixN ds.length k) fun j => D0.nx (s0 :: s1 :: s2 :: s3 :: s4 :: s5 :: s6 :: s7 :: s8 :: s9 :: s10 :: s11 :: s12 :: s13 :: s14 :: s15 :: s16 :: s17 :: s18 :: s19 :: s20 :: s21 :: s22 :: s23 :: s24 :: s25 :: s26 :: s27 :: Sl.ow (ds.set j d) :: rr) := id rfl
@[simp ↓] theorem x_appK28 {s0 s1 s2 s3 s4 s5 s6 s7 s8 s9 s10 s11 s12 s13 s14 s15 s16 s17 s18 s19 s20 s21 s22 s23 s24 s25 s26 s27 : Sl} {rr : List Sl} {ds : List D} {d : D} : appK 28 D0 d (s0 :: s1 :: s2 :: s3 :: s4 :: s5 :: s6 :: s7 :: s8 :: s9 :: s10 :: s11 :: s12 :: s13 :: s14 :: s15 :: s16 :: s17 :: s18 :: s19 :: s20 :: s21 :: s22 :: s23 :: s24 :: s25 :: s26 :: s27 :: Sl.ow ds :: rr) = (ds.length ≤ 100000 ∧ D0.nx (s0 :: s1 :: s2 :: s3 :: s4 :: s5 :: s6 :: s7 :: s8 :: s9 :: s10 :: s11 :: s12 :: s13 :: s14 :: s15 :: s16 :: s17 :: s18 :: s19 :: s20 :: s21 :: s22 :: s23 :: s24 :: s25 :: s26 :: s27 :: Sl.ow (ds ++ [d]) :: rr)) := id rfl
@[simp ↓] theorem x_pop28 {s0 s1 s2 s3 s4 s5 s6 s7 s8 s9 s10 s11 s12 s13 s14 s15 s16 s17 s18 s19 s20 s21 s22 s23 s24 s25 s26 s27 : Sl} {rr : List Sl} {ds : List D} : wPop 28 D0 (s0 :: s1 :: s2 :: s3 :: s4 :: s5 :: s6 :: s7 :: s8 :: s9 :: s10 :: s11 :: s12 :: s13 :: s14 :: s15 :: s16 :: s17 :: s18 :: s19 :: s20 :: s21 :: s22 :: s23 :: s24 :: s25 :: s26 :: s27 :: Sl.ow ds :: rr) = (ds ≠ [] ∧ D0.nx (s0 :: s1 :: s2 :: s3 :: s4 :: s5 :: s6 :: s7 :: s8 :: s9 :: s10 :: s11 :: s12 :: s13 :: s14 :: s15 :: s16 :: s17 :: s18 :: s19 :: s20 :: s21 :: s22 :: s23 :: s24 :: s25 :: s26 :: s27 :: Sl.ow ds.dropLast :: rr)) := id rfl
@[simp ↓] theorem x_v29 {s0 s1 s2 s3 s4 s5 s6 s7 s8 s9 s10 s11 s12 s13 s14 s15 s16 s17 s18 s19 s20 s21 s22 s23 s24 s25 s26 s27 s28 : Sl} {rr : List Sl} {d : D} : wV 29 (s0 :: s1 :: s2 :: s3 :: s4 :: s5 :: s6 :: s7 :: s8 :: s9 :: s10 :: s11 :: s12 :: s13 :: s14 :: s15 :: s16 :: s17 :: s18 :: s19 :: s20 :: s21 :: s22 :: s23 :: s24 :: s25 :: s26 :: s27 :: s28 :: Sl.im d :: rr) Q = Q (.im d) (s0 :: s1 :: s2 :: s3 :: s4 :: s5 :: s6 :: s7 :: s8 :: s9 :: s10 :: s11 :: s12 :: s13 :: s14 :: s15 :: s16 :: s17 :: s18 :: s19 :: s20 :: s21 :: s22 :: s23 :: s24 :: s25 :: s26 :: s27 :: s28 :: Sl.im d :: rr) := id rfl
@[simp ↓] theorem x_v29o {s0 s1 s2 s3 s4 s5 s6 s7 s8 s9 s10 s11 s12 s13 s14 s15 s16 s17 s18 s19 s20 s21 s22 s23 s24 s25 s26 s27 s28 : Sl} {rr : List Sl} {ds : List D} : wV 29 (s0 :: s1 :: s2 :: s3 :: s4 :: s5 :: s6 :: s7 :: s8 :: s9 :: s10 :: s11 :: s12 :: s13 :: s14 :: s15 :: s16 :: s17 :: s18 :: s19 :: s20 :: s21 :: s22 :: s23 :: s24 :: s25 :: s26 :: s27 :: s28 :: Sl.ow ds :: rr) Q = Q (.im (.list ds)) (s0 :: s1 :: s2 :: s3 :: s4 :: s5 :: s6 :: s7 :: s8 :: s9 :: s10 :: s11 :: s12 :: s13 :: s14 :: s15 :: s16 :: s17 :: s18 :: s19 :: s20 :: s21 :: s22 :: s23 :: s24 :: s25 :: s26 :: s27 :: s28 :: Sl.im (.list ds) :: rr) := id rfl
@[simp ↓] theorem x_v29s {s0 s1 s2 s3 s4 s5 s6 s7 s8 s9 s10 s11 s12 s13 s14 s15 s16 s17 s18 s19 s20 s21 s22 s23 s24 s25 s26 s27 s28 : Sl} {rr : List Sl} : wV 29 (s0 :: s1 :: s2 :: s3 :: s4 :: s5 :: s6 :: s7 :: s8 :: s9 :: s10 :: s11 :: s12 :: s13 :: s14 :: s15 :: s16 :: s17 :: s18 :: s19 :: s20 :: s21 :: s22 :: s23 :: s24 :: s25 :: s26 :: s27 :: s28 :: Sl.src :: rr) Q = Q .src (s0 :: s1 :: s2 :: s3 :: s4 :: s5 :: s6 :: s7 :: s8 :: s9 :: s10 :: s11 :: s12 :: s13 :: s14 :: s15 :: s16 :: s17 :: s18 :: s19 :: s20 :: s21 :: s22 :: s23 :: s24 :: s25 :: s26 :: s27 :: s28 :: Sl.src :: rr) := id rfl
@[simp ↓] theorem x_p29 {s0 s1 s2 s3 s4 s5 s6 s7 s8 s9 s10 s11 s12 s13 s14 s15 s16 s17 s18 s19 s20 s21 s22 s23 s24 s25 s26 s27 s28 : Sl} {rr : List Sl} {d : D} : wP 29 (s0 :: s1 :: s2 :: s3 :: s4 :: s5 :: s6 :: s7 :: s8 :: s9 :: s10 :: s11 :: s12 :: s13 :: s14 :: s15 :: s16 :: s17 :: s18 :: s19 :: s20 :: s21 :: s22 :: s23 :: s24 :: s25 :: s26 :: s27 :: s28 :: Sl.im d :: rr) Q = Q (.im d) (s0 :: s1 :: s2 :: s3 :: s4 :: s5 :: s6 :: s7 :: s8 :: s9 :: s10 :: s11 :: s12 :: s13 :: s14 :: s15 :: s16 :: s17 :: s18 :: s19 :: s20 :: s21 :: s22 :: s23 :: s24 :: s25 :: s26 :: s27 :: s28 :: Sl.im d :: rr) := id rfl
@[simp ↓] theorem x_p29o {s0 s1 s2 s3 s4 s5 s6 s7 s8 s9 s10 s11 s12 s13 s14 s15 s16 s17 s18 s19 s20 s21 s22 s23 s24 s25 s26 s27 s28 : Sl} {rr : List Sl} {ds : List D} : wP 29 (s0 :: s1 :: s2 :: s3 :: s4 :: s5 :: s6 :: s7 :: s8 :: s9 :: s10 :: s11 :: s12 :: s13 :: s14 :: s15 :: s16 :: s17 :: s18 :: s19 :: s20 :: s21 :: s22 :: s23 :: s24 :: s25 :: s26 :: s27 :: s28 :: Sl.ow ds :: rr) Q = Q (.pk ds) (s0 :: s1 :: s2 :: s3 :: s4 :: s5 :: s6 :: s7 :: s8 :: s9 :: s10 :: s11 :: s12 :: s13 :: s14 :: s15 :: s16 :: s17 :: s18 :: s19 :: s20 :: s21 :: s22 :: s23 :: s24 :: s25 :: s26 :: s27 :: s28 :: Sl.ow ds :: rr) := id rfl
@[simp ↓] theorem x_p29s {s0 s1 s2 s3 s4 s5 s6 s7 s8 s9 s10 s11 s12 s13 s14 s15 s16 s17 s18 s19 s20 s21 s22 s23 s24 s25 s26 s27 s28 : Sl} {rr : List Sl} : wP 29 (s0 :: s1 :: s2 :: s3 :: s4 :: s5 :: s6 :: s7 :: s8 :: s9 :: s10 :: s11 :: s12 :: s13 :: s14 :: s15 :: s16 :: s17 :: s18 :: s19 :: s20 :: s21 :: s22 :: s23 :: s24 :: s25 :: s26 :: s27 :: s28 :: Sl.src :: rr) Q = Q .src (s0 :: s1 :: s2 :: s3 :: s4 :: s5 :: s6 :: s7 :: s8 :: s9 :: s10 :: s11 :: s12 :: s13 :: s14 :: s15 :: s16 :: s17 :: s18 :: s19 :: s20 :: s21 :: s22 :: s23 :: s24 :: s25 :: s26 :: s27 :: s28 :: Sl.src :: rr) := id rfl
@[simp ↓] theorem x_owA29 {s0 s1 s2 s3 s4 s5 s6 s7 s8 s9 s10 s11 s12 s13 s14 s15 s16 s17 s18 s19 s20 s21 s22 s23 s24 s25 s26 s27 s28 : Sl} {rr : List Sl} {ds : List D} : owAt 29 (s0 :: s1 :: s2 :: s3 :: s4 :: s5 :: s6 :: s7 :: s8 :: s9 :: s10 :: s11 :: s12 :: s13 :: s14 :: s15 :: s16 :: s17 :: s18 :: s19 :: s20 :: s21 :: s22 :: s23 :: s24 :: s25 :: s26 :: s27 :: s28 :: Sl.ow ds :: rr) = True := eq_true ⟨ds, rfl⟩
@[simp ↓] theorem x_setK29 {s0 s1 s2 s3 s4 s5 s6 s7 s8 s9 s10 s11 s12 s13 s14 s15 s16 s17 s18 s19 s20 s21 s22 s23 s24 s25 s26 s27 s28 : Sl} {rr : List Sl} {ds : List D} {d : D} {k : Int} : setK 29 D0 d k (s0 :: s1 :: s2 :: s3 :: s4 :: s5 :: s6 :: s7 :: s8 :: s9 :: s10 :: s11 :: s12 :: s13 :: s14 :: s15 :: s16 :: s17 :: s18 :: s19 :: s20 :: s21 :: s22 :: s23 :: s24 :: s25 :: s26 :: s27 :: s28 :: Sl.ow ds :: rr) = got (ixN ds.length k) fun j => D0.nx (s0 :: s1 :: s2 :: s3 :: s4 :: s5 :: s6 :: s7 :: s8 :: s9 :: s10 :: s11 :: s12 :: s13 :: s14 :: s15 :: s16 :: s17 :: s18 :: s19 :: s20 :: s21 :: s22 :: s23 :: s24 :: s25 :: s26 :: s27 :: s28 :: Sl.ow (ds.set j d) :: rr) := id rfl
@[simp ↓] theorem x_appK29 {s0 s1 s2 s3 s4 s5 s6 s7 s8 s9 s10 s11 s12 s13 s14 s15 s16 s17 s18 s19 s20 s21 s22 s23 s24 s25 s26 s27 s28 : Sl} {rr : List Sl} {ds : List D} {d : D} : appK 29 D0 d (s0 :: s1 :: s2 :: s3 :: s4 :: s5 :: s6 :: s7 :: s8 :: s9 :: s10 :: s11 :: s12 :: s13 :: s14 :: s15 :: s16 :: s17 :: s18 :: s19 :: s20 :: s21 :: s22 :: s23 :: s24 :: s25 :: s26 :: s27 :: s28 :: Sl.ow ds :: rr) = (ds.length ≤ 100000 ∧ D0.nx (s0 :: s1 :: s2 :: s3 :: s4 :: s5 :: s6 :: s7 :: s8 :: s9 :: s10 :: s11 :: s12 :: s13 :: s14 :: s15 :: s16 :: s17 :: s18 :: s19 :: s20 :: s21 :: s22 :: s23 :: s24 :: s25 :: s26 :: s27 :: s28 :: Sl.ow (ds ++ [d]) :: rr)) := id rfl
@[simp ↓] theorem x_pop29 {s0 s1 s2 s3 s4 s5 s6 s7 s8 s9 s10 s11 s12 s13 s14 s15 s16 s17 s18 s19 s20 s21 s22 s23 s24 s25 s26 s27 s28 : Sl} {rr : List Sl} {ds : List D} : wPop 29 D0 (s0 :: s1 :: s2 :: s3 :: s4 :: s5 :: s6 :: s7 :: s8 :: s9 :: s10 :: s11 :: s12 :: s13 :: s14 :: s15 :: s16 :: s17 :: s18 :: s19 :: s20 :: s21 :: s22 :: s23 :: s24 :: s25 :: s26 :: s27 :: s28 :: Sl.ow ds :: rr) = (ds ≠ [] ∧ D0.nx (s0 :: s1 :: s2 :: s3 :: s4 :: s5 :: s6 :: s7 :: s8 :: s9 :: s10 :: s11 :: s12 :: s13 :: s14 :: s15 :: s16 :: s17 :: s18 :: s19 :: s20 :: s21 :: s22 :: s23 :: s24 :: s25 :: s26 :: s27 :: s28 :: Sl.ow ds.dropLast :: rr)) := id rfl
@[simp ↓] theorem x_v30 {s0 s1 s2 s3 s4 s5 s6 s7 s8 s9 s10 s11 s12 s13 s14 s15 s16 s17 s18 s19 s20 s21 s22 s23 s24 s25 s26 s27 s28 s29 : Sl} {rr : List Sl} {d : D} : wV 30 (s0 :: s1 :: s2 :: s3 :: s4 :: s5 :: s6 :: s7 :: s8 :: s9 :: s10 :: s11 :: s12 :: s13 :: s14 :: s15 :: s16 :: s17 :: s18 :: s19 :: s20 :: s21 :: s22 :: s23 :: s24 :: s25 :: s26 :: s27 :: s28 :: s29 :: Sl.im d :: rr) Q = Q (.im d) (s0 :: s1 :: s2 :: s3 :: s4 :: s5 :: s6 :: s7 :: s8 :: s9 :: s10 :: s11 :: s12 :: s13 :: s14 :: s15 :: s16 :: s17 :: s18 :: s19 :: s20 :: s21 :: s22 :: s23 :: s24 :: s25 :: s26 :: s27 :: s28 :: s29 :: Sl.im d :: rr) := id rfl
@[simp ↓] theorem x_v30o {s0 s1 s2 s3 s4 s5 s6 s7 s8 s9 s10 s11 s12 s13 s14 s15 s16 s17 s18 s19 s20 s21 s22 s23 s24 s25 s26 s27 s28 s29 : Sl} {rr : List Sl} {ds : List D} : wV 30 (s0 :: s1 :: s2 :: s3 :: s4 :: s5 :: s6 :: s7 :: s8 :: s9 :: s10 :: s11 :: s12 :: s13 :: s14 :: s15 :: s16 :: s17 :: s18 :: s19 :: s20 :: s21 :: s22 :: s23 :: s24 :: s25 :: s26 :: s27 :: s28 :: s29 :: Sl.ow ds :: rr) Q = Q (.im (.list ds)) (s0 :: s1 :: s2 :: s3 :: s4 :: s5 :: s6 :: s7 :: s8 :: s9 :: s10 :: s11 :: s12 :: s13 :: s14 :: s15 :: s16 :: s17 :: s18 :: s19 :: s20 :: s21 :: s22 :: s23 :: s24 :: s25 :: s26 :: s27 :: s28 :: s29 :: Sl.im (.list ds) :: rr) := id rfl
@[simp ↓] theorem x_v30s {s0 s1 s2 s3 s4 s5 s6 s7 s8 s9 s10 s11 s12 s13 s14 s15 s16 s17 s18 s19 s20 s21 s22 s23 s24 s25 s26 s27 s28 s29 : Sl} {rr : List Sl} : wV 30 (s0 :: s1 :: s2 :: s3 :: s4 :: s5 :: s6 :: s7 :: s8 :: s9 :: s10 :: s11 :: s12 :: s13 :: s14 :: s15 :: s16 :: s17 :: s18 :: s19 :: s20 :: s21 :: s22 :: s23 :: s24 :: s25 :: s26 :: s27 :: s28 :: s29 :: Sl.src :: rr) Q = Q .src (s0 :: s1 :: s2 :: s3 :: s4 :: s5 :: s6 :: s7 :: s8 :: s9 :: s10 :: s11 :: s12 :: s13 :: s14 :: s15 :: s16 :: s17 :: s18 :: s19 :: s20 :: s21 :: s22 :: s23 :: s24 :: s25 :: s26 :: s27 :: s28 :: s29 :: Sl.src :: rr) := id rfl
@[simp ↓] theorem x_p30 {s0 s1 s2 s3 s4 s5 s6 s7 s8 s9 s10 s11 s12 s13 s14 s15 s16 s17 s18 s19 s20 s21 s22 s23 s24 s25 s26 s27 s28 s29 : Sl} {rr : List Sl} {d : D} : wP 30 (s0 :: s1 :: s2 :: s3 :: s4 :: s5 :: s6 :: s7 :: s8 :: s9 :: s10 :: s11 :: s12 :: s13 :: s14 :: s15 :: s16 :: s17 :: s18 :: s19 :: s20 :: s21 :: s22 :: s23 :: s24 :: s25 :: s26 :: s27 :: s28 :: s29 :: Sl.im d :: rr) Q = Q (.im d) (s0 :: s1 :: s2 :: s3 :: s4 :: s5 :: s6 :: s7 :: s8 :: s9 :: s10 :: s11 :: s12 :: s13 :: s14 :: s15 :: s16 :: s17 :: s18 :: s19 :: s20 :: s21 :: s22 :: s23 :: s24 :: s25 :: s26 :: s27 :: s28 :: s29 :: Sl.im d :: rr) := id rfl
@[simp ↓] theorem x_p30o {s0 s1 s2 s3 s4 s5 s6 s7 s8 s9 s10 s11 s12 s13 s14 s15 s16 s17 s18 s19 s20 s21 s22 s23 s24 s25 s26 s27 s28 s29 : Sl} {rr : List Sl} {ds : List D} : wP 30 (s0 :: s1 :: s2 :: s3 :: s4 :: s5 :: s6 :: s7 :: s8 :: s9 :: s10 :: s11 :: s12 :: s13 :: s14 :: s15 :: s16 :: s17 :: s18 :: s19 :: s20 :: s21 :: s22 :: s23 :: s24 :: s25 :: s26 :: s27 :: s28 :: s29 :: Sl.ow ds :: rr) Q = Q (.pk ds) (s0 :: s1 :: s2 :: s3 :: s4 :: s5 :: s6 :: s7 :: s8 :: s9 :: s10 :: s11 :: s12 :: s13 :: s14 :: s15 :: s16 :: s17 :: s18 :: s19 :: s20 :: s21 :: s22 :: s23 :: s24 :: s25 :: s26 :: s27 :: s28 :: s29 :: Sl.ow ds :: rr) := id rfl
@[simp ↓] theorem x_p30s {s0 s1 s2 s3 s4 s5 s6 s7 s8 s9 s10 s11 s12 s13 s14 s15 s16 s17 s18 s19 s20 s21 s22 s23 s24 s25 s26 s27 s28 s29 : Sl} {rr : List Sl} : wP 30 (s0 :: s1 :: s2 :: s3 :: s4 :: s5 :: s6 :: s7 :: s8 :: s9 :: s10 :: s11 :: s12 :: s13 :: s14 :: s15 :: s16 :: s17 :: s18 :: s19 :: s20 :: s21 :: s22 :: s23 :: s24 :: s25 :: s26 :: s27 :: s28 :: s29 :: Sl.src :: rr) Q = Q .src (s0 :: s1 :: s2 :: s3 :: s4 :: s5 :: s6 :: s7 :: s8 :: s9 :: s10 :: s11 :: s12 :: s13 :: s14 :: s15 :: s16 :: s17 :: s18 :: s19 :: s20 :: s21 :: s22 :: s23 :: s24 :: s25 :: s26 :: s27 :: s28 :: s29 :: Sl.src :: rr) := id rfl
@[simp ↓] theorem x_owA30 {s0 s1 s2 s3 s4 s5 s6 s7 s8 s9 s10 s11 s12 s13 s14 s15 s16 s17 s18 s19 s20 s21 s22 s23 s24 s25 s26 s27 s28 s29 : Sl} {rr : List Sl} {ds : List D} : owAt 30 (s0 :: s1 :: s2 :: s3 :: s4 :: s5 :: s6 :: s7 :: s8 :: s9 :: s10 :: s11 :: s12 :: s13 :: s14 :: s15 :: s16 :: s17 :: s18 :: s19 :: s20 :: s21 :: s22 :: s23 :: s24 :: s25 :: s26 :: s27 :: s28 :: s29 :: Sl.ow ds :: rr) = True := eq_true ⟨ds, rfl⟩
@[simp ↓] theorem x_setK30 {s0 s1 s2 s3 s4 s5 s6 s7 s8 s9 s10 s11 s12 s13 s14 s15 s16 s17 s18 s19 s20 s21 s22 s23 s24 s25 s26 s27 s28 s29 : Sl} {rr : List Sl} {ds : List D} {d : D} {k : Int} : setK 30 D0 d k (s0 :: s1 :: s2 :: s3 :: s4 :: s5 :: s6 :: s7 :: s8 :: s9 :: s10 :: s11 :: s12 :: s13 :: s14 :: s15 :: s16 :: s17 :: s18 :: s19 :: s20 :: s21 :: s22 :: s23 :: s24 :: s25 :: s26 :: s27 :: s28 :: s29 :: Sl.ow ds :: rr) = got (ixN ds.length k) fun j => D0.nx (s0 :: s1 :: s2 :: s3 :: s4 :: s5 :: s6 :: s7 :: s8 :: s9 :: s10 :: s11 :: s12 :: s13 :: s14 :: s15 :: s16 :: s17 :: s18 :: s19 :: s20 :: s21 :: s22 :: s23 :: s24 :: s25 :: s26 :: s27 :: s28 :: s29 :: Sl.ow (ds.set j d) :: rr) := id rfl
@[simp ↓] theorem x_appK30 {s0 s1 s2 s3 s4 s5 s6 s7 s8 s9 s10 s11 s12 s13 s14 s15 s16 s17 s18 s19 s20 s21 s22 s23 s24 s25 s26 s27 s28 s29 : Sl} {rr : List Sl} {ds : List D} {d : D} : appK 30 D0 d (s0 :: s1 :: s2 :: s3 :: s4 :: s5 :: s6 :: s7 :: s8 :: s9 :: s10 :: s11 :: s12 :: s13 :: s14 :: s15 :: s16 :: s17 :: s18 :: s19 :: s20 :: s21 :: s22 :: s23 :: s24 :: s25 :: s26 :: s27 :: s28 :: s29 :: Sl.ow ds :: rr) = (ds.length ≤ 100000 ∧ D0.nx (s0 :: s1 :: s2 :: s3 :: s4 :: s5 :: s6 :: s7 :: s8 :: s9 :: s10 :: s11 :: s12 :: s13 :: s14 :: s15 :: s16 :: s17 :: s18 :: s19 :: s20 :: s21 :: s22 :: s23 :: s24 :: s25 :: s26 :: s27 :: s28 :: s29 :: Sl.ow (ds ++ [d]) :: rr)) := id rfl
@[simp ↓] theorem x_pop30 {s0 s1 s2 s3 s4 s5 s6 s7 s8 s9 s10 s11 s12 s13 s14 s15 s16 s17 s18 s19 s20 s21 s22 s23 s24 s25 s26 s27 s28 s29 : Sl} {rr : List Sl} {ds : List D} : wPop 30 D0 (s0 :: s1 :: s2 :: s3 :: s4 :: s5 :: s6 :: s7 :: s8 :: s9 :: s10 :: s11 :: s12 :: s13 :: s14 :: s15 :: s16 :: s17 :: s18 :: s19 :: s20 :: s21 :: s22 :: s23 :: s24 :: s25 :: s26 :: s27 :: s28 :: s29 :: Sl.ow ds :: rr) = (ds ≠ [] ∧ D0.nx (s0 :: s1 :: s2 :: s3 :: s4 :: s5 :: s6 :: s7 :: s8 :: s9 :: s10 :: s11 :: s12 :: s13 :: s14 :: s15 :: s16 :: s17 :: s18 :: s19 :: s20 :: s21 :: s22 :: s23 :: s24 :: s25 :: s26 :: s27 :: s28 :: s29 :: Sl.ow ds.dropLast :: rr)) := id rfl
@[simp ↓] theorem x_v31 {s0 s1 s2 s3 s4 s5 s6 s7 s8 s9 s10 s11 s12 s13 s14 s15 s16 s17 s18 s19 s20 s21 s22 s23 s24 s25 s26 s27 s28 s29 s30 : Sl} {rr : List Sl} {d : D} : wV 31 (s0 :: s1 :: s2 :: s3 :: s4 :: s5 :: s6 :: s7 :: s8 :: s9 :: s10 :: s11 :: s12 :: s13 :: s14 :: s15 :: s16 :: s17 :: s18 :: s19 :: s20 :: s21 :: s22 :: s23 :: s24 :: s25 :: s26 :: s27 :: s28 :: s29 :: s30 :: Sl.im d :: rr) Q = Q (.im d) (s0 :: s1 :: s2 :: s3 :: s4 :: s5 :: s6 :: s7 :: s8 :: s9 :: s10 :: s11 :: s12 :: s13 :: s14 :: s15 :: s16 :: s17 :: s18 :: s19 :: s20 :: s21 :: s22 :: s23 :: s24 :: s25 :: s26 :: s27 :: s28 :: s29 :: s30 :: Sl.im d :: rr) := id rfl
@[simp ↓] theorem x_v31o {s0 s1 s2 s3 s4 s5 s6 s7 s8 s9 s10 s11 s12 s13 s14 s15 s16 s17 s18 s19 s20 s21 s22 s23 s24 s25 s26 s27 s28 s29 s30 : Sl} {rr : List Sl} {ds : List D} : wV 31 (s0 :: s1 :: s2 :: s3 :: s4 :: s5 :: s6 :: s7 :: s8 :: s9 :: s10 :: s11 :: s12 :: s13 :: s14 :: s15 :: s16 :: s17 :: s18 :: s19 :: s20 :: s21 :: s22 :: s23 :: s24 :: s25 :: s26 :: s27 :: s28 :: s29 :: s30 :: Sl.ow ds :: rr) Q = Q (.im (.list ds)) (s0 :: s1 :: s2 :: s3 :: s4 :: s5 :: s6 :: s7 :: s8 :: s9 :: s10 :: s11 :: s12 :: s13 :: s14 :: s15 :: s16 :: s17 :: s18 :: s19 :: s20 :: s21 :: s22 :: s23 :: s24 :: s25 :: s26 :: s27 :: s28 :: s29 :: s30 :: Sl.im (.list ds) :: rr) := id rfl
@[simp ↓] theorem x_v31s {s0 s1 s2 s3 s4 s5 s6 s7 s8 s9 s10 s11 s12 s13 s14 s15 s16 s17 s18 s19 s20 s21 s22 s23 s24 s25 s26 s27 s28 s29 s30 : Sl} {rr : List Sl} : wV 31 (s0 :: s1 :: s2 :: s3 :: s4 :: s5 :: s6 :: s7 :: s8 :: s9 :: s10 :: s11 :: s12 :: s13 :: s14 :: s15 :: s16 :: s17 :: s18 :: s19 :: s20 :: s21 :: s22 :: s23 :: s24 :: s25 :: s26 :: s27 :: s28 :: s29 :: s30 :: Sl.src :: rr) Q = Q .src (s0 :: s1 :: s2 :: s3 :: s4 :: s5 :: s6 :: s7 :: s8 :: s9 :: s10 :: s11 :: s12 :: s13 :: s14 :: s15 :: s16 :: s17 :: s18 :: s19 :: s20 :: s21 :: s22 :: s23 :: s24 :: s25 :: s26 :: s27 :: s28 :: s29 :: s30 :: Sl.src :: rr) := id rfl
@[simp ↓] theorem x_p31 {s0 s1 s2 s3 s4 s5 s6 s7 s8 s9 s10 s11 s12 s13 s14 s15 s16 s17 s18 s19 s20 s21 s22 s23 s24 s25 s26 s27 s28 s29 s30 : Sl} {rr : List Sl} {d : D} : wP 31 (s0 :: s1 :: s2 :: s3 :: s4 :: s5 :: s6 :: s7 :: s8 :: s9 :: s10 :: s11 :: s12 :: s13 :: s14 :: s15 :: s16 :: s17 :: s18 :: s19 :: s20 :: s21 :: s22 :: s23 :: s24 :: s25 :: s26 :: s27 :: s28 :: s29 :: s30 :: Sl.im d :: rr) Q = Q (.im d) (s0 :: s1 :: s2 :: s3 :: s4 :: s5 :: s6 :: s7 :: s8 :: s9 :: s10 :: s11 :: s12 :: s13 :: s14 :: s15 :: s16 :: s17 :: s18 :: s19 :: s20 :: s21 :: s22 :: s23 :: s24 :: s25 :: s26 :: s27 :: s28 :: s29 :: s30 :: Sl.im d :: rr) := id rfl
@[simp ↓] theorem x_p31o {s0 s1 s2 s3 s4 s5 s6 s7 s8 s9 s10 s11 s12 s13 s14 s15 s16 s17 s18 s19 s20 s21 s22 s23 s24 s25 s26 s27 s28 s29 s30 : Sl} {rr : List Sl} {ds : List D} : wP 31 (s0 :: s1 :: s2 :: s3 :: s4 :: s5 :: s6 :: s7 :: s8 :: s9 :: s10 :: s11 :: s12 :: s13 :: s14 :: s15 :: s16 :: s17 :: s18 :: s19 :: s20 :: s21 :: s22 :: s23 :: s24 :: s25 :: s26 :: s27 :: s28 :: s29 :: s30 :: Sl.ow ds :: rr) Q = Q (.pk ds) (s0 :: s1 :: s2 :: s3 :: s4 :: s5 :: s6 :: s7 :: s8 :: s9 :: s10 :: s11 :: s12 :: s13 :: s14 :: s15 :: s16 :: s17 :: s18 :: s19 :: s20 :: s21 :: s22 :: s23 :: s24 :: s25 :: s26 :: s27 :: s28 :: s29 :: s30 :: Sl.ow ds :: rr) := id rfl
@[simp ↓] theorem x_p31s {s0 s1 s2 s3 s4 s5 s6 s7 s8 s9 s10 s11 s12 s13 s14 s15 s16 s17 s18 s19 s20 s21 s22 s23 s24 s25 s26 s27 s28 s29 s30 : Sl} {rr : List Sl} : wP 31 (s0 :: s1 :: s2 :: s3 :: s4 :: s5 :: s6 :: s7 :: s8 :: s9 :: s10 :: s11 :: s12 :: s13 :: s14 :: s15 :: s16 :: s17 :: s18 :: s19 :: s20 :: s21 :: s22 :: s23 :: s24 :: s25 :: s26 :: s27 :: s28 :: s29 :: s30 :: Sl.src :: rr) Q = Q .src (s0 :: s1 :: s2 :: s3 :: s4 :: s5 :: s6 :: s7 :: s8 :: s9 :: s10 :: s11 :: s12 :: s13 :: s14 :: s15 :: s16 :: s17 :: s18 :: s19 :: s20 :: s21 :: s22 :: s23 :: s24 :: s25 :: s26 :: s27 :: s28 :: s29 :: s30 :: Sl.src :: rr) := id rfl
@[simp ↓] theorem x_owA31 {s0 s1 s2 s3 s4 s5 s6 s7 s8 s9 s10 s11 s12 s13 s14 s15 s16 s17 s18 s19 s20 s21 s22 s23 s24 s25 s26 s27 s28 s29 s30 : Sl} {rr : List Sl} {ds : List D} : owAt 31 (s0 :: s1 :: s2 :: s3 :: s4 :: s5 :: s6 :: s7 :: s8 :: s9 :: s10 :: s11 :: s12 :: s13 :: s14 :: s15 :: s16 :: s17 :: s18 :: s19 :: s20 :: s21 :: s22 :: s23 :: s24 :: s25 :: s26 :: s27 :: s28 :: s29 :: s30 :: Sl.ow ds :: rr) = True := eq_true ⟨ds, rfl⟩
@[simp ↓] theorem x_setK31 {s0 s1 s2 s3 s4 s5 s6 s7 s8 s9 s10 s11 s12 s13 s14 s15 s16 s17 s18 s19 s20 s21 s22 s23 s24 s25 s26 s27 s28 s29 s30 : Sl} {rr : List Sl} {ds : List D} {d : D} {k : Int} : setK 31 D0 d k (s0 :: s1 :: s2 :: s3 :: s4 :: s5 :: s6 :: s7 :: s8 :: s9 :: s10 :: s11 :: s12 :: s13 :: s14 :: s15 :: s16 :: s17 :: s18 :: s19 :: s20 :: s21 :: s22 :: s23 :: s24 :: s25 :: s26 :: s27 :: s28 :: s29 :: s30 :: Sl.ow ds :: rr) = got (ixN ds.length k) fun j => D0.nx (s0 :: s1 :: s2 :: s3 :: s4 :: s5 :: s6 :: s7 :: s8 :: s9 :: s10 :: s11 :: s12 :: s13 :: s14 :: s15 :: s16 :: s17 :: s18 :: s19 :: s20 :: s21 :: s22 :: s23 :: s24 :: s25 :: s26 :: s27 :: s28 :: s29 :: s30 :: Sl.ow (ds.set j d) :: rr) := id rfl
@[simp ↓] theorem x_appK31 {s0 s1 s2 s3 s4 s5 s6 s7 s8 s9 s10 s11 s12 s13 s14 s15 s16 s17 s18 s19 s20 s21 s22 s23 s24 s25 s26 s27 s28 s29 s30 : Sl} {rr : List Sl} {ds : List D} {d : D} : appK 31 D0 d (s0 :: s1 :: s2 :: s3 :: s4 :: s5 :: s6 :: s7 :: s8 :: s9 :: s10 :: s11 :: s12 :: s13 :: s14 :: s15 :: s16 :: s17 :: s18 :: s19 :: s20 :: s21 :: s22 :: s23 :: s24 :: s25 :: s26 :: s27 :: s28 :: s29 :: s30 :: Sl.ow ds :: rr) = (ds.length ≤ 100000 ∧ D0.nx (s0 :: s1 :: s2 :: s3 :: s4 :: s5 :: s6 :: s7 :: s8 :: s9 :: s10 :: s11 :: s12 :: s13 :: s14 :: s15 :: s16 :: s17 :: s18 :: s19 :: s20 :: s21 :: s22 :: s23 :: s24 :: s25 :: s26 :: s27 :: s28 :: s29 :: s30 :: Sl.ow (ds ++ [d]) :: rr)) := id rfl
@[simp ↓] theorem x_pop31 {s0 s1 s2 s3 s4 s5 s6 s7 s8 s9 s10 s11 s12 s13 s14 s15 s16 s17 s18 s19 s20 s21 s22 s23 s24 s25 s26 s27 s28 s29 s30 : Sl} {rr : List Sl} {ds : List D} : wPop 31 D0 (s0 :: s1 :: s2 :: s3 :: s4 :: s5 :: s6 :: s7 :: s8 :: s9 :: s10 :: s11 :: s12 :: s13 :: s14 :: s15 :: s16 :: s17 :: s18 :: s19 :: s20 :: s21 :: s22 :: s23 :: s24 :: s25 :: s26 :: s27 :: s28 :: s29 :: s30 :: Sl.ow ds :: rr) = (ds ≠ [] ∧ D0.nx (s0 :: s1 :: s2 :: s3 :: s4 :: s5 :: s6 :: s7 :: s8 :: s9 :: s10 :: s11 :: s12 :: s13 :: s14 :: s15 :: s16 :: s17 :: s18 :: s19 :: s20 :: s21 :: s22 :: s23 :: s24 :: s25 :: s26 :: s27 :: s28 :: s29 :: s30 :: Sl.ow ds.dropLast :: rr)) := id rfl
@[simp ↓] theorem x_v32 {s0 s1 s2 s3 s4 s5 s6 s7 s8 s9 s10 s11 s12 s13 s14 s15 s16 s17 s18 s19 s20 s21 s22 s23 s24 s25 s26 s27 s28 s29 s30 s31 : Sl} {rr : List Sl} {d : D} : wV 32 (s0 :: s1 :: s2 :: s3 :: s4 :: s5 :: s6 :: s7 :: s8 :: s9 :: s10 :: s11 :: s12 :: s13 :: s14 :: s15 :: s16 :: s17 :: s18 :: s19 :: s20 :: s21 :: s22 :: s23 :: s24 :: s25 :: s26 :: s27 :: s28 :: s29 :: s30 :: s31 :: Sl.im d :: rr) Q = Q (.im d) (s0 :: s1 :: s2 :: s3 :: s4 :: s5 :: s6 :: s7 :: s8 :: s9 :: s10 :: s11 :: s12 :: s13 :: s14 :: s15 :: s16 :: s17 :: s18 :: s19 :: s20 :: s21 :: s22 :: s23 :: s24 :: s25 :: s26 :: s27 :: s28 :: s29 :: s30 :: s31 :: Sl.im d :: rr) := id rfl
@[simp ↓] theorem x_v32o {s0 s1 s2 s3 s4 s5 s6 s7 s8 s9 s10 s11 s12 s13 s14 s15 s16 s17 s18 s19 s20 s21 s22 s23 s24 s25 s26 s27 s28 s29 s30 s31 : Sl} {rr : List Sl} {ds : List D} : wV 32 (s0 :: s1 :: s2 :: s3 :: s4 :: s5 :: s6 :: s7 :: s8 :: s9 :: s10 :: s11 :: s12 :: s13 :: s14 :: s15 :: s16 :: s17 :: s18 :: s19 :: s20 :: s21 :: s22 :: s23 :: s24 :: s25 :: s26 :: s27 :: s28 :: s29 :: s30 :: s31 :: Sl.ow ds :: rr) Q = Q (.im (.list ds)) (s0 :: s1 :: s2 :: s3 :: s4 :: s5 :: s6 :: s7 :: s8 :: s9 :: s10 :: s11 :: s12 :: s13 :: s14 :: s15 :: s16 :: s17 :: s18 :: s19 :: s20 :: s21 :: s22 :: s23 :: s24 :: s25 :: s26 :: s27 :: s28 :: s29 :: s30 :: s31 :: Sl.im (.list ds) :: rr) := id rfl
@[simp ↓] theorem x_v32s {s0 s1 s2 s3 s4 s5 s6 s7 s8 s9 s10 s11 s12 s13 s14 s15 s16 s17 s18 s19 s20 s21 s22 s23 s24 s25 s26 s27 s28 s29 s30 s31 : Sl} {rr : List Sl} : wV 32 (s0 :: s1 :: s2 :: s3 :: s4 :: s5 :: s6 :: s7 :: s8 :: s9 :: s10 :: s11 :: s12 :: s13 :: s14 :: s15 :: s16 :: s17 :: s18 :: s19 :: s20 :: s21 :: s22 :: s23 :: s24 :: s25 :: s26 :: s27 :: s28 :: s29 :: s30 :: s31 :: Sl.src :: rr) Q = Q .src (s0 :: s1 :: s2 :: s3 :: s4 :: s5 :: s6 :: s7 :: s8 :: s9 :: s10 :: s11 :: s12 :: s13 :: s14 :: s15 :: s16 :: s17 :: s18 :: s19 :: s20 :: s21 :: s22 :: s23 :: s24 :: s25 :: s26 :: s27 :: s28 :: s29 :: s30 :: s31 :: Sl.src :: rr) := id rfl
@[simp ↓] theorem x_p32 {s0 s1 s2 s3 s4 s5 s6 s7 s8 s9 s10 s11 s12 s13 s14 s15 s16 s17 s18 s19 s20 s21 s22 s23 s24 s25 s26 s27 s28 s29 s30 s31 : Sl} {rr : List Sl} {d : D} : wP 32 (s0 :: s1 :: s2 :: s3 :: s4 :: s5 :: s6 :: s7 :: s8 :: s9 :: s10 :: s11 :: s12 :: s13 :: s14 :: s15 :: s16 :: s17 :: s18 :: s19 :: s20 :: s21 :: s22 :: s23 :: s24 :: s25 :: s26 :: s27 :: s28 :: s29 :: s30 :: s31 :: Sl.im d :: rr) Q = Q (.im d) (s0 :: s1 :: s2 :: s3 :: s4 :: s5 :: s6 :: s7 :: s8 :: s9 :: s10 :: s11 :: s12 :: s13 :: s14 :: s15 :: s16 :: s17 :: s18 :: s19 :: s20 :: s21 :: s22 :: s23 :: s24 :: s25 :: s26 :: s27 :: s28 :: s29 :: s30 :: s31 :: Sl.im d :: rr) := id rfl
@[simp ↓] theorem x_p32o {s0 s1 s2 s3 s4 s5 s6 s7 s8 s9 s10 s11 s12 s13 s14 s15 s16 s17 s18 s19 s20 s21 s22 s23 s24 s25 s26 s27 s28 s29 s30 s31 : Sl} {rr : List Sl} {ds : List D} : wP 32 (s0 :: s1 :: s2 :: s3 :: s4 :: s5 :: s6 :: s7 :: s8 :: s9 :: s10 :: s11 :: s12 :: s13 :: s14 :: s15 :: s16 :: s17 :: s18 :: s19 :: s20 :: s21 :: s22 :: s23 :: s24 :: s25 :: s26 :: s27 :: s28 :: s29 :: s30 :: s31 :: Sl.ow ds :: rr) Q = Q (.pk ds) (s0 :: s1 :: s2 :: s3 :: s4 :: s5 :: s6 :: s7 :: s8 :: s9 :: s10 :: s11 :: s12 :: s13 :: s14 :: s15 :: s16 :: s17 :: s18 :: s19 :: s20 :: s21 :: s22 :: s23 :: s24 :: s25 :: s26 :: s27 :: s28 :: s29 :: s30 :: s31 :: Sl.ow ds :: rr) := id rfl
@[simp ↓] theorem x_p32s {s0 s1 s2 s3 s4 s5 s6 s7 s8 s9 s10 s11 s12 s13 s14 s15 s16 s17 s18 s19 s20 s21 s22 s23 s24 s25 s26 s27 s28 s29 s30 s31 : Sl} {rr : List Sl} : wP 32 (s0 :: s1 :: s2 :: s3 :: s4 :: s5 :: s6 :: s7 :: s8 :: s9 :: s10 :: s11 :: s12 :: s13 :: s14 :: s15 :: s16 :: s17 :: s18 :: s19 :: s20 :: s21 :: s22 :: s23 :: s24 :: s25 :: s26 :: s27 :: s28 :: s29 :: s30 :: s31 :: Sl.src :: rr) Q = Q .src (s0 :: s1 :: s2 :: s3 :: s4 :: s5 :: s6 :: s7 :: s8 :: s9 :: s10 :: s11 :: s12 :: s13 :: s14 :: s15 :: s16 :: s17 :: s18 :: s19 :: s20 :: s21 :: s22 :: s23 :: s24 :: s25 :: s26 :: s27 :: s28 :: s29 :: s30 :: s31 :: Sl.src :: rr) := id rfl
@[simp ↓] theorem x_owA32 {s0 s1 s2 s3 s4 s5 s6 s7 s8 s9 s10 s11 s12 s13 s14 s15 s16 s17 s18 s19 s20 s21 s22 s23 s24 s25 s26 s27 s28 s29 s30 s31 : Sl} {rr : List Sl} {ds : List D} : owAt 32 (s0 :: s1 :: s2 :: s3 :: s4 :: s5 :: s6 :: s7 :: s8 :: s9 :: s10 :: s11 :: s12 :: s13 :: s14 :: s15 :: s16 :: s17 :: s18 :: s19 :: s20 :: s21 :: s22 :: s23 :: s24 :: s25 :: s26 :: s27 :: s28 :: s29 :: s30 :: s31 :: Sl.ow ds :: rr) = True := eq_true ⟨ds, rfl⟩
@[simp ↓] theorem x_setK32 {s0 s1 s2 s3 s4 s5 s6 s7 s8 s9 s10 s11 s12 s13 s14 s15 s16 s17 s18 s19 s20 s21 s22 s23 s24 s25 s26 s27 s28 s29 s30 s31 : Sl} {rr : List Sl} {ds : List D} {d : D} {k : Int} : setK 32 D0 d k (s0 :: s1 :: s2 :: s3 :: s4 :: s5 :: s6 :: s7 :: s8 :: s9 :: s10 :: s11 :: s12 :: s13 :: s14 :: s15 :: s16 :: s17 :: s18 :: s19 :: s20 :: s21 :: s22 :: s23 :: s24 :: s25 :: s26 :: s27 :: s28 :: s29 :: s30 :: s31 :: Sl.ow ds :: rr) = got (ixN ds.length k) fun j => D0.nx (s0 :: s1 :: s2 :: s3 :: s4 :: s5 :: s6 :: s7 :: s8 :: s9 :: s10 :: s11 :: s12 :: s13 :: s14 :: s15 :: s16 :: s17 :: s18 :: s19 :: s20 :: s21 :: s22 :: s23 :: s24 :: s25 :: s26 :: s27 :: s28 :: s29 :: s30 :: s31 :: Sl.ow (ds.set j d) :: rr) := id rfl
@[simp ↓] theorem x_appK32 {s0 s1 s2 s3 s4 s5 s6 s7 s8 s9 s10 s11 s12 s13 s14 s15 s16 s17 s18 s19 s20 s21 s22 s23 s24 s25 s26 s27 s28 s29 s30 s31 : Sl} {rr : List Sl} {ds : List D} {d : D} : appK 32 D0 d (s0 :: s1 :: s2 :: s3 :: s4 :: s5 :: s6 :: s7 :: s8 :: s9 :: s10 :: s11 :: s12 :: s13 :: s14 :: s15 :: s16 :: s17 :: s18 :: s19 :: s20 :: s21 :: s22 :: s23 :: s24 :: s25 :: s26 :: s27 :: s28 :: s29 :: s30 :: s31 :: Sl.ow ds :: rr) = (ds.length ≤ 100000 ∧ D0.nx (s0 :: s1 :: s2 :: s3 :: s4 :: s5 :: s6 :: s7 :: s8 :: s9 :: s10 :: s11 :: s12 :: s13 :: s14 :: s15 :: s16 :: s17 :: s18 :: s19 :: s20 :: s21 :: s22 :: s23 :: s24 :: s25 :: s26 :: s27 :: s28 :: s29 :: s30 :: s31 :: Sl.ow (ds ++ [d]) :: rr)) := id rfl
@[simp ↓] theorem x_pop32 {s0 s1 s2 s3 s4 s5 s6 s7 s8 s9 s10 s11 s12 s13 s14 s15 s16 s17 s18 s19 s20 s21 s22 s23 s24 s25 s26 s27 s28 s29 s30 s31 : Sl} {rr : List Sl} {ds : List D} : wPop 32 D0 (s0 :: s1 :: s2 :: s3 :: s4 :: s5 :: s6 :: s7 :: s8 :: s9 :: s10 :: s11 :: s12 :: s13 :: s14 :: s15 :: s16 :: s17 :: s18 :: s19 :: s20 :: s21 :: s22 :: s23 :: s24 :: s25 :: s26 :: s27 :: s28 :: s29 :: s30 :: s31 :: Sl.ow ds :: rr) = (ds ≠ [] ∧ D0.nx (s0 :: s1 :: s2 :: s3 :: s4 :: s5 :: s6 :: s7 :: s8 :: s9 :: s10 :: s11 :: s12 :: s13 :: s14 :: s15 :: s16 :: s17 :: s18 :: s19 :: s20 :: s21 :: s22 :: s23 :: s24 :: s25 :: s26 :: s27 :: s28 :: s29 :: s30 :: s31 :: Sl.ow ds.dropLast :: rr)) := id rfl
@[simp ↓] theorem x_v33 {s0 s1 s2 s3 s4 s5 s6 s7 s8 s9 s10 s11 s12 s13 s14 s15 s16 s17 s18 s19 s20 s21 s22 s23 s24 s25 s26 s27 s28 s29 s30 s31 s32 : Sl} {rr : List Sl} {d : D} : wV 33 (s0 :: s1 :: s2 :: s3 :: s4 :: s5 :: s6 :: s7 :: s8 :: s9 :: s10 :: s11 :: s12 :: s13 :: s14 :: s15 :: s16 :: s17 :: s18 :: s19 :: s20 :: s21 :: s22 :: s23 :: s24 :: s25 :: s26 :: s27 :: s28 :: s29 :: s30 :: s31 :: s32 :: Sl.im d :: rr) Q = Q (.im d) (s0 :: s1 :: s2 :: s3 :: s4 :: s5 :: s6 :: s7 :: s8 :: s9 :: s10 :: s11 :: s12 :: s13 :: s14 :: s15 :: s16 :: s17 :: s18 :: s19 :: s20 :: s21 :: s22 :: s23 :: s24 :: s25 :: s26 :: s27 :: s28 :: s29 :: s30 :: s31 :: s32 :: Sl.im d :: rr) := id rfl
@[simp ↓] theorem x_v33o {s0 s1 s2 s3 s4 s5 s6 s7 s8 s9 s10 s11 s12 s13 s14 s15 s16 s17 s18 s19 s20 s21 s22 s23 s24 s25 s26 s27 s28 s29 s30 s31 s32 : Sl} {rr : List Sl} {ds : List D} : wV 33 (s0 :: s1 :: s2 :: s3 :: s4 :: s5 :: s6 :: s7 :: s8 :: s9 :: s10 :: s11 :: s12 :: s13 :: s14 :: s15 :: s16 :: s17 :: s18 :: s19 :: s20 :: s21 :: s22 :: s23 :: s24 :: s25 :: s26 :: s27 :: s28 :: s29 :: s30 :: s31 :: s32 :: Sl.ow ds :: rr) Q = Q (.im (.list ds)) (s0 :: s1 :: s2 :: s3 :: s4 :: s5 :: s6 :: s7 :: s8 :: s9 :: s10 :: s11 :: s12 :: s13 :: s14 :: s15 :: s16 :: s17 :: s18 :: s19 :: s20 :: s21 :: s22 :: s23 :: s24 :: s25 :: s26 :: s27 :: s28 :: s29 :: s30 :: s31 :: s32 :: Sl.im (.list ds) :: rr) := id rfl
@[simp ↓] theorem x_v33s {s0 s1 s2 s3 s4 s5 s6 s7 s8 s9 s10 s11 s12 s13 s14 s15 s16 s17 s18 s19 s20 s21 s22 s23 s24 s25 s26 s27 s28 s29 s30 s31 s32 : Sl} {rr : List Sl} : wV 33 (s0 :: s1 :: s2 :: s3 :: s4 :: s5 :: s6 :: s7 :: s8 :: s9 :: s10 :: s11 :: s12 :: s13 :: s14 :: s15 :: s16 :: s17 :: s18 :: s19 :: s20 :: s21 :: s22 :: s23 :: s24 :: s25 :: s26 :: s27 :: s28 :: s29 :: s30 :: s31 :: s32 :: Sl.src :: rr) Q = Q .src (s0 :: s1 :: s2 :: s3 :: s4 :: s5 :: s6 :: s7 :: s8 :: s9 :: s10 :: s11 :: s12 :: s13 :: s14 :: s15 :: s16 :: s17 :: s18 :: s19 :: s20 :: s21 :: s22 :: s23 :: s24 :: s25 :: s26 :: s27 :: s28 :: s29 :: s30 :: s31 :: s32 :: Sl.src :: rr) := id rfl
@[simp ↓] theorem x_p33 {s0 s1 s2 s3 s4 s5 s6 s7 s8 s9 s10 s11 s12 s13 s14 s15 s16 s17 s18 s19 s20 s21 s22 s23 s24 s25 s26 s27 s28 s29 s30 s31 s32 : Sl} {rr : List Sl} {d : D} : wP 33 (s0 :: s1 :: s2 :: s3 :: s4 :: s5 :: s6 :: s7 :: s8 :: s9 :: s10 :: s11 :: s12 :: s13 :: s14 :: s15 :: s16 :: s17 :: s18 :: s19 :: s20 :: s21 :: s22 :: s23 :: s24 :: s25 :: s26 :: s27 :: s28 :: s29 :: s30 :: s31 :: s32 :: Sl.im d :: rr) Q = Q (.im d) (s0 :: s1 :: s2 :: s3 :: s4 :: s5 :: s6 :: s7 :: s8 :: s9 :: s10 :: s11 :: s12 :: s13 :: s14 :: s15 :: s16 :: s17 :: s18 :: s19 :: s20 :: s21 :: s22 :: s23 :: s24 :: s25 :: s26 :: s27 :: s28 :: s29 :: s30 :: s31 :: s32 :: Sl.im d :: rr) := id rfl
@[simp ↓] theorem x_p33o {s0 s1 s2 s3 s4 s5 s6 s7 s8 s9 s10 s11 s12 s13 s14 s15 s16 s17 s18 s19 s20 s21 s22 s23 s24 s25 s26 s27 s28 s29 s30 s31 s32 : Sl} {rr : List Sl} {ds : List D} : wP 33 (s0 :: s1 :: s2 :: s3 :: s4 :: s5 :: s6 :: s7 :: s8 :: s9 :: s10 :: s11 :: s12 :: s13 :: s14 :: s15 :: s16 :: s17 :: s18 :: s19 :: s20 :: s21 :: s22 :: s23 :: s24 :: s25 :: s26 :: s27 :: s28 :: s29 :: s30 :: s31 :: s32 :: Sl.ow ds :: rr) Q = Q (.pk ds) (s0 :: s1 :: s2 :: s3 :: s4 :: s5 :: s6 :: s7 :: s8 :: s9 :: s10 :: s11 :: s12 :: s13 :: s14 :: s15 :: s16 :: s17 :: s18 :: s19 :: s20 :: s21 :: s22 :: s23 :: s24 :: s25 :: s26 :: s27 :: s28 :: s29 :: s30 :: s31 :: s32 :: Sl.ow ds :: rr) := id rfl
@[simp ↓] theorem x_p33s {s0 s1 s2 s3 s4 s5 s6 s7 s8 s9 s10 s11 s12 s13 s14 s15 s16 s17 s18 s19 s20 s21 s22 s23 s24 s25 s26 s27 s28 s29 s30 s31 s32 : Sl} {rr : List Sl} : wP 33 (s0 :: s1 :: s2 :: s3 :: s4 :: s5 :: s6 :: s7 :: s8 :: s9 :: s10 :: s11 :: s12 :: s13 :: s14 :: s15 :: s16 :: s17 :: s18 :: s19 :: s20 :: s21 :: s22 :: s23 :: s24 :: s25 :: s26 :: s27 :: s28 :: s29 :: s30 :: s31 :: s32 :: Sl.src :: rr) Q = Q .src (s0 :: s1 :: s2 :: s3 :: s4 :: s5 :: s6 :: s7 :: s8 :: s9 :: s10 :: s11 :: s12 :: s13 :: s14 :: s15 :: s16 :: s17 :: s18 :: s19 :: s20 :: s21 :: s22 :: s23 :: s24 :: s25 :: s26 :: s27 :: s28 :: s29 :: s30 :: s31 :: s32 :: Sl.src :: rr) := id rfl
@[simp ↓] theorem x_owA33 {s0 s1 s2 s3 s4 s5 s6 s7 s8 s9 s10 s11 s12 s13 s14 s15 s16 s17 s18 s19 s20 s21 s22 s23 s24 s25 s26 s27 s28 s29 s30 s31 s32 : Sl} {rr : List Sl} {ds : List D} : owAt 33 (s0 :: s1 :: s2 :: s3 :: s4 :: s5 :: s6 :: s7 :: s8 :: s9 :: s10 :: s11 :: s12 :: s13 :: s14 :: s15 :: s16 :: s17 :: s18 :: s19 :: s20 :: s21 :: s22 :: s23 :: s24 :: s25 :: s26 :: s27 :: s28 :: s29 :: s30 :: s31 :: s32 :: Sl.ow ds :: rr) = True := eq_true ⟨ds, rfl⟩
@[simp ↓] theorem x_setK33 {s0 s1 s2 s3 s4 s5 s6 s7 s8 s9 s10 s11 s12 s13 s14 s15 s16 s17 s18 s19 s20 s21 s22 s23 s24 s25 s26 s27 s28 s29 s30 s31 s32 : Sl} {rr : List Sl} {ds : List D} {d : D} {k : Int} : setK 33 D0 d k (s0 :: s1 :: s2 :: s3 :: s4 :: s5 :: s6 :: s7 :: s8 :: s9 :: s10 :: s11 :: s12 :: s13 :: s14 :: s15 :: s16 :: s17 :: s18 :: s19 :: s20 :: s21 :: s22 :: s23 :: s24 :: s25 :: s26 :: s27 :: s28 :: s29 :: s30 :: s31 :: s32 :: Sl.ow ds :: rr) = got (ixN ds.length k) fun j => D0.nx (s0 :: s1 :: s2 :: s3 :: s4 :: s5 :: s6 :: s7 :: s8 :: s9 :: s10 :: s11 :: s12 :: s13 :: s14 :: s15 :: s16 :: s17 :: s18 :: s19 :: s20 :: s21 :: s22 :: s23 :: s24 :: s25 :: s26 :: s27 :: s28 :: s29 :: s30 :: s31 :: s32 :: Sl.ow (ds.set j d) :: rr) := id rfl
@[simp ↓] theorem x_appK33 {s0 s1 s2 s3 s4 s5 s6 s7 s8 s9 s10 s11 s12 s13 s14 s15 s16 s17 s18 s19 s20 s21 s22 s23 s24 s25 s26 s27 s28 s29 s30 s31 s32 : Sl} {rr : List Sl} {ds : List D} {d : D} : appK 33 D0 d (s0 :: s1 :: s2 :: s3 :: s4 :: s5 :: s6 :: s7 :: s8 :: s9 :: s10 :: s11 :: s12 :: s13 :: s14 :: s15 :: s16 :: s17 :: s18 :: s19 :: s20 :: s21 :: s22 :: s23 :: s24 :: s25 :: s26 :: s27 :: s28 :: s29 :: s30 :: s31 :: s32 :: Sl.ow ds :: rr) = (ds.length ≤ 100000 ∧ D0.nx (s0 :: s1 :: s2 :: s3 :: s4 :: s5 :: s6 :: s7 :: s8 :: s9 :: s10 :: s11 :: s12 :: s13 :: s14 :: s15 :: s16 :: s17 :: s18 :: s19 :: s20 :: s21 :: s22 :: s23 :: s24 :: s25 :: s26 :: s27 :: s28 :: s29 :: s30 :: s31 :: s32 :: Sl.ow (ds ++ [d]) :: rr)) := id rfl
@[simp ↓] theorem x_pop33 {s0 s1 s2 s3 s4 s5 s6 s7 s8 s9 s10 s11 s12 s13 s14 s15 s16 s17 s18 s19 s20 s21 s22 s23 s24 s25 s26 s27 s28 s29 s30 s31 s32 : Sl} {rr : List Sl} {ds : List D} : wPop 33 D0 (s0 :: s1 :: s2 :: s3 :: s4 :: s5 :: s6 :: s7 :: s8 :: s9 :: s10 :: s11 :: s12 :: s13 :: s14 :: s15 :: s16 :: s17 :: s18 :: s19 :: s20 :: s21 :: s22 :: s23 :: s24 :: s25 :: s26 :: s27 :: s28 :: s29 :: s30 :: s31 :: s32 :: Sl.ow ds :: rr) = (ds ≠ [] ∧ D0.nx (s0 :: s1 :: s2 :: s3 :: s4 :: s5 :: s6 :: s7 :: s8 :: s9 :: s10 :: s11 :: s12 :: s13 :: s14 :: s15 :: s16 :: s17 :: s18 :: s19 :: s20 :: s21 :: s22 :: s23 :: s24 :: s25 :: s26 :: s27 :: s28 :: s29 :: s30 :: s31 :: s32 :: Sl.ow ds.dropLast :: rr)) := id rfl
@[simp ↓] theorem x_v34 {s0 s1 s2 s3 s4 s5 s6 s7 s8 s9 s10 s11 s12 s13 s14 s15 s16 s17 s18 s19 s20 s21 s22 s23 s24 s25 s26 s27 s28 s29 s30 s31 s32 s33 : Sl} {rr : List Sl} {d : D} : wV 34 (s0 :: s1 :: s2 :: s3 :: s4 :: s5 :: s6 :: s7 :: s8 :: s9 :: s10 :: s11 :: s12 :: s13 :: s14 :: s15 :: s16 :: s17 :: s18 :: s19 :: s20 :: s21 :: s22 :: s23 :: s24 :: s25 :: s26 :: s27 :: s28 :: s29 :: s30 :: s31 :: s32 :: s33 :: Sl.im d :: rr) Q = Q (.im d) (s0 :: s1 :: s2 :: s3 :: s4 :: s5 :: s6 :: s7 :: s8 :: s9 :: s10 :: s11 :: s12 :: s13 :: s14 :: s15 :: s16 :: s17 :: s18 :: s19 :: s20 :: s21 :: s22 :: s23 :: s24 :: s25 :: s26 :: s27 :: s28 :: s29 :: s30 :: s31 :: s32 :: s33 :: Sl.im d :: rr) := id rfl
@[simp ↓] theorem x_v34o {s0 s1 s2 s3 s4 s5 s6 s7 s8 s9 s10 s11 s12 s13 s14 s15 s16 s17 s18 s19 s20 s21 s22 s23 s24 s25 s26 s27 s28 s29 s30 s31 s32 s33 : Sl} {rr : List Sl} {ds : List D} : wV 34 (s0 :: s1 :: s2 :: s3 :: s4 :: s5 :: s6 :: s7 :: s8 :: s9 :: s10 :: s11 :: s12 :: s13 :: s14 :: s15 :: s16 :: s17 :: s18 :: s19 :: s20 :: s21 :: s22 :: s23 :: s24 :: s25 :: s26 :: s27 :: s28 :: s29 :: s30 :: s31 :: s32 :: s33 :: Sl.ow ds :: rr) Q = Q (.im (.list ds)) (s0 :: s1 :: s2 :: s3 :: s4 :: s5 :: s6 :: s7 :: s8 :: s9 :: s10 :: s11 :: s12 :: s13 :: s14 :: s15 :: s16 :: s17 :: s18 :: s19 :: s20 :: s21 :: s22 :: s23 :: s24 :: s25 :: s26 :: s27 :: s28 :: s29 :: s30 :: s31 :: s32 :: s33 :: Sl.im (.list ds) :: rr) := id rfl
@[simp ↓] theorem x_v34s {s0 s1 s2 s3 s4 s5 s6 s7 s8 s9 s10 s11 s12 s13 s14 s15 s16 s17 s18 s19 s20 s21 s22 s23 s24 s25 s26 s27 s28 s29 s30 s31 s32 s33 : Sl} {rr : List Sl} : wV 34 (s0 :: s1 :: s2 :: s3 :: s4 :: s5 :: s6 :: s7 :: s8 :: s9 :: s10 :: s11 :: s12 :: s13 :: s14 :: s15 :: s16 :: s17 :: s18 :: s19 :: s20 :: s21 :: s22 :: s23 :: s24 :: s25 :: s26 :: s27 :: s28 :: s29 :: s30 :: s31 :: s32 :: s33 :: Sl.src :: rr) Q = Q .src (s0 :: s1 :: s2 :: s3 :: s4 :: s5 :: s6 :: s7 :: s8 :: s9 :: s10 :: s11 :: s12 :: s13 :: s14 :: s15 :: s16 :: s17 :: s18 :: s19 :: s20 :: s21 :: s22 :: s23 :: s24 :: s25 :: s26 :: s27 :: s28 :: s29 :: s30 :: s31 :: s32 :: s33 :: Sl.src :: rr) := id rfl
@[simp ↓] theorem x_p34 {s0 s1 s2 s3 s4 s5 s6 s7 s8 s9 s10 s11 s12 s13 s14 s15 s16 s17 s18 s19 s20 s21 s22 s23 s24 s25 s26 s27 s28 s29 s30 s31 s32 s33 : Sl} {rr : List Sl} {d : D} : wP 34 (s0 :: s1 :: s2 :: s3 :: s4 :: s5 :: s6 :: s7 :: s8 :: s9 :: s10 :: s11 :: s12 :: s13 :: s14 :: s15 :: s16 :: s17 :: s18 :: s19 :: s20 :: s21 :: s22 :: s23 :: s24 :: s25 :: s26 :: s27 :: s28 :: s29 :: s30 :: s31 :: s32 :: s33 :: Sl.im d :: rr) Q = Q (.im d) (s0 :: s1 :: s2 :: s3 :: s4 :: s5 :: s6 :: s7 :: s8 :: s9 :: s10 :: s11 :: s12 :: s13 :: s14 :: s15 :: s16 :: s17 :: s18 :: s19 :: s20 :: s21 :: s22 :: s23 :: s24 :: s25 :: s26 :: s27 :: s28 :: s29 :: s30 :: s31 :: s32 :: s33 :: Sl.im d :: rr) := id rfl
@[simp ↓] theorem x_p34o {s0 s1 s2 s3 s4 s5 s6 s7 s8 s9 s10 s11 s12 s13 s14 s15 s16 s17 s18 s19 s20 s21 s22 s23 s24 s25 s26 s27 s28 s29 s30 s31 s32 s33 : Sl} {rr : List Sl} {ds : List D} : wP 34 (s0 :: s1 :: s2 :: s3 :: s4 :: s5 :: s6 :: s7 :: s8 :: s9 :: s10 :: s11 :: s12 :: s13 :: s14 :: s15 :: s16 :: s17 :: s18 :: s19 :: s20 :: s21 :: s22 :: s23 :: s24 :: s25 :: s26 :: s27 :: s28 :: s29 :: s30 :: s31 :: s32 :: s33 :: Sl.ow ds :: rr) Q = Q (.pk ds) (s0 :: s1 :: s2 :: s3 :: s4 :: s5 :: s6 :: s7 :: s8 :: s9 :: s10 :: s11 :: s12 :: s13 :: s14 :: s15 :: s16 :: s17 :: s18 :: s19 :: s20 :: s21 :: s22 :: s23 :: s24 :: s25 :: s26 :: s27 :: s28 :: s29 :: s30 :: s31 :: s32 :: s33 :: Sl.ow ds :: rr) := id rfl
@[simp ↓] theorem x_p34s {s0 s1 s2 s3 s4 s5 s6 s7 s8 s9 s10 s11 s12 s13 s14 s15 s16 s17 s18 s19 s20 s21 s22 s23 s24 s25 s26 s27 s28 s29 s30 s31 s32 s33 : Sl} {rr : List Sl} : wP 34 (s0 :: s1 :: s2 :: s3 :: s4 :: s5 :: s6 :: s7 :: s8 :: s9 :: s10 :: s11 :: s12 :: s13 :: s14 :: s15 :: s16 :: s17 :: s18 :: s19 :: s20 :: s21 :: s22 :: s23 :: s24 :: s25 :: s26 :: s27 :: s28 :: s29 :: s30 :: s31 :: s32 :: s33 :: Sl.src :: rr) Q = Q .src (s0 :: s1 :: s2 :: s3 :: s4 :: s5 :: s6 :: s7 :: s8 :: s9 :: s10 :: s11 :: s12 :: s13 :: s14 :: s15 :: s16 :: s17 :: s18 :: s19 :: s20 :: s21 :: s22 :: s23 :: s24 :: s25 :: s26 :: s27 :: s28 :: s29 :: s30 :: s31 :: s32 :: s33 :: Sl.src :: rr) := id rfl
@[simp ↓] theorem x_owA34 {s0 s1 s2 s3 s4 s5 s6 s7 s8 s9 s10 s11 s12 s13 s14 s15 s16 s17 s18 s19 s20 s21 s22 s23 s24 s25 s26 s27 s28 s29 s30 s31 s32 s33 : Sl} {rr : List Sl} {ds : List D} : owAt 34 (s0 :: s1 :: s2 :: s3 :: s4 :: s5 :: s6 :: s7 :: s8 :: s9 :: s10 :: s11 :: s12 :: s13 :: s14 :: s15 :: s16 :: s17 :: s18 :: s19 :: s20 :: s21 :: s22 :: s23 :: s24 :: s25 :: s26 :: s27 :: s28 :: s29 :: s30 :: s31 :: s32 :: s33 :: Sl.ow ds :: rr) = True := eq_true ⟨ds, rfl⟩
@[simp ↓] theorem x_setK34 {s0 s1 s2 s3 s4 s5 s6 s7 s8 s9 s10 s11 s12 s13 s14 s15 s16 s17 s18 s19 s20 s21 s22 s23 s24 s25 s26 s27 s28 s29 s30 s31 s32 s33 : Sl} {rr : List Sl} {ds : List D} {d : D} {k : Int} : setK 34 D0 d k (s0 :: s1 :: s2 :: s3 :: s4 :: s5 :: s6 :: s7 :: s8 :: s9 :: s10 :: s11 :: s12 :: s13 :: s14 :: s15 :: s16 :: s17 :: s18 :: s19 :: s20 :: s21 :: s22 :: s23 :: s24 :: s25 :: s26 :: s27 :: s28 :: s29 :: s30 :: s31 :: s32 :: s33 :: Sl.ow ds :: rr) = got (ixN ds.length k) fun j => D0.nx (s0 :: s1 :: s2 :: s3 :: s4 :: s5 :: s6 :: s7 :: s8 :: s9 :: s10 :: s11 :: s12 :: s13 :: s14 :: s15 :: s16 :: s17 :: s18 :: s19 :: s20 :: s21 :: s22 :: s23 :: s24 :: s25 :: s26 :: s27 :: s28 :: s29 :: s30 :: s31 :: s32 :: s33 :: Sl.ow (ds.set j d) :: rr) := id rfl
@[simp ↓] theorem x_appK34 {s0 s1 s2 s3 s4 s5 s6 s7 s8 s9 s10 s11 s12 s13 s14 s15 s16 s17 s18 s19 s20 s21 s22 s23 s24 s25 s26 s27 s28 s29 s30 s31 s32 s33 : Sl} {rr : List Sl} {ds : List D} {d : D} : appK 34 D0 d (s0 :: s1 :: s2 :: s3 :: s4 :: s5 :: s6 :: s7 :: s8 :: s9 :: s10 :: s11 :: s12 :: s13 :: s14 :: s15 :: s16 :: s17 :: s18 :: s19 :: s20 :: s21 :: s22 :: s23 :: s24 :: s25 :: s26 :: s27 :: s28 :: s29 :: s30 :: s31 :: s32 :: s33 :: Sl.ow ds :: rr) = (ds.length ≤ 100000 ∧ D0.nx (s0 :: s1 :: s2 :: s3 :: s4 :: s5 :: s6 :: s7 :: s8 :: s9 :: s10 :: s11 :: s12 :: s13 :: s14 :: s15 :: s16 :: s17 :: s18 :: s19 :: s20 :: s21 :: s22 :: s23 :: s24 :: s25 :: s26 :: s27 :: s28 :: s29 :: s30 :: s31 :: s32 :: s33 :: Sl.ow (ds ++ [d]) :: rr)) := id rfl
@[simp ↓] theorem x_pop34 {s0 s1 s2 s3 s4 s5 s6 s7 s8 s9 s10 s11 s12 s13 s14 s15 s16 s17 s18 s19 s20 s21 s22 s23 s24 s25 s26 s27 s28 s29 s30 s31 s32 s33 : Sl} {rr : List Sl} {ds : List D} : wPop 34 D0 (s0 :: s1 :: s2 :: s3 :: s4 :: s5 :: s6 :: s7 :: s8 :: s9 :: s10 :: s11 :: s12 :: s13 :: s14 :: s15 :: s16 :: s17 :: s18 :: s19 :: s20 :: s21 :: s22 :: s23 :: s24 :: s25 :: s26 :: s27 :: s28 :: s29 :: s30 :: s31 :: s32 :: s33 :: Sl.ow ds :: rr) = (ds ≠ [] ∧ D0.nx (s0 :: s1 :: s2 :: s3 :: s4 :: s5 :: s6 :: s7 :: s8 :: s9 :: s10 :: s11 :: s12 :: s13 :: s14 :: s15 :: s16 :: s17 :: s18 :: s19 :: s20 :: s21 :: s22 :: s23 :: s24 :: s25 :: s26 :: s27 :: s28 :: s29 :: s30 :: s31 :: s32 :: s33 :: Sl.ow ds.dropLast :: rr)) := id rfl
@[simp ↓] theorem x_v35 {s0 s1 s2 s3 s4 s5 s6 s7 s8 s9 s10 s11 s12 s13 s14 s15 s16 s17 s18 s19 s20 s21 s22 s23 s24 s25 s26 s27 s28 s29 s30 s31 s32 s33 s34 : Sl} {rr : List Sl} {d : D} : wV 35 (s0 :: s1 :: s2 :: s3 :: s4 :: s5 :: s6 :: s7 :: s8 :: s9 :: s10 :: s11 :: s12 :: s13 :: s14 :: s15 :: s16 :: s17 :: s18 :: s19 :: s20 :: s21 :: s22 :: s23 :: s24 :: s25 :: s26 :: s27 :: s28 :: s29 :: s30 :: s31 :: s32 :: s33 :: s34 :: Sl.im d :: rr) Q = Q (.im d) (s0 :: s1 :: s2 :: s3 :: s4 :: s5 :: s6 :: s7 :: s8 :: s9 :: s10 :: s11 :: s12 :: s13 :: s14 :: s15 :: s16 :: s17 :: s18 :: s19 :: s20 :: s21 :: s22 :: s23 :: s24 :: s25 :: s26 :: s27 :: s28 :: s29 :: s30 :: s31 :: s32 :: s33 :: s34 :: Sl.im d :: rr) := id rfl
@[simp ↓] theorem x_v35o {s0 s1 s2 s3 s4 s5 s6 s7 s8 s9 s10 s11 s12 s13 s14 s15 s16 s17 s18 s19 s20 s21 s22 s23 s24 s25 s26 s27 s28 s29 s30 s31 s32 s33 s34 : Sl} {rr : List Sl} {ds : List D} : wV 35 (s0 :: s1 :: s2 :: s3 :: s4 :: s5 :: s6 :: s7 :: s8 :: s9 :: s10 :: s11 :: s12 :: s13 :: s14 :: s15 :: s16 :: s17 :: s18 :: s19 :: s20 :: s21 :: s22 :: s23 :: s24 :: s25 :: s26 :: s27 :: s28 :: s29 :: s30 :: s31 :: s32 :: s33 :: s34 :: Sl.ow ds :: rr) Q = Q (.im (.list ds)) (s0 :: s1 :: s2 :: s3 :: s4 :: s5 :: s6 :: s7 :: s8 :: s9 :: s10 :: s11 :: s12 :: s13 :: s14 :: s15 :: s16 :: s17 :: s18 :: s19 :: s20 :: s21 :: s22 :: s23 :: s24 :: s25 :: s26 :: s27 :: s28 :: s29 :: s30 :: s31 :: s32 :: s33 :: s34 :: Sl.im (.list ds) :: rr) := id rfl
@[simp ↓] theorem x_v35s {s0 s1 s2 s3 s4 s5 s6 s7 s8 s9 s10 s11 s12 s13 s14 s15 s16 s17 s18 s19 s20 s21 s22 s23 s24 s25 s26 s27 s28 s29 s30 s31 s32 s33 s34 : Sl} {rr : List Sl} : wV 35 (s0 :: s1 :: s2 :: s3 :: s4 :: s5 :: s6 :: s7 :: s8 :: s9 :: s10 :: s11 :: s12 :: s13 :: s14 :: s15 :: s16 :: s17 :: s18 :: s19 :: s20 :: s21 :: s22 :: s23 :: s24 :: s25 :: s26 :: s27 :: s28 :: s29 :: s30 :: s31 :: s32 :: s33 :: s34 :: Sl.src :: rr) Q = Q .src (s0 :: s1 :: s2 :: s3 :: s4 :: s5 :: s6 :: s7 :: s8 :: s9 :: s10 :: s11 :: s12 :: s13 :: s14 :: s15 :: s16 :: s17 :: s18 :: s19 :: s20 :: s21 :: s22 :: s23 :: s24 :: s25 :: s26 :: s27 :: s28 :: s29 :: s30 :: s31 :: s32 :: s33 :: s34 :: Sl.src :: rr) := id rfl
@[simp ↓] theorem x_p35 {s0 s1 s2 s3 s4 s5 s6 s7 s8 s9 s10 s11 s12 s13 s14 s15 s16 s17 s18 s19 s20 s21 s22 s23 s24 s25 s26 s27 s28 s29 s30 s31 s32 s33 s34 : Sl} {rr : List Sl} {d : D} : wP 35 (s0 :: s1 :: s2 :: s3 :: s4 :: s5 :: s6 :: s7 :: s8 :: s9 :: s10 :: s11 :: s12 :: s13 :: s14 :: s15 :: s16 :: s17 :: s18 :: s19 :: s20 :: s21 :: s22 :: s23 :: s24 :: s25 :: s26 :: s27 :: s28 :: s29 :: s30 :: s31 :: s32 :: s33 :: s34 :: Sl.im d :: rr) Q = Q (.im d) (s0 :: s1 :: s2 :: s3 :: s4 :: s5 :: s6 :: s7 :: s8 :: s9 :: s10 :: s11 :: s12 :: s13 :: s14 :: s15 :: s16 :: s17 :: s18 :: s19 :: s20 :: s21 :: s22 :: s23 :: s24 :: s25 :: s26 :: s27 :: s28 :: s29 :: s30 :: s31 :: s32 :: s33 :: s34 :: Sl.im d :: rr) := id rfl
@[simp ↓] theorem x_p35o {s0 s1 s2 s3 s4 s5 s6 s7 s8 s9 s10 s11 s12 s13 s14 s15 s16 s17 s18 s19 s20 s21 s22 s23 s24 s25 s26 s27 s28 s29 s30 s31 s32 s33 s34 : Sl} {rr : List Sl} {ds : List D} : wP 35 (s0 :: s1 :: s2 :: s3 :: s4 :: s5 :: s6 :: s7 :: s8 :: s9 :: s10 :: s11 :: s12 :: s13 :: s14 :: s15 :: s16 :: s17 :: s18 :: s19 :: s20 :: s21 :: s22 :: s23 :: s24 :: s25 :: s26 :: s27 :: s28 :: s29 :: s30 :: s31 :: s32 :: s33 :: s34 :: Sl.ow ds :: rr) Q = Q (.pk ds) (s0 :: s1 :: s2 :: s3 :: s4 :: s5 :: s6 :: s7 :: s8 :: s9 :: s10 :: s11 :: s12 :: s13 :: s14 :: s15 :: s16 :: s17 :: s18 :: s19 :: s20 :: s21 :: s22 :: s23 :: s24 :: s25 :: s26 :: s27 :: s28 :: s29 :: s30 :: s31 :: s32 :: s33 :: s34 :: Sl.ow ds :: rr) := id rfl
@[simp ↓] theorem x_p35s {s0 s1 s2 s3 s4 s5 s6 s7 s8 s9 s10 s11 s12 s13 s14 s15 s16 s17 s18 s19 s20 s21 s22 s23 s24 s25 s26 s27 s28 s29 s30 s31 s32 s33 s34 : Sl} {rr : List Sl} : wP 35 (s0 :: s1 :: s2 :: s3 :: s4 :: s5 :: s6 :: s7 :: s8 :: s9 :: s10 :: s11 :: s12 :: s13 :: s14 :: s15 :: s16 :: s17 :: s18 :: s19 :: s20 :: s21 :: s22 :: s23 :: s24 :: s25 :: s26 :: s27 :: s28 :: s29 :: s30 :: s31 :: s32 :: s33 :: s34 :: Sl.src :: rr) Q = Q .src (s0 :: s1 :: s2 :: s3 :: s4 :: s5 :: s6 :: s7 :: s8 :: s9 :: s10 :: s11 :: s12 :: s13 :: s14 :: s15 :: s16 :: s17 :: s18 :: s19 :: s20 :: s21 :: s22 :: s23 :: s24 :: s25 :: s26 :: s27 :: s28 :: s29 :: s30 :: s31 :: s32 :: s33 :: s34 :: Sl.src :: rr) := id rfl
@[simp ↓] theorem x_owA35 {s0 s1 s2 s3 s4 s5 s6 s7 s8 s9 s10 s11 s12 s13 s14 s15 s16 s17 s18 s19 s20 s21 s22 s23 s24 s25 s26 s27 s28 s29 s30 s31 s32 s33 s34 : Sl} {rr : List Sl} {ds : List D} : owAt 35 (s0 :: s1 :: s2 :: s3 :: s4 :: s5 :: s6 :: s7 :: s8 :: s9 :: s10 :: s11 :: s12 :: s13 :: s14 :: s15 :: s16 :: s17 :: s18 :: s19 :: s20 :: s21 :: s22 :: s23 :: s24 :: s25 :: s26 :: s27 :: s28 :: s29 :: s30 :: s31 :: s32 :: s33 :: s34 :: Sl.ow ds :: rr) = True := eq_true ⟨ds, rfl⟩
@[simp ↓] theorem x_setK35 {s0 s1 s2 s3 s4 s5 s6 s7 s8 s9 s10 s11 s12 s13 s14 s15 s16 s17 s18 s19 s20 s21 s22 s23 s24 s25 s26 s27 s28 s29 s30 s31 s32 s33 s34 : Sl} {rr : List Sl} {ds : List D} {d : D} {k : Int} : setK 35 D0 d k (s0 :: s1 :: s2 :: s3 :: s4 :: s5 :: s6 :: s7 :: s8 :: s9 :: s10 :: s11 :: s12 :: s13 :: s14 :: s15 :: s16 :: s17 :: s18 :: s19 :: s20 :: s21 :: s22 :: s23 :: s24 :: s25 :: s26 :: s27 :: s28 :: s29 :: s30 :: s31 :: s32 :: s33 :: s34 :: Sl.ow ds :: rr) = got (ixN ds.length k) fun j => D0.nx (s0 :: s1 :: s2 :: s3 :: s4 :: s5 :: s6 :: s7 :: s8 :: s9 :: s10 :: s11 :: s12 :: s13 :: s14 :: s15 :: s16 :: s17 :: s18 :: s19 :: s20 :: s21 :: s22 :: s23 :: s24 :: s25 :: s26 :: s27 :: s28 :: s29 :: s30 :: s31 :: s32 :: s33 :: s34 :: Sl.ow (ds.set j d) :: rr) := id rfl
@[simp ↓] theorem x_appK35 {s0 s1 s2 s3 s4 s5 s6 s7 s8 s9 s10 s11 s12 s13 s14 s15 s16 s17 s18 s19 s20 s21 s22 s23 s24 s25 s26 s27 s28 s29 s30 s31 s32 s33 s34 : Sl} {rr : List Sl} {ds : List D} {d : D} : appK 35 D0 d (s0 :: s1 :: s2 :: s3 :: s4 :: s5 :: s6 :: s7 :: s8 :: s9 :: s10 :: s11 :: s12 :: s13 :: s14 :: s15 :: s16 :: s17 :: s18 :: s19 :: s20 :: s21 :: s22 :: s23 :: s24 :: s25 :: s26 :: s27 :: s28 :: s29 :: s30 :: s31 :: s32 :: s33 :: s34 :: Sl.ow ds :: rr) = (ds.length ≤ 100000 ∧ D0.nx (s0 :: s1 :: s2 :: s3 :: s4 :: s5 :: s6 :: s7 :: s8 :: s9 :: s10 :: s11 :: s12 :: s13 :: s14 :: s15 :: s16 :: s17 :: s18 :: s19 :: s20 :: s21 :: s22 :: s23 :: s24 :: s25 :: s26 :: s27 :: s28 :: s29 :: s30 :: s31 :: s32 :: s33 :: s34 :: Sl.ow (ds ++ [d]) :: rr)) := id rfl
@[simp ↓] theorem x_pop35 {s0 s1 s2 s3 s4 s5 s6 s7 s8 s9 s10 s11 s12 s13 s14 s15 s16 s17 s18 s19 s20 s21 s22 s23 s24 s25 s26 s27 s28 s29 s30 s31 s32 s33 s34 : Sl} {rr : List Sl} {ds : List D} : wPop 35 D0 (s0 :: s1 :: s2 :: s3 :: s4 :: s5 :: s6 :: s7 :: s8 :: s9 :: s10 :: s11 :: s12 :: s13 :: s14 :: s15 :: s16 :: s17 :: s18 :: s19 :: s20 :: s21 :: s22 :: s23 :: s24 :: s25 :: s26 :: s27 :: s28 :: s29 :: s30 :: s31 :: s32 :: s33 :: s34 :: Sl.ow ds :: rr) = (ds ≠ [] ∧ D0.nx (s0 :: s1 :: s2 :: s3 :: s4 :: s5 :: s6 :: s7 :: s8 :: s9 :: s10 :: s11 :: s12 :: s13 :: s14 :: s15 :: s16 :: s17 :: s18 :: s19 :: s20 :: s21 :: s22 :: s23 :: s24 :: s25 :: s26 :: s27 :: s28 :: s29 :: s30 :: s31 :: s32 :: s33 :: s34 :: Sl.ow ds.dropLast :: rr)) := id rfl
@[simp ↓] theorem x_v36 {s0 s1 s2 s3 s4 s5 s6 s7 s8 s9 s10 s11 s12 s13 s14 s15 s16 s17 s18 s19 s20 s21 s22 s23 s24 s25 s26 s27 s28 s29 s30 s31 s32 s33 s34 s35 : Sl} {rr : List Sl} {d : D} : wV 36 (s0 :: s1 :: s2 :: s3 :: s4 :: s5 :: s6 :: s7 :: s8 :: s9 :: s10 :: s11 :: s12 :: s13 :: s14 :: s15 :: s16 :: s17 :: s18 :: s19 :: s20 :: s21 :: s22 :: s23 :: s24 :: s25 :: s26 :: s27 :: s28 :: s29 :: s30 :: s31 :: s32 :: s33 :: s34 :: s35 :: Sl.im d :: rr) Q = Q (.im d) (s0 :: s1 :: s2 :: s3 :: s4 :: s5 :: s6 :: s7 :: s8 :: s9 :: s10 :: s11 :: s12 :: s13 :: s14 :: s15 :: s16 :: s17 :: s18 :: s19 :: s20 :: s21 :: s22 :: s23 :: s24 :: s25 :: s26 :: s27 :: s28 :: s29 :: s30 :: s31 :: s32 :: s33 :: s34 :: s35 :: Sl.im d :: rr) := id rfl
@[simp ↓] theorem x_v36o {s0 s1 s2 s3 s4 s5 s6 s7 s8 s9 s10 s11 s12 s13 s14 s15 s16 s17 s18 s19 s20 s21 s22 s23 s24 s25 s26 s27 s28 s29 s30 s31 s32 s33 s34 s35 : Sl} {rr : List Sl} {ds : List D} : wV 36 (s0 :: s1 :: s2 :: s3 :: s4 :: s5 :: s6 :: s7 :: s8 :: s9 :: s10 :: s11 :: s12 :: s13 :: s14 :: s15 :: s16 :: s17 :: s18 :: s19 :: s20 :: s21 :: s22 :: s23 :: s24 :: s25 :: s26 :: s27 :: s28 :: s29 :: s30 :: s31 :: s32 :: s33 :: s34 :: s35 :: Sl.ow ds :: rr) Q = Q (.im (.list ds)) (s0 :: s1 :: s2 :: s3 :: s4 :: s5 :: s6 :: s7 :: s8 :: s9 :: s10 :: s11 :: s12 :: s13 :: s14 :: s15 :: s16 :: s17 :: s18 :: s19 :: s20 :: s21 :: s22 :: s23 :: s24 :: s25 :: s26 :: s27 :: s28 :: s29 :: s30 :: s31 :: s32 :: s33 :: s34 :: s35 :: Sl.im (.list ds) :: rr) := id rfl
@[simp ↓] theorem x_v36s {s0 s1 s2 s3 s4 s5 s6 s7 s8 s9 s10 s11 s12 s13 s14 s15 s16 s17 s18 s19 s20 s21 s22 s23 s24 s25 s26 s27 s28 s29 s30 s31 s32 s33 s34 s35 : Sl} {rr : List Sl} : wV 36 (s0 :: s1 :: s2 :: s3 :: s4 :: s5 :: s6 :: s7 :: s8 :: s9 :: s10 :: s11 :: s12 :: s13 :: s14 :: s15 :: s16 :: s17 :: s18 :: s19 :: s20 :: s21 :: s22 :: s23 :: s24 :: s25 :: s26 :: s27 :: s28 :: s29 :: s30 :: s31 :: s32 :: s33 :: s34 :: s35 :: Sl.src :: rr) Q = Q .src (s0 :: s1 :: s2 :: s3 :: s4 :: s5 :: s6 :: s7 :: s8 :: s9 :: s10 :: s11 :: s12 :: s13 :: s14 :: s15 :: s16 :: s17 :: s18 :: s19 :: s20 :: s21 :: s22 :: s23 :: s24 :: s25 :: s26 :: s27 :: s28 :: s29 :: s30 :: s31 :: s32 :: s33 :: s34 :: s35 :: Sl.src :: rr) := id rfl
@[simp ↓] theorem x_p36 {s0 s1 s2 s3 s4 s5 s6 s7 s8 s9 s10 s11 s12 s13 s14 s15 s16 s17 s18 s19 s20 s21 s22 s23 s24 s25 s26 s27 s28 s29 s30 s31 s32 s33 s34 s35 : Sl} {rr : List Sl} {d : D} : wP 36 (s0 :: s1 :: s2 :: s3 :: s4 :: s5 :: s6 :: s7 :: s8 :: s9 :: s10 :: s11 :: s12 :: s13 :: s14 :: s15 :: s16 :: s17 :: s18 :: s19 :: s20 :: s21 :: s22 :: s23 :: s24 :: s25 :: s26 :: s27 :: s28 :: s29 :: s30 :: s31 :: s32 :: s33 :: s34 :: s35 :: Sl.im d :: rr) Q = Q (.im d) (s0 :: s1 :: s2 :: s3 :: s4 :: s5 :: s6 :: s7 :: s8 :: s9 :: s10 :: s11 :: s12 :: s13 :: s14 :: s15 :: s16 :: s17 :: s18 :: s19 :: s20 :: s21 :: s22 :: s23 :: s24 :: s25 :: s26 :: s27 :: s28 :: s29 :: s30 :: s31 :: s32 :: s33 :: s34 :: s35 :: Sl.im d :: rr) := id rfl
@[simp ↓] theorem x_p36o {s0 s1 s2 s3 s4 s5 s6 s7 s8 s9 s10 s11 s12 s13 s14 s15 s16 s17 s18 s19 s20 s21 s22 s23 s24 s25 s26 s27 s28 s29 s30 s31 s32 s33 s34 s35 : Sl} {rr : List Sl} {ds : List D} : wP 36 (s0 :: s1 :: s2 :: s3 :: s4 :: s5 :: s6 :: s7 :: s8 :: s9 :: s10 :: s11 :: s12 :: s13 :: s14 :: s15 :: s16 :: s17 :: s18 :: s19 :: s20 :: s21 :: s22 :: s23 :: s24 :: s25 :: s26 :: s27 :: s28 :: s29 :: s30 :: s31 :: s32 :: s33 :: s34 :: s35 :: Sl.ow ds :: rr) Q = Q (.pk ds) (s0 :: s1 :: s2 :: s3 :: s4 :: s5 :: s6 :: s7 :: s8 :: s9 :: s10 :: s11 :: s12 :: s13 :: s14 :: s15 :: s16 :: s17 :: s18 :: s19 :: s20 :: s21 :: s22 :: s23 :: s24 :: s25 :: s26 :: s27 :: s28 :: s29 :: s30 :: s31 :: s32 :: s33 :: s34 :: s35 :: Sl.ow ds :: rr) := id rfl
@[simp ↓] theorem x_p36s {s0 s1 s2 s3 s4 s5 s6 s7 s8 s9 s10 s11 s12 s13 s14 s15 s16 s17 s18 s19 s20 s21 s22 s23 s24 s25 s26 s27 s28 s29 s30 s31 s32 s33 s34 s35 : Sl} {rr : List Sl} : wP 36 (s0 :: s1 :: s2 :: s3 :: s4 :: s5 :: s6 :: s7 :: s8 :: s9 :: s10 :: s11 :: s12 :: s13 :: s14 :: s15 :: s16 :: s17 :: s18 :: s19 :: s20 :: s21 :: s22 :: s23 :: s24 :: s25 :: s26 :: s27 :: s28 :: s29 :: s30 :: s31 :: s32 :: s33 :: s34 :: s35 :: Sl.src :: rr) Q = Q .src (s0 :: s1 :: s2 :: s3 :: s4 :: s5 :: s6 :: s7 :: s8 :: s9 :: s10 :: s11 :: s12 :: s13 :: s14 :: s15 :: s16 :: s17 :: s18 :: s19 :: s20 :: s21 :: s22 :: s23 :: s24 :: s25 :: s26 :: s27 :: s28 :: s29 :: s30 :: s31 :: s32 :: s33 :: s34 :: s35 :: Sl.src :: rr) := id rfl
@[simp ↓] theorem x_owA36 {s0 s1 s2 s3 s4 s5 s6 s7 s8 s9 s10 s11 s12 s13 s14 s15 s16 s17 s18 s19 s20 s21 s22 s23 s24 s25 s26 s27 s28 s29 s30 s31 s32 s33 s34 s35 : Sl} {rr : List Sl} {ds : List D} : owAt 36 (s0 :: s1 :: s2 :: s3 :: s4 :: s5 :: s6 :: s7 :: s8 :: s9 :: s10 :: s11 :: s12 :: s13 :: s14 :: s15 :: s16 :: s17 :: s18 :: s19 :: s20 :: s21 :: s22 :: s23 :: s24 :: s25 :: s26 :: s27 :: s28 :: s29 :: s30 :: s31 :: s32 :: s33 :: s34 :: s35 :: Sl.ow ds :: rr) = True := eq_true ⟨ds, rfl⟩
@[simp ↓] theorem x_setK36 {s0 s1 s2 s3 s4 s5 s6 s7 s8 s9 s10 s11 s12 s13 s14 s15 s16 s17 s18 s19 s20 s21 s22 s23 s24 s25 s26 s27 s28 s29 s30 s31 s32 s33 s34 s35 : Sl} {rr : List Sl} {ds : List D} {d : D} {k : Int} : setK 36 D0 d k (s0 :: s1 :: s2 :: s3 :: s4 :: s5 :: s6 :: s7 :: s8 :: s9 :: s10 :: s11 :: s12 :: s13 :: s14 :: s15 :: s16 :: s17 :: s18 :: s19 :: s20 :: s21 :: s22 :: s23 :: s24 :: s25 :: s26 :: s27 :: s28 :: s29 :: s30 :: s31 :: s32 :: s33 :: s34 :: s35 :: Sl.ow ds :: rr) = got (ixN ds.length k) fun j => D0.nx (s0 :: s1 :: s2 :: s3 :: s4 :: s5 :: s6 :: s7 :: s8 :: s9 :: s10 :: s11 :: s12 :: s13 :: s14 :: s15 :: s16 :: s17 :: s18 :: s19 :: s20 :: s21 :: s22 :: s23 :: s24 :: s25 :: s26 :: s27 :: s28 :: s29 :: s30 :: s31 :: s32 :: s33 :: s34 :: s35 :: Sl.ow (ds.set j d) :: rr) := id rfl
@[simp ↓] theorem x_appK36 {s0 s1 s2 s3 s4 s5 s6 s7 s8 s9 s10 s11 s12 s13 s14 s15 s16 s17 s18 s19 s20 s21 s22 s23 s24 s25 s26 s27 s28 s29 s30 s31 s32 s33 s34 s35 : Sl} {rr : List Sl} {ds : List D} {d : D} : appK 36 D0 d (s0 :: s1 :: s2 :: s3 :: s4 :: s5 :: s6 :: s7 :: s8 :: s9 :: s10 :: s11 :: s12 :: s13 :: s14 :: s15 :: s16 :: s17 :: s18 :: s19 :: s20 :: s21 :: s22 :: s23 :: s24 :: s25 :: s26 :: s27 :: s28 :: s29 :: s30 :: s31 :: s32 :: s33 :: s34 :: s35 :: Sl.ow ds :: rr) = (ds.length ≤ 100000 ∧ D0.nx (s0 :: s1 :: s2 :: s3 :: s4 :: s5 :: s6 :: s7 :: s8 :: s9 :: s10 :: s11 :: s12 :: s13 :: s14 :: s15 :: s16 :: s17 :: s18 :: s19 :: s20 :: s21 :: s22 :: s23 :: s24 :: s25 :: s26 :: s27 :: s28 :: s29 :: s30 :: s31 :: s32 :: s33 :: s34 :: s35 :: Sl.ow (ds ++ [d]) :: rr)) := id rfl
@[simp ↓] theorem x_pop36 {s0 s1 s2 s3 s4 s5 s6 s7 s8 s9 s10 s11 s12 s13 s14 s15 s16 s17 s18 s19 s20 s21 s22 s23 s24 s25 s26 s27 s28 s29 s30 s31 s32 s33 s34 s35 : Sl} {rr : List Sl} {ds : List D} : wPop 36 D0 (s0 :: s1 :: s2 :: s3 :: s4 :: s5 :: s6 :: s7 :: s8 :: s9 :: s10 :: s11 :: s12 :: s13 :: s14 :: s15 :: s16 :: s17 :: s18 :: s19 :: s20 :: s21 :: s22 :: s23 :: s24 :: s25 :: s26 :: s27 :: s28 :: s29 :: s30 :: s31 :: s32 :: s33 :: s34 :: s35 :: Sl.ow ds :: rr) = (ds ≠ [] ∧ D0.nx (s0 :: s1 :: s2 :: s3 :: s4 :: s5 :: s6 :: s7 :: s8 :: s9 :: s10 :: s11 :: s12 :: s13 :: s14 :: s15 :: s16 :: s17 :: s18 :: s19 :: s20 :: s21 :: s22 :: s23 :: s24 :: s25 :: s26 :: s27 :: s28 :: s29 :: s30 :: s31 :: s32 :: s33 :: s34 :: s35 :: Sl.ow ds.dropLast :: rr)) := id rfl
@[simp ↓] theorem x_v37 {s0 s1 s2 s3 s4 s5 s6 s7 s8 s9 s10 s11 s12 s13 s14 s15 s16 s17 s18 s19 s20 s21 s22 s23 s24 s25 s26 s27 s28 s29 s30 s31 s32 s33 s34 s35 s36 : Sl} {rr : List Sl} {d : D} : wV 37 (s0 :: s1 :: s2 :: s3 :: s4 :: s5 :: s6 :: s7 :: s8 :: s9 :: s10 :: s11 :: s12 :: s13 :: s14 :: s15 :: s16 :: s17 :: s18 :: s19 :: s20 :: s21 :: s22 :: s23 :: s24 :: s25 :: s26 :: s27 :: s28 :: s29 :: s30 :: s31 :: s32 :: s33 :: s34 :: s35 :: s36 :: Sl.im d :: rr) Q = Q (.im d) (s0 :: s1 :: s2 :: s3 :: s4 :: s5 :: s6 :: s7 :: s8 :: s9 :: s10 :: s11 :: s12 :: s13 :: s14 :: s15 :: s16 :: s17 :: s18 :: s19 :: s20 :: s21 :: s22 :: s23 :: s24 :: s25 :: s26 :: s27 :: s28 :: s29 :: s30 :: s31 :: s32 :: s33 :: s34 :: s35 :: s36 :: Sl.im d :: rr) := id rfl
@[simp ↓] theorem x_v37o {s0 s1 s2 s3 s4 s5 s6 s7 s8 s9 s10 s11 s12 s13 s14 s15 s16 s17 s18 s19 s20 s21 s22 s23 s24 s25 s26 s27 s28 s29 s30 s31 s32 s33 s34 s35 s36 : Sl} {rr : List Sl} {ds : List D} : wV 37 (s0 :: s1 :: s2 :: s3 :: s4 :: s5 :: s6 :: s7 :: s8 :: s9 :: s10 :: s11 :: s12 :: s13 :: s14 :: s15 :: s16 :: s17 :: s18 :: s19 :: s20 :: s21 :: s22 :: s23 :: s24 :: s25 :: s26 :: s27 :: s28 :: s29 :: s30 :: s31 :: s32 :: s33 :: s34 :: s35 :: s36 :: Sl.ow ds :: rr) Q = Q (.im (.list ds)) (s0 :: s1 :: s2 :: s3 :: s4 :: s5 :: s6 :: s7 :: s8 :: s9 :: s10 :: s11 :: s12 :: s13 :: s14 :: s15 :: s16 :: s17 :: s18 :: s19 :: s20 :: s21 :: s22 :: s23 :: s24 :: s25 :: s26 :: s27 :: s28 :: s29 :: s30 :: s31 :: s32 :: s33 :: s34 :: s35 :: s36 :: Sl.im (.list ds) :: rr) := id rfl
@[simp ↓] theorem x_v37s {s0 s1 s2 s3 s4 s5 s6 s7 s8 s9 s10 s11 s12 s13 s14 s15 s16 s17 s18 s19 s20 s21 s22 s23 s24 s25 s26 s27 s28 s29 s30 s31 s32 s33 s34 s35 s36 : Sl} {rr : List Sl} : wV 37 (s0 :: s1 :: s2 :: s3 :: s4 :: s5 :: s6 :: s7 :: s8 :: s9 :: s10 :: s11 :: s12 :: s13 :: s14 :: s15 :: s16 :: s17 :: s18 :: s19 :: s20 :: s21 :: s22 :: s23 :: s24 :: s25 :: s26 :: s27 :: s28 :: s29 :: s30 :: s31 :: s32 :: s33 :: s34 :: s35 :: s36 :: Sl.src :: rr) Q = Q .src (s0 :: s1 :: s2 :: s3 :: s4 :: s5 :: s6 :: s7 :: s8 :: s9 :: s10 :: s11 :: s12 :: s13 :: s14 :: s15 :: s16 :: s17 :: s18 :: s19 :: s20 :: s21 :: s22 :: s23 :: s24 :: s25 :: s26 :: s27 :: s28 :: s29 :: s30 :: s31 :: s32 :: s33 :: s34 :: s35 :: s36 :: Sl.src :: rr) := id rfl
@[simp ↓] theorem x_p37 {s0 s1 s2 s3 s4 s5 s6 s7 s8 s9 s10 s11 s12 s13 s14 s15 s16 s17 s18 s19 s20 s21 s22 s23 s24 s25 s26 s27 s28 s29 s30 s31 s32 s33 s34 s35 s36 : Sl} {rr : List Sl} {d : D} : wP 37 (s0 :: s1 :: s2 :: s3 :: s4 :: s5 :: s6 :: s7 :: s8 :: s9 :: s10 :: s11 :: s12 :: s13 :: s14 :: s15 :: s16 :: s17 :: s18 :: s19 :: s20 :: s21 :: s22 :: s23 :: s24 :: s25 :: s26 :: s27 :: s28 :: s29 :: s30 :: s31 :: s32 :: s33 :: s34 :: s35 :: s36 :: Sl.im d :: rr) Q = Q (.im d) (s0 :: s1 :: s2 :: s3 :: s4 :: s5 :: s6 :: s7 :: s8 :: s9 :: s10 :: s11 :: s12 :: s13 :: s14 :: s15 :: s16 :: s17 :: s18 :: s19 :: s20 :: s21 :: s22 :: s23 :: s24 :: s25 :: s26 :: s27 :: s28 :: s29 :: s30 :: s31 :: s32 :: s33 :: s34 :: s35 :: s36 :: Sl.im d :: rr) := id rfl
@[simp ↓] theorem x_p37o {s0 s1 s2 s3 s4 s5 s6 s7 s8 s9 s10 s11 s12 s13 s14 s15 s16 s17 s18 s19 s20 s21 s22 s23 s24 s25 s26 s27 s28 s29 s30 s31 s32 s33 s34 s35 s36 : Sl} {rr : List Sl} {ds : List D} : wP 37 (s0 :: s1 :: s2 :: s3 :: s4 :: s5 :: s6 :: s7 :: s8 :: s9 :: s10 :: s11 :: s12 :: s13 :: s14 :: s15 :: s16 :: s17 :: s18 :: s19 :: s20 :: s21 :: s22 :: s23 :: s24 :: s25 :: s26 :: s27 :: s28 :: s29 :: s30 :: s31 :: s32 :: s33 :: s34 :: s35 :: s36 :: Sl.ow ds :: rr) Q = Q (.pk ds) (s0 :: s1 :: s2 :: s3 :: s4 :: s5 :: s6 :: s7 :: s8 :: s9 :: s10 :: s11 :: s12 :: s13 :: s14 :: s15 :: s16 :: s17 :: s18 :: s19 :: s20 :: s21 :: s22 :: s23 :: s24 :: s25 :: s26 :: s27 :: s28 :: s29 :: s30 :: s31 :: s32 :: s33 :: s34 :: s35 :: s36 :: Sl.ow ds :: rr) := id rfl
@[simp ↓] theorem x_p37s {s0 s1 s2 s3 s4 s5 s6 s7 s8 s9 s10 s11 s12 s13 s14 s15 s16 s17 s18 s19 s20 s21 s22 s23 s24 s25 s26 s27 s28 s29 s30 s31 s32 s33 s34 s35 s36 : Sl} {rr : List Sl} : wP 37 (s0 :: s1 :: s2 :: s3 :: s4 :: s5 :: s6 :: s7 :: s8 :: s9 :: s10 :: s11 :: s12 :: s13 :: s14 :: s15 :: s16 :: s17 :: s18 :: s19 :: s20 :: s21 :: s22 :: s23 :: s24 :: s25 :: s26 :: s27 :: s28 :: s29 :: s30 :: s31 :: s32 :: s33 :: s34 :: s35 :: s36 :: Sl.src :: rr) Q = Q .src (s0 :: s1 :: s2 :: s3 :: s4 :: s5 :: s6 :: s7 :: s8 :: s9 :: s10 :: s11 :: s12 :: s13 :: s14 :: s15 :: s16 :: s17 :: s18 :: s19 :: s20 :: s21 :: s22 :: s23 :: s24 :: s25 :: s26 :: s27 :: s28 :: s29 :: s30 :: s31 :: s32 :: s33 :: s34 :: s35 :: s36 :: Sl.src :: rr) := id rfl
@[simp ↓] theorem x_owA37 {s0 s1 s2 s3 s4 s5 s6 s7 s8 s9 s10 s11 s12 s13 s14 s15 s16 s17 s18 s19 s20 s21 s22 s23 s24 s25 s26 s27 s28 s29 s30 s31 s32 s33 s34 s35 s36 : Sl} {rr : List Sl} {ds : List D} : owAt 37 (s0 :: s1 :: s2 :: s3 :: s4 :: s5 :: s6 :: s7 :: s8 :: s9 :: s10 :: s11 :: s12 :: s13 :: s14 :: s15 :: s16 :: s17 :: s18 :: s19 :: s20 :: s21 :: s22 :: s23 :: s24 :: s25 :: s26 :: s27 :: s28 :: s29 :: s30 :: s31 :: s32 :: s33 :: s34 :: s35 :: s36 :: Sl.ow ds :: rr) = True := eq_true ⟨ds, rfl⟩
@[simp ↓] theorem x_setK37 {s0 s1 s2 s3 s4 s5 s6 s7 s8 s9 s10 s11 s12 s13 s14 s15 s16 s17 s18 s19 s20 s21 s22 s23 s24 s25 s26 s27 s28 s29 s30 s31 s32 s33 s34 s35 s36 : Sl} {rr : List Sl} {ds : List D} {d : D} {k : Int} : setK 37 D0 d k (s0 :: s1 :: s2 :: s3 :: s4 :: s5 :: s6 :: s7 :: s8 :: s9 :: s10 :: s11 :: s12 :: s13 :: s14 :: s15 :: s16 :: s17 :: s18 :: s19 :: s20 :: s21 :: s22 :: s23 :: s24 :: s25 :: s26 :: s27 :: s28 :: s29 :: s30 :: s31 :: s32 :: s33 :: s34 :: s35 :: s36 :: Sl.ow ds :: rr) = got (ixN ds.length k) fun j => D0.nx (s0 :: s1 :: s2 :: s3 :: s4 :: s5 :: s6 :: s7 :: s8 :: s9 :: s10 :: s11 :: s12 :: s13 :: s14 :: s15 :: s16 :: s17 :: s18 :: s19 :: s20 :: s21 :: s22 :: s23 :: s24 :: s25 :: s26 :: s27 :: s28 :: s29 :: s30 :: s31 :: s32 :: s33 :: s34 :: s35 :: s36 :: Sl.ow (ds.set j d) :: rr) := id rfl
@[simp ↓] theorem x_appK37 {s0 s1 s2 s3 s4 s5 s6 s7 s8 s9 s10 s11 s12 s13 s14 s15 s16 s17 s18 s19 s20 s21 s22 s23 s24 s25 s26 s27 s28 s29 s30 s31 s32 s33 s34 s35 s36 : Sl} {rr : List Sl} {ds : List D} {d : D} : appK 37 D0 d (s0 :: s1 :: s2 :: s3 :: s4 :: s5 :: s6 :: s7 :: s8 :: s9 :: s10 :: s11 :: s12 :: s13 :: s14 :: s15 :: s16 :: s17 :: s18 :: s19 :: s20 :: s21 :: s22 :: s23 :: s24 :: s25 :: s26 :: s27 :: s28 :: s29 :: s30 :: s31 :: s32 :: s33 :: s34 :: s35 :: s36 :: Sl.ow ds :: rr) = (ds.length ≤ 100000 ∧ D0.nx (s0 :: s1 :: s2 :: s3 :: s4 :: s5 :: s6 :: s7 :: s8 :: s9 :: s10 :: s11 :: s12 :: s13 :: s14 :: s15 :: s16 :: s17 :: s18 :: s19 :: s20 :: s21 :: s22 :: s23 :: s24 :: s25 :: s26 :: s27 :: s28 :: s29 :: s30 :: s31 :: s32 :: s33 :: s34 :: s35 :: s36 :: Sl.ow (ds ++ [d]) :: rr)) := id rfl
@[simp ↓] theorem x_pop37 {s0 s1 s2 s3 s4 s5 s6 s7 s8 s9 s10 s11 s12 s13 s14 s15 s16 s17 s18 s19 s20 s21 s22 s23 s24 s25 s26 s27 s28 s29 s30 s31 s32 s33 s34 s35 s36 : Sl} {rr : List Sl} {ds : List D} : wPop 37 D0 (s0 :: s1 :: s2 :: s3 :: s4 :: s5 :: s6 :: s7 :: s8 :: s9 :: s10 :: s11 :: s12 :: s13 :: s14 :: s15 :: s16 :: s17 :: s18 :: s19 :: s20 :: s21 :: s22 :: s23 :: s24 :: s25 :: s26 :: s27 :: s28 :: s29 :: s30 :: s31 :: s32 :: s33 :: s34 :: s35 :: s36 :: Sl.ow ds :: rr) = (ds ≠ [] ∧ D0.nx (s0 :: s1 :: s2 :: s3 :: s4 :: s5 :: s6 :: s7 :: s8 :: s9 :: s10 :: s11 :: s12 :: s13 :: s14 :: s15 :: s16 :: s17 :: s18 :: s19 :: s20 :: s21 :: s22 :: s23 :: s24 :: s25 :: s26 :: s27 :: s28 :: s29 :: s30 :: s31 :: s32 :: s33 :: s34 :: s35 :: s36 :: Sl.ow ds.dropLast :: rr)) := id rfl
@[simp ↓] theorem x_v38 {s0 s1 s2 s3 s4 s5 s6 s7 s8 s9 s10 s11 s12 s13 s14 s15 s16 s17 s18 s19 s20 s21 s22 s23 s24 s25 s26 s27 s28 s29 s30 s31 s32 s33 s34 s35 s36 s37 : Sl} {rr : List Sl} {d : D} : wV 38 (s0 :: s1 :: s2 :: s3 :: s4 :: s5 :: s6 :: s7 :: s8 :: s9 :: s10 :: s11 :: s12 :: s13 :: s14 :: s15 :: s16 :: s17 :: s18 :: s19 :: s20 :: s21 :: s22 :: s23 :: s24 :: s25 :: s26 :: s27 :: s28 :: s29 :: s30 :: s31 :: s32 :: s33 :: s34 :: s35 :: s36 :: s37 :: Sl.im d :: rr) Q = Q (.im d) (s0 :: s1 :: s2 :: s3 :: s4 :: s5 :: s6 :: s7 :: s8 :: s9 :: s10 :: s11 :: s12 :: s13 :: s14 :: s15 :: s16 :: s17 :: s18 :: s19 :: s20 :: s21 :: s22 :: s23 :: s24 :: s25 :: s26 :: s27 :: s28 :: s29 :: s30 :: s31 :: s32 :: s33 :: s34 :: s35 :: s36 :: s37 :: Sl.im d :: rr) := id rfl
@[simp ↓] theorem x_v38o {s0 s1 s2 s3 s4 s5 s6 s7 s8 s9 s10 s11 s12 s13 s14 s15 s16 s17 s18 s19 s20 s21 s22 s23 s24 s25 s26 s27 s28 s29 s30 s31 s32 s33 s34 s35 s36 s37 : Sl} {rr : List Sl} {ds : List D} : wV 38 (s0 :: s1 :: s2 :: s3 :: s4 :: s5 :: s6 :: s7 :: s8 :: s9 :: s10 :: s11 :: s12 :: s13 :: s14 :: s15 :: s16 :: s17 :: s18 :: s19 :: s20 :: s21 :: s22 :: s23 :: s24 :: s25 :: s26 :: s27 :: s28 :: s29 :: s30 :: s31 :: s32 :: s33 :: s34 :: s35 :: s36 :: s37 :: Sl.ow ds :: rr) Q = Q (.im (.list ds)) (s0 :: s1 :: s2 :: s3 :: s4 :: s5 :: s6 :: s7 :: s8 :: s9 :: s10 :: s11 :: s12 :: s13 :: s14 :: s15 :: s16 :: s17 :: s18 :: s19 :: s20 :: s21 :: s22 :: s23 :: s24 :: s25 :: s26 :: s27 :: s28 :: s29 :: s30 :: s31 :: s32 :: s33 :: s34 :: s35 :: s36 :: s37 :: Sl.im (.list ds) :: rr) := id rfl
@[simp ↓] theorem x_v38s {s0 s1 s2 s3 s4 s5 s6 s7 s8 s9 s10 s11 s12 s13 s14 s15 s16 s17 s18 s19 s20 s21 s22 s23 s24 s25 s26 s27 s28 s29 s30 s31 s32 s33 s34 s35 s36 s37 : Sl} {rr : List Sl} : wV 38 (s0 :: s1 :: s2 :: s3 :: s4 :: s5 :: s6 :: s7 :: s8 :: s9 :: s10 :: s11 :: s12 :: s13 :: s14 :: s15 :: s16 :: s17 :: s18 :: s19 :: s20 :: s21 :: s22 :: s23 :: s24 :: s25 :: s26 :: s27 :: s28 :: s29 :: s30 :: s31 :: s32 :: s33 :: s34 :: s35 :: s36 :: s37 :: Sl.src :: rr) Q = Q .src (s0 :: s1 :: s2 :: s3 :: s4 :: s5 :: s6 :: s7 :: s8 :: s9 :: s10 :: s11 :: s12 :: s13 :: s14 :: s15 :: s16 :: s17 :: s18 :: s19 :: s20 :: s21 :: s22 :: s23 :: s24 :: s25 :: s26 :: s27 :: s28 :: s29 :: s30 :: s31 :: s32 :: s33 :: s34 :: s35 :: s36 :: s37 :: Sl.src :: rr) := id rfl
@[simp ↓] theorem x_p38 {s0 s1 s2 s3 s4 s5 s6 s7 s8 s9 s10 s11 s12 s13 s14 s15 s16 s17 s18 s19 s20 s21 s22 s23 s24 s25 s26 s27 s28 s29 s30 s31 s32 s33 s34 s35 s36 s37 : Sl} {rr : List Sl} {d : D} : wP 38 (s0 :: s1 :: s2 :: s3 :: s4 :: s5 :: s6 :: s7 :: s8 :: s9 :: s10 :: s11 :: s12 :: s13 :: s14 :: s15 :: s16 :: s17 :: s18 :: s19 :: s20 :: s21 :: s22 :: s23 :: s24 :: s25 :: s26 :: s27 :: s28 :: s29 :: s30 :: s31 :: s32 :: s33 :: s34 :: s35 :: s36 :: s37 :: Sl.im d :: rr) Q = Q (.im d) (s0 :: s1 :: s2 :: s3 :: s4 :: s5 :: s6 :: s7 :: s8 :: s9 :: s10 :: s11 :: s12 :: s13 :: s14 :: s15 :: s16 :: s17 :: s18 :: s19 :: s20 :: s21 :: s22 :: s23 :: s24 :: s25 :: s26 :: s27 :: s28 :: s29 :: s30 :: s31 :: s32 :: s33 :: s34 :: s35 :: s36 :: s37 :: Sl.im d :: rr) := id rfl
@[simp ↓] theorem x_p38o {s0 s1 s2 s3 s4 s5 s6 s7 s8 s9 s10 s11 s12 s13 s14 s15 s16 s17 s18 s19 s20 s21 s22 s23 s24 s25 s26 s27 s28 s29 s30 s31 s32 s33 s34 s35 s36 s37 : Sl} {rr : List Sl} {ds : List D} : wP 38 (s0 :: s1 :: s2 :: s3 :: s4 :: s5 :: s6 :: s7 :: s8 :: s9 :: s10 :: s11 :: s12 :: s13 :: s14 :: s15 :: s16 :: s17 :: s18 :: s19 :: s20 :: s21 :: s22 :: s23 :: s24 :: s25 :: s26 :: s27 :: s28 :: s29 :: s30 :: s31 :: s32 :: s33 :: s34 :: s35 :: s36 :: s37 :: Sl.ow ds :: rr) Q = Q (.pk ds) (s0 :: s1 :: s2 :: s3 :: s4 :: s5 :: s6 :: s7 :: s8 :: s9 :: s10 :: s11 :: s12 :: s13 :: s14 :: s15 :: s16 :: s17 :: s18 :: s19 :: s20 :: s21 :: s22 :: s23 :: s24 :: s25 :: s26 :: s27 :: s28 :: s29 :: s30 :: s31 :: s32 :: s33 :: s34 :: s35 :: s36 :: s37 :: Sl.ow ds :: rr) := id rfl
@[simp ↓] theorem x_p38s {s0 s1 s2 s3 s4 s5 s6 s7 s8 s9 s10 s11 s12 s13 s14 s15 s16 s17 s18 s19 s20 s21 s22 s23 s24 s25 s26 s27 s28 s29 s30 s31 s32 s33 s34 s35 s36 s37 : Sl} {rr : List Sl} : wP 38 (s0 :: s1 :: s2 :: s3 :: s4 :: s5 :: s6 :: s7 :: s8 :: s9 :: s10 :: s11 :: s12 :: s13 :: s14 :: s15 :: s16 :: s17 :: s18 :: s19 :: s20 :: s21 :: s22 :: s23 :: s24 :: s25 :: s26 :: s27 :: s28 :: s29 :: s30 :: s31 :: s32 :: s33 :: s34 :: s35 :: s36 :: s37 :: Sl.src :: rr) Q = Q .src (s0 :: s1 :: s2 :: s3 :: s4 :: s5 :: s6 :: s7 :: s8 :: s9 :: s10 :: s11 :: s12 :: s13 :: s14 :: s15 :: s16 :: s17 :: s18 :: s19 :: s20 :: s21 :: s22 :: s23 :: s24 :: s25 :: s26 :: s27 :: s28 :: s29 :: s30 :: s31 :: s32 :: s33 :: s34 :: s35 :: s36 :: s37 :: Sl.src :: rr) := id rfl
@[simp ↓] theorem x_owA38 {s0 s1 s2 s3 s4 s5 s6 s7 s8 s9 s10 s11 s12 s13 s14 s15 s16 s17 s18 s19 s20 s21 s22 s23 s24 s25 s26 s27 s28 s29 s30 s31 s32 s33 s34 s35 s36 s37 : Sl} {rr : List Sl} {ds : List D} : owAt 38 (s0 :: s1 :: s2 :: s3 :: s4 :: s5 :: s6 :: s7 :: s8 :: s9 :: s10 :: s11 :: s12 :: s13 :: s14 :: s15 :: s16 :: s17 :: s18 :: s19 :: s20 :: s21 :: s22 :: s23 :: s24 :: s25 :: s26 :: s27 :: s28 :: s29 :: s30 :: s31 :: s32 :: s33 :: s34 :: s35 :: s36 :: s37 :: Sl.ow ds :: rr) = True := eq_true ⟨ds, rfl⟩
@[simp ↓] theorem x_setK38 {s0 s1 s2 s3 s4 s5 s6 s7 s8 s9 s10 s11 s12 s13 s14 s15 s16 s17 s18 s19 s20 s21 s22 s23 s24 s25 s26 s27 s28 s29 s30 s31 s32 s33 s34 s35 s36 s37 : Sl} {rr : List Sl} {ds : List D} {d : D} {k : Int} : setK 38 D0 d k (s0 :: s1 :: s2 :: s3 :: s4 :: s5 :: s6 :: s7 :: s8 :: s9 :: s10 :: s11 :: s12 :: s13 :: s14 :: s15 :: s16 :: s17 :: s18 :: s19 :: s20 :: s21 :: s22 :: s23 :: s24 :: s25 :: s26 :: s27 :: s28 :: s29 :: s30 :: s31 :: s32 :: s33 :: s34 :: s35 :: s36 :: s37 :: Sl.ow ds :: rr) = got (ixN ds.length k) fun j => D0.nx (s0 :: s1 :: s2 :: s3 :: s4 :: s5 :: s6 :: s7 :: s8 :: s9 :: s10 :: s11 :: s12 :: s13 :: s14 :: s15 :: s16 :: s17 :: s18 :: s19 :: s20 :: s21 :: s22 :: s23 :: s24 :: s25 :: s26 :: s27 :: s28 :: s29 :: s30 :: s31 :: s32 :: s33 :: s34 :: s35 :: s36 :: s37 :: Sl.ow (ds.set j d) :: rr) := id rfl
@[simp ↓] theorem x_appK38 {s0 s1 s2 s3 s4 s5 s6 s7 s8 s9 s10 s11 s12 s13 s14 s15 s16 s17 s18 s19 s20 s21 s22 s23 s24 s25 s26 s27 s28 s29 s30 s31 s32 s33 s34 s35 s36 s37 : Sl} {rr : List Sl} {ds : List D} {d : D} : appK 38 D0 d (s0 :: s1 :: s2 :: s3 :: s4 :: s5 :: s6 :: s7 :: s8 :: s9 :: s10 :: s11 :: s12 :: s13 :: s14 :: s15 :: s16 :: s17 :: s18 :: s19 :: s20 :: s21 :: s22 :: s23 :: s24 :: s25 :: s26 :: s27 :: s28 :: s29 :: s30 :: s31 :: s32 :: s33 :: s34 :: s35 :: s36 :: s37 :: Sl.ow ds :: rr) = (ds.length ≤ 100000 ∧ D0.nx (s0 :: s1 :: s2 :: s3 :: s4 :: s5 :: s6 :: s7 :: s8 :: s9 :: s10 :: s11 :: s12 :: s13 :: s14 :: s15 :: s16 :: s17 :: s18 :: s19 :: s20 :: s21 :: s22 :: s23 :: s24 :: s25 :: s26 :: s27 :: s28 :: s29 :: s30 :: s31 :: s32 :: s33 :: s34 :: s35 :: s36 :: s37 :: Sl.ow (ds ++ [d]) :: rr)) := id rfl
@[simp ↓] theorem x_pop38 {s0 s1 s2 s3 s4 s5 s6 s7 s8 s9 s10 s11 s12 s13 s14 s15 s16 s17 s18 s19 s20 s21 s22 s23 s24 s25 s26 s27 s28 s29 s30 s31 s32 s33 s34 s35 s36 s37 : Sl} {rr : List Sl} {ds : List D} : wPop 38 D0 (s0 :: s1 :: s2 :: s3 :: s4 :: s5 :: s6 :: s7 :: s8 :: s9 :: s10 :: s11 :: s12 :: s13 :: s14 :: s15 :: s16 :: s17 :: s18 :: s19 :: s20 :: s21 :: s22 :: s23 :: s24 :: s25 :: s26 :: s27 :: s28 :: s29 :: s30 :: s31 :: s32 :: s33 :: s34 :: s35 :: s36 :: s37 :: Sl.ow ds :: rr) = (ds ≠ [] ∧ D0.nx (s0 :: s1 :: s2 :: s3 :: s4 :: s5 :: s6 :: s7 :: s8 :: s9 :: s10 :: s11 :: s12 :: s13 :: s14 :: s15 :: s16 :: s17 :: s18 :: s19 :: s20 :: s21 :: s22 :: s23 :: s24 :: s25 :: s26 :: s27 :: s28 :: s29 :: s30 :: s31 :: s32 :: s33 :: s34 :: s35 :: s36 :: s37 :: Sl.ow ds.dropLast :: rr)) := id rfl
@[simp ↓] theorem x_v39 {s0 s1 s2 s3 s4 s5 s6 s7 s8 s9 s10 s11 s12 s13 s14 s15 s16 s17 s18 s19 s20 s21 s22 s23 s24 s25 s26 s27 s28 s29 s30 s31 s32 s33 s34 s35 s36 s37 s38 : Sl} {rr : List Sl} {d : D} : wV 39 (s0 :: s1 :: s2 :: s3 :: s4 :: s5 :: s6 :: s7 :: s8 :: s9 :: s10 :: s11 :: s12 :: s13 :: s14 :: s15 :: s16 :: s17 :: s18 :: s19 :: s20 :: s21 :: s22 :: s23 :: s24 :: s25 :: s26 :: s27 :: s28 :: s29 :: s30 :: s31 :: s32 :: s33 :: s34 :: s35 :: s36 :: s37 :: s38 :: Sl.im d :: rr) Q = Q (.im d) (s0 :: s1 :: s2 :: s3 :: s4 :: s5 :: s6 :: s7 :: s8 :: s9 :: s10 :: s11 :: s12 :: s13 :: s14 :: s15 :: s16 :: s17 :: s18 :: s19 :: s20 :: s21 :: s22 :: s23 :: s24 :: s25 :: s26 :: s27 :: s28 :: s29 :: s30 :: s31 :: s32 :: s33 :: s34 :: s35 :: s36 :: s37 :: s38 :: Sl.im d :: rr) := id rfl
@[simp ↓] theorem x_v39o {s0 s1 s2 s3 s4 s5 s6 s7 s8 s9 s10 s11 s12 s13 s14 s15 s16 s17 s18 s19 s20 s21 s22 s23 s24 s25 s26 s27 s28 s29 s30 s31 s32 s33 s34 s35 s36 s37 s38 : Sl} {rr : List Sl} {ds : List D} : wV 39 (s0 :: s1 :: s2 :: s3 :: s4 :: s5 :: s6 :: s7 :: s8 :: s9 :: s10 :: s11 :: s12 :: s13 :: s14 :: s15 :: s16 :: s17 :: s18 :: s19 :: s20 :: s21 :: s22 :: s23 :: s24 :: s25 :: s26 :: s27 :: s28 :: s29 :: s30 :: s31 :: s32 :: s33 :: s34 :: s35 :: s36 :: s37 :: s38 :: Sl.ow ds :: rr) Q = Q (.im (.list ds)) (s0 :: s1 :: s2 :: s3 :: s4 :: s5 :: s6 :: s7 :: s8 :: s9 :: s10 :: s11 :: s12 :: s13 :: s14 :: s15 :: s16 :: s17 :: s18 :: s19 :: s20 :: s21 :: s22 :: s23 :: s24 :: s25 :: s26 :: s27 :: s28 :: s29 :: s30 :: s31 :: s32 :: s33 :: s34 :: s35 :: s36 :: s37 :: s38 :: Sl.im (.list ds) :: rr) := id rfl
@[simp ↓] theorem x_v39s {s0 s1 s2 s3 s4 s5 s6 s7 s8 s9 s10 s11 s12 s13 s14 s15 s16 s17 s18 s19 s20 s21 s22 s23 s24 s25 s26 s27 s28 s29 s30 s31 s32 s33 s34 s35 s36 s37 s38 : Sl} {rr : List Sl} : wV 39 (s0 :: s1 :: s2 :: s3 :: s4 :: s5 :: s6 :: s7 :: s8 :: s9 :: s10 :: s11 :: s12 :: s13 :: s14 :: s15 :: s16 :: s17 :: s18 :: s19 :: s20 :: s21 :: s22 :: s23 :: s24 :: s25 :: s26 :: s27 :: s28 :: s29 :: s30 :: s31 :: s32 :: s33 :: s34 :: s35 :: s36 :: s37 :: s38 :: Sl.src :: rr) Q = Q .src (s0 :: s1 :: s2 :: s3 :: s4 :: s5 :: s6 :: s7 :: s8 :: s9 :: s10 :: s11 :: s12 :: s13 :: s14 :: s15 :: s16 :: s17 :: s18 :: s19 :: s20 :: s21 :: s22 :: s23 :: s24 :: s25 :: s26 :: s27 :: s28 :: s29 :: s30 :: s31 :: s32 :: s33 :: s34 :: s35 :: s36 :: s37 :: s38 :: Sl.src :: rr) := id rfl
@[simp ↓] theorem x_p39 {s0 s1 s2 s3 s4 s5 s6 s7 s8 s9 s10 s11 s12 s13 s14 s15 s16 s17 s18 s19 s20 s21 s22 s23 s24 s25 s26 s27 s28 s29 s30 s31 s32 s33 s34 s35 s36 s37 s38 : Sl} {rr : List Sl} {d : D} : wP 39 (s0 :: s1 :: s2 :: s3 :: s4 :: s5 :: s6 :: s7 :: s8 :: s9 :: s10 :: s11 :: s12 :: s13 :: s14 :: s15 :: s16 :: s17 :: s18 :: s19 :: s20 :: s21 :: s22 :: s23 :: s24 :: s25 :: s26 :: s27 :: s28 :: s29 :: s30 :: s31 :: s32 :: s33 :: s34 :: s35 :: s36 :: s37 :: s38 :: Sl.im d :: rr) Q = Q (.im d) (s0 :: s1 :: s2 :: s3 :: s4 :: s5 :: s6 :: s7 :: s8 :: s9 :: s10 :: s11 :: s12 :: s13 :: s14 :: s15 :: s16 :: s17 :: s18 :: s19 :: s20 :: s21 :: s22 :: s23 :: s24 :: s25 :: s26 :: s27 :: s28 :: s29 :: s30 :: s31 :: s32 :: s33 :: s34 :: s35 :: s36 :: s37 :: s38 :: Sl.im d :: rr) := id rfl
@[simp ↓] theorem x_p39o {s0 s1 s2 s3 s4 s5 s6 s7 s8 s9 s10 s11 s12 s13 s14 s15 s16 s17 s18 s19 s20 s21 s22 s23 s24 s25 s26 s27 s28 s29 s30 s31 s32 s33 s34 s35 s36 s37 s38 : Sl} {rr : List Sl} {ds : List D} : wP 39 (s0 :: s1 :: s2 :: s3 :: s4 :: s5 :: s6 :: s7 :: s8 :: s9 :: s10 :: s11 :: s12 :: s13 :: s14 :: s15 :: s16 :: s17 :: s18 :: s19 :: s20 :: s21 :: s22 :: s23 :: s24 :: s25 :: s26 :: s27 :: s28 :: s29 :: s30 :: s31 :: s32 :: s33 :: s34 :: s35 :: s36 :: s37 :: s38 :: Sl.ow ds :: rr) Q = Q (.pk ds) (s0 :: s1 :: s2 :: s3 :: s4 :: s5 :: s6 :: s7 :: s8 :: s9 :: s10 :: s11 :: s12 :: s13 :: s14 :: s15 :: s16 :: s17 :: s18 :: s19 :: s20 :: s21 :: s22 :: s23 :: s24 :: s25 :: s26 :: s27 :: s28 :: s29 :: s30 :: s31 :: s32 :: s33 :: s34 :: s35 :: s36 :: s37 :: s38 :: Sl.ow ds :: rr) := id rfl
@[simp ↓] theorem x_p39s {s0 s1 s2 s3 s4 s5 s6 s7 s8 s9 s10 s11 s12 s13 s14 s15 s16 s17 s18 s19 s20 s21 s22 s23 s24 s25 s26 s27 s28 s29 s30 s31 s32 s33 s34 s35 s36 s37 s38 : Sl} {rr : List Sl} : wP 39 (s0 :: s1 :: s2 :: s3 :: s4 :: s5 :: s6 :: s7 :: s8 :: s9 :: s10 :: s11 :: s12 :: s13 :: s14 :: s15 :: s16 :: s17 :: s18 :: s19 :: s20 :: s21 :: s22 :: s23 :: s24 :: s25 :: s26 :: s27 :: s28 :: s29 :: s30 :: s31 :: s32 :: s33 :: s34 :: s35 :: s36 :: s37 :: s38 :: Sl.src :: rr) Q = Q .src (s0 :: s1 :: s2 :: s3 :: s4 :: s5 :: s6 :: s7 :: s8 :: s9 :: s10 :: s11 :: s12 :: s13 :: s14 :: s15 :: s16 :: s17 :: s18 :: s19 :: s20 :: s21 :: s22 :: s23 :: s24 :: s25 :: s26 :: s27 :: s28 :: s29 :: s30 :: s31 :: s32 :: s33 :: s34 :: s35 :: s36 :: s37 :: s38 :: Sl.src :: rr) := id rfl
@[simp ↓] theorem x_owA39 {s0 s1 s2 s3 s4 s5 s6 s7 s8 s9 s10 s11 s12 s13 s14 s15 s16 s17 s18 s19 s20 s21 s22 s23 s24 s25 s26 s27 s28 s29 s30 s31 s32 s33 s34 s35 s36 s37 s38 : Sl} {rr : List Sl} {ds : List D} : owAt 39 (s0 :: s1 :: s2 :: s3 :: s4 :: s5 :: s6 :: s7 :: s8 :: s9 :: s10 :: s11 :: s12 :: s13 :: s14 :: s15 :: s16 :: s17 :: s18 :: s19 :: s20 :: s21 :: s22 :: s23 :: s24 :: s25 :: s26 :: s27 :: s28 :: s29 :: s30 :: s31 :: s32 :: s33 :: s34 :: s35 :: s36 :: s37 :: s38 :: Sl.ow ds :: rr) = True := eq_true ⟨ds, rfl⟩
@[simp ↓] theorem x_setK39 {s0 s1 s2 s3 s4 s5 s6 s7 s8 s9 s10 s11 s12 s13 s14 s15 s16 s17 s18 s19 s20 s21 s22 s23 s24 s25 s26 s27 s28 s29 s30 s31 s32 s33 s34 s35 s36 s37 s38 : Sl} {rr : List Sl} {ds : List D} {d : D} {k : Int} : setK 39 D0 d k (s0 :: s1 :: s2 :: s3 :: s4 :: s5 :: s6 :: s7 :: s8 :: s9 :: s10 :: s11 :: s12 :: s13 :: s14 :: s15 :: s16 :: s17 :: s18 :: s19 :: s20 :: s21 :: s22 :: s23 :: s24 :: s25 :: s26 :: s27 :: s28 :: s29 :: s30 :: s31 :: s32 :: s33 :: s34 :: s35 :: s36 :: s37 :: s38 :: Sl.ow ds :: rr) = got (ixN ds.length k) fun j => D0.nx (s0 :: s1 :: s2 :: s3 :: s4 :: s5 :: s6 :: s7 :: s8 :: s9 :: s10 :: s11 :: s12 :: s13 :: s14 :: s15 :: s16 :: s17 :: s18 :: s19 :: s20 :: s21 :: s22 :: s23 :: s24 :: s25 :: s26 :: s27 :: s28 :: s29 :: s30 :: s31 :: s32 :: s33 :: s34 :: s35 :: s36 :: s37 :: s38 :: Sl.ow (ds.set j d) :: rr) := id rfl
@[simp ↓] theorem x_appK39 {s0 s1 s2 s3 s4 s5 s6 s7 s8 s9 s10 s11 s12 s13 s14 s15 s16 s17 s18 s19 s20 s21 s22 s23 s24 s25 s26 s27 s28 s29 s30 s31 s32 s33 s34 s35 s36 s37 s38 : Sl} {rr : List Sl} {ds : List D} {d : D} : appK 39 D0 d (s0 :: s1 :: s2 :: s3 :: s4 :: s5 :: s6 :: s7 :: s8 :: s9 :: s10 :: s11 :: s12 :: s13 :: s14 :: s15 :: s16 :: s17 :: s18 :: s19 :: s20 :: s21 :: s22 :: s23 :: s24 :: s25 :: s26 :: s27 :: s28 :: s29 :: s30 :: s31 :: s32 :: s33 :: s34 :: s35 :: s36 :: s37 :: s38 :: Sl.ow ds :: rr) = (ds.length ≤ 100000 ∧ D0.nx (s0 :: s1 :: s2 :: s3 :: s4 :: s5 :: s6 :: s7 :: s8 :: s9 :: s10 :: s11 :: s12 :: s13 :: s14 :: s15 :: s16 :: s17 :: s18 :: s19 :: s20 :: s21 :: s22 :: s23 :: s24 :: s25 :: s26 :: s27 :: s28 :: s29 :: s30 :: s31 :: s32 :: s33 :: s34 :: s35 :: s36 :: s37 :: s38 :: Sl.ow (ds ++ [d]) :: rr)) := id rfl
@[simp ↓] theorem x_pop39 {s0 s1 s2 s3 s4 s5 s6 s7 s8 s9 s10 s11 s12 s13 s14 s15 s16 s17 s18 s19 s20 s21 s22 s23 s24 s25 s26 s27 s28 s29 s30 s31 s32 s33 s34 s35 s36 s37 s38 : Sl} {rr : List Sl} {ds : List D} : wPop 39 D0 (s0 :: s1 :: s2 :: s3 :: s4 :: s5 :: s6 :: s7 :: s8 :: s9 :: s10 :: s11 :: s12 :: s13 :: s14 :: s15 :: s16 :: s17 :: s18 :: s19 :: s20 :: s21 :: s22 :: s23 :: s24 :: s25 :: s26 :: s27 :: s28 :: s29 :: s30 :: s31 :: s32 :: s33 :: s34 :: s35 :: s36 :: s37 :: s38 :: Sl.ow ds :: rr) = (ds ≠ [] ∧ D0.nx (s0 :: s1 :: s2 :: s3 :: s4 :: s5 :: s6 :: s7 :: s8 :: s9 :: s10 :: s11 :: s12 :: s13 :: s14 :: s15 :: s16 :: s17 :: s18 :: s19 :: s20 :: s21 :: s22 :: s23 :: s24 :: s25 :: s26 :: s27 :: s28 :: s29 :: s30 :: s31 :: s32 :: s33 :: s34 :: s35 :: s36 :: s37 :: s38 :: Sl.ow ds.dropLast :: rr)) := id rfl
@[simp ↓] theorem x_1 : w1 g1 wa ρ Q = wa ρ fun x ρ1 => g1 x fun z => Q z ρ1 := id rfl
@[simp ↓] theorem x_2 : w2 g wa wb ρ Q = wa ρ fun x ρ1 => wb ρ1 fun y ρ2 => g x.calm y fun z => Q z ρ2 := id rfl
@[simp ↓] theorem x_3 : w3 g g2 wa wb wc ρ Q = wa ρ fun x ρ1 => wb ρ1 fun y ρ2 => g x.calm y fun z => got z.bool? fun k => if k = true then wc ρ2 fun t ρ3 => g2 y.calm t fun z' => Q z' ρ3 else Q (.im (.bool false)) ρ2 := id rfl
@[simp ↓] theorem x_B : wB w ρ QT = w ρ fun x ρ1 => got x.bool? fun b => QT b ρ1 := id rfl
@[simp ↓] theorem x_Tr : wTr w ρ QT = w ρ fun x ρ1 => got x.tru? fun b => QT b ρ1 := id rfl
@[simp ↓] theorem x_Not : wNot t ρ QT = t ρ fun b ρ1 => QT (!b) ρ1 := id rfl
@[simp ↓] theorem x_And : wAnd t u ρ QT = t ρ fun b ρ1 => if b = true then u ρ1 QT else QT false ρ1 := id rfl
@[simp ↓] theorem x_Or : wOr t u ρ QT = t ρ fun b ρ1 => if b = true then QT true ρ1 else u ρ1 QT := id rfl
@[simp ↓] theorem x_AndV : wAndV wa wb ρ Q = wa ρ fun x ρ1 => got x.tru? fun k => if k = true then wb ρ1 Q else Q x ρ1 := id rfl
@[simp ↓] theorem x_OrV : wOrV wa wb ρ Q = wa ρ fun x ρ1 => got x.tru? fun k => if k = true then Q x ρ1 else wb ρ1 Q := id rfl
@[simp ↓] theorem x_NotV : wNotV wa ρ Q = wa ρ fun x ρ1 => got x.tru? fun k => Q (.im (.bool (!k))) ρ1 := id rfl
@[simp ↓] theorem x_Ite : wIte t wa wb ρ Q = t ρ fun b ρ1 => if b = true then wa ρ1 Q else wb ρ1 Q := id rfl
@[simp ↓] theorem x_Yes : wYes ρ QT = QT true ρ := id rfl
@[simp ↓] theorem x_N : wN ρ QA = QA [] ρ := id rfl
@[simp ↓] theorem x_A : wA wa r ρ QA = wa ρ fun x ρ1 => r ρ1 fun xs ρ2 => QA (x.calm :: xs) ρ2 := id rfl
@[simp ↓] theorem x_S : wS wa r ρ QA = wa ρ fun x ρ1 => got x.shr? fun y => r ρ1 fun xs ρ2 => QA (y :: xs) ρ2 := id rfl
@[simp ↓] theorem x_X : wX wa r ρ QA = wa ρ fun x ρ1 => got x.seq? fun ds => r ρ1 fun xs ρ2 => QA (ds.map Sl.im ++ xs) ρ2 := id rfl
@[simp ↓] theorem x_Tup : wTup r ρ Q = r ρ fun xs ρ1 => got (dats? xs) fun ds => ds.length ≤ 100000 ∧ Q (.im (.tuple ds)) ρ1 := id rfl
@[simp ↓] theorem x_Lst : wLst r ρ Q = r ρ fun xs ρ1 => got (dats? xs) fun ds => ds.length ≤ 100000 ∧ Q (.ow ds) ρ1 := id rfl
@[simp ↓] theorem x_F {ga : GA} : wF ga r ρ Q = r ρ fun xs ρ1 => ga xs fun z => Q z ρ1 := id rfl
@[simp ↓] theorem x_Call {m : MD} : wCall m r ρ Q = r ρ fun xs ρ1 => got (dats? xs) fun ds => m ds fun d => Q (.im d) ρ1 := id rfl
@[simp ↓] theorem x_CallS {m : MD} : wCallS m r ρ Q = r ρ fun xs ρ1 => got (srcs? xs) fun ds => m ds fun d => Q (.im d) ρ1 := id rfl
@[simp ↓] theorem x_Isi {T : String} : wIsi T w ρ Q = w ρ fun x ρ1 => got x.dat? fun d => Q (.im (.bool (isT T d))) ρ1 := id rfl
@[simp ↓] theorem x_Lc {v : WI} {vs : List Nat} : wLc v gg t w vs ρ Q = v ρ fun ds ρ1 => compD gg t w vs ds [] ρ1 fun acc ρ2 => Q (.ow acc) ρ2 := id rfl
@[simp ↓] theorem x_Sl {wl wh : WO} : wSl wa wl wh ρ Q = wa ρ fun x ρ1 => wl ρ1 fun lo ρ2 => wh ρ2 fun hi ρ3 => slG x.calm lo hi fun z => Q z ρ3 := id rfl
@[simp ↓] theorem x_O0 : wO0 ρ QO = QO none ρ := id rfl
@[simp ↓] theorem x_O1 : wO1 w ρ QO = w ρ fun x ρ1 => got x.int? fun i => QO (some i) ρ1 := id rfl
@[simp ↓] theorem x_uN {d : D} {P : List Sl → Prop} : uN i d ρ P = putK P i (.im d) ρ := id rfl
@[simp ↓] theorem x_uNil {P : List Sl → Prop} : uNil [] ρ P = P ρ := by unfold uNil; simp
@[simp ↓] theorem x_uCons {d : D} {ds : List D} {P : List Sl → Prop} : uCons gg gs (d :: ds) ρ P = gg d ρ fun ρ' => gs ds ρ' P := id rfl
@[simp ↓] theorem x_uT {ds : List D} {P : List Sl → Prop} : uT gs (.tuple ds) ρ P = gs ds ρ P := id rfl
variable {m n : Int} {bb : Bool} {ds es xs ys : List D} {d e : D} {z : Str}
@[simp ↓] theorem q_int {KK : Int → Prop} : got (Sl.int? (.im (.int m))) KK = KK m := id rfl
@[simp ↓] theorem q_bool {KK : Bool → Prop} : got (Sl.bool? (.im (.bool bb))) KK = KK bb := id rfl
@[simp ↓] theorem q_sto1 {KK : Sl → Prop} : got (Sl.sto? (.im d)) KK = KK (.im d) := id rfl
@[simp ↓] theorem q_sto2 {KK : Sl → Prop} : got (Sl.sto? (.ow ds)) KK = KK (.ow ds) := id rfl
@[simp ↓] theorem q_sto3 {KK : Sl → Prop} : got (Sl.sto? .src) KK = KK .src := id rfl
@[simp ↓] theorem q_shd1 {KK : D → Prop} : got (Sl.shd? (.im d)) KK = KK d := id rfl
@[simp ↓] theorem q_shd2 {KK : D → Prop} : got (Sl.shd? (.ow ds)) KK = KK (.list ds) := id rfl
@[simp ↓] theorem q_shr1 {KK : Sl → Prop} : got (Sl.shr? (.im d)) KK = KK (.im d) := id rfl
@[simp ↓] theorem q_shr2 {KK : Sl → Prop} : got (Sl.shr? (.ow ds)) KK = KK (.im (.list ds)) := id rfl
@[simp ↓] theorem q_shr3 {KK : Sl → Prop} : got (Sl.shr? .src) KK = KK .src := id rfl
@[simp ↓] theorem q_tru1 {KK : Bool → Prop} : got (Sl.tru? (.im (.bool bb))) KK = KK bb := id rfl
@[simp ↓] theorem q_tru2 {KK : Bool → Prop} : got (Sl.tru? (.im (.int m))) KK = KK (m != 0) := id rfl
@[simp ↓] theorem q_tru3 {KK : Bool → Prop} : got (Sl.tru? (.im .none)) KK = KK false := id rfl
@[simp ↓] theorem q_tru4 {KK : Bool → Prop} : got (Sl.tru? (.im (.tuple ds))) KK = KK (!ds.isEmpty) := id rfl
@[simp ↓] theorem q_tru5 {KK : Bool → Prop} : got (Sl.tru? (.im (.list ds))) KK = KK (!ds.isEmpty) := id rfl
@[simp ↓] theorem q_tru6 {KK : Bool → Prop} : got (Sl.tru? (.ow ds)) KK = KK (!ds.isEmpty) := id rfl
@[simp ↓] theorem q_tru7 {KK : Bool → Prop} : got (Sl.tru? (.pk ds)) KK = KK (!ds.isEmpty) := id rfl
@[simp ↓] theorem q_seq1 {KK : List D → Prop} : got (Sl.seq? (.im (.list ds))) KK = KK ds := id rfl
@[simp ↓] theorem q_seq2 {KK : List D → Prop} : got (Sl.seq? (.ow ds)) KK = KK ds := id rfl
@[simp ↓] theorem q_seq3 {KK : List D → Prop} : got (Sl.seq? (.pk ds)) KK = KK ds := id rfl
@[simp ↓] theorem q_lst1 {KK : List D → Prop} : got (Sl.lst? (.im (.list ds))) KK = KK ds := id rfl
@[simp ↓] theorem q_lst2 {KK : List D → Prop} : got (Sl.lst? (.ow ds)) KK = KK ds := id rfl
@[simp ↓] theorem q_lst3 {KK : List D → Prop} : got (Sl.lst? (.pk ds)) KK = KK ds := id rfl
@[simp ↓] theorem q_seq4 {KK : List D → Prop} : got (Sl.seq? (.im (.tuple ds))) KK = KK ds := id rfl
@[simp ↓] theorem q_tup {KK : List D → Prop} : got (Sl.tup? (.im (.tuple ds))) KK = KK ds := id rfl
@[simp ↓] theorem q_dat1 {KK : D → Prop} : got (Sl.dat? (.im d)) KK = KK d := id rfl
@[simp ↓] theorem q_dat2 {KK : D → Prop} : got (Sl.dat? (.ow ds)) KK = KK (.list ds) := id rfl
@[simp ↓] theorem q_dat3 {KK : D → Prop} : got (Sl.dat? (.pk ds)) KK = KK (.list ds) := id rfl
@[simp ↓] theorem q_dats0 {KK : List D → Prop} : got (dats? []) KK = KK [] := id rfl
@[simp ↓] theorem q_srcs0 {KK : List D → Prop} : got (srcs? [Sl.src]) KK = KK [] := id rfl
@[simp ↓] theorem q_dats1 {d0 : D} {KK : List D → Prop} : got (dats? [Sl.im d0]) KK = KK [d0] := id rfl
@[simp ↓] theorem q_srcs1 {d0 : D} {KK : List D → Prop} : got (srcs? [Sl.src, Sl.im d0]) KK = KK [d0] := id rfl
@[simp ↓] theorem q_dats2 {d0 d1 : D} {KK : List D → Prop} : got (dats? [Sl.im d0, Sl.im d1]) KK = KK [d0, d1] := id rfl
@[simp ↓] theorem q_srcs2 {d0 d1 : D} {KK : List D → Prop} : got (srcs? [Sl.src, Sl.im d0, Sl.im d1]) KK = KK [d0, d1] := id rfl
@[simp ↓] theorem q_dats3 {d0 d1 d2 : D} {KK : List D → Prop} : got (dats? [Sl.im d0, Sl.im d1, Sl.im d2]) KK = KK [d0, d1, d2] := id rfl
@[simp ↓] theorem q_srcs3 {d0 d1 d2 : D} {KK : List D → Prop} : got (srcs? [Sl.src, Sl.im d0, Sl.im d1, Sl.im d2]) KK = KK [d0, d1, d2] := id rfl
@[simp ↓] theorem q_dats4 {d0 d1 d2 d3 : D} {KK : List D → Prop} : got (dats? [Sl.im d0, Sl.im d1, Sl.im d2, Sl.im d3]) KK = KK [d0, d1, d2, d3] := id rfl
@[simp ↓] theorem q_srcs4 {d0 d1 d2 d3 : D} {KK : List D → Prop} : got (srcs? [Sl.src, Sl.im d0, Sl.im d1, Sl.im d2, Sl.im d3]) KK = KK [d0, d1, d2, d3] := id rfl
@[simp ↓] theorem q_dats5 {d0 d1 d2 d3 d4 : D} {KK : List D → Prop} : got (dats? [Sl.im d0, Sl.im d1, Sl.im d2, Sl.im d3, Sl.im d4]) KK = KK [d0, d1, d2, d3, d4] := id rfl
@[simp ↓] theorem q_srcs5 {d0 d1 d2 d3 d4 : D} {KK : List D → Prop} : got (srcs? [Sl.src, Sl.im d0, Sl.im d1, Sl.im d2, Sl.im d3, Sl.im d4]) KK = KK [d0, d1, d2, d3, d4] := id rfl
@[simp ↓] theorem q_dats6 {d0 d1 d2 d3 d4 d5 : D} {KK : List D → Prop} : got (dats? [Sl.im d0, Sl.im d1, Sl.im d2, Sl.im d3, Sl.im d4, Sl.im d5]) KK = KK [d0, d1, d2, d3, d4, d5] := id rfl
@[simp ↓] theorem q_srcs6 {d0 d1 d2 d3 d4 d5 : D} {KK : List D → Prop} : got (srcs? [Sl.src, Sl.im d0, Sl.im d1, Sl.im d2, Sl.im d3, Sl.im d4, Sl.im d5]) KK = KK [d0, d1, d2, d3, d4, d5] := id rfl
@[simp ↓] theorem q_dats7 {d0 d1 d2 d3 d4 d5 d6 : D} {KK : List D → Prop} : got (dats? [Sl.im d0, Sl.im d1, Sl.im d2, Sl.im d3, Sl.im d4, Sl.im d5, Sl.im d6]) KK = KK [d0, d1, d2, d3, d4, d5, d6] := id rfl
@[simp ↓] theorem q_srcs7 {d0 d1 d2 d3 d4 d5 d6 : D} {KK : List D → Prop} : got (srcs? [Sl.src, Sl.im d0, Sl.im d1, Sl.im d2, Sl.im d3, Sl.im d4, Sl.im d5, Sl.im d6]) KK = KK [d0, d1, d2, d3, d4, d5, d6] := id rfl
@[simp ↓] theorem q_dats8 {d0 d1 d2 d3 d4 d5 d6 d7 : D} {KK : List D → Prop} : got (dats? [Sl.im d0, Sl.im d1, Sl.im d2, Sl.im d3, Sl.im d4, Sl.im d5, Sl.im d6, Sl.im d7]) KK = KK [d0, d1, d2, d3, d4, d5, d6, d7] := id rfl
@[simp ↓] theorem q_dats9 {d0 d1 d2 d3 d4 d5 d6 d7 d8 : D} {KK : List D → Prop} : got (dats? [Sl.im d0, Sl.im d1, Sl.im d2, Sl.im d3, Sl.im d4, Sl.im d5, Sl.im d6, Sl.im d7, Sl.im d8]) KK = KK [d0, d1, d2, d3, d4, d5, d6, d7, d8] := id rfl
@[simp ↓] theorem q_dats10 {d0 d1 d2 d3 d4 d5 d6 d7 d8 d9 : D} {KK : List D → Prop} : got (dats? [Sl.im d0, Sl.im d1, Sl.im d2, Sl.im d3, Sl.im d4, Sl.im d5, Sl.im d6, Sl.im d7, Sl.im d8, Sl.im d9]) KK = KK [d0, d1, d2, d3, d4, d5, d6, d7, d8, d9] := id rfl
@[simp ↓] theorem q_dats11 {d0 d1 d2 d3 d4 d5 d6 d7 d8 d9 d10 : D} {KK : List D → Prop} : got (dats? [Sl.im d0, Sl.im d1, Sl.im d2, Sl.im d3, Sl.im d4, Sl.im d5, Sl.im d6, Sl.im d7, Sl.im d8, Sl.im d9, Sl.im d10]) KK = KK [d0, d1, d2, d3, d4, d5, d6, d7, d8, d9, d10] := id rfl
@[simp ↓] theorem q_dats12 {d0 d1 d2 d3 d4 d5 d6 d7 d8 d9 d10 d11 : D} {KK : List D → Prop} : got (dats? [Sl.im d0, Sl.im d1, Sl.im d2, Sl.im d3, Sl.im d4, Sl.im d5, Sl.im d6, Sl.im d7, Sl.im d8, Sl.im d9, Sl.im d10, Sl.im d11]) KK = KK [d0, d1, d2, d3, d4, d5, d6, d7, d8, d9, d10, d11] := id rfl
@[simp ↓] theorem q_dats13 {d0 d1 d2 d3 d4 d5 d6 d7 d8 d9 d10 d11 d12 : D} {KK : List D → Prop} : got (dats? [Sl.im d0, Sl.im d1, Sl.im d2, Sl.im d3, Sl.im d4, Sl.im d5, Sl.im d6, Sl.im d7, Sl.im d8, Sl.im d9, Sl.im d10, Sl.im d11, Sl.im d12]) KK = KK [d0, d1, d2, d3, d4, d5, d6, d7, d8, d9, d10, d11, d12] := id rfl
@[simp ↓] theorem q_dats14 {d0 d1 d2 d3 d4 d5 d6 d7 d8 d9 d10 d11 d12 d13 : D} {KK : List D → Prop} : got (dats? [Sl.im d0, Sl.im d1, Sl.im d2, Sl.im d3, Sl.im d4, Sl.im d5, Sl.im d6, Sl.im d7, Sl.im d8, Sl.im d9, Sl.im d10, Sl.im d11, Sl.im d12, Sl.im d13]) KK = KK [d0, d1, d2, d3, d4, d5, d6, d7, d8, d9, d10, d11, d12, d13] := id rfl
@[simp ↓] theorem q_dats15 {d0 d1 d2 d3 d4 d5 d6 d7 d8 d9 d10 d11 d12 d13 d14 : D} {KK : List D → Prop} : got (dats? [Sl.im d0, Sl.im d1, Sl.im d2, Sl.im d3, Sl.im d4, Sl.im d5, Sl.im d6, Sl.im d7, Sl.im d8, Sl.im d9, Sl.im d10, Sl.im d11, Sl.im d12, Sl.im d13, Sl.im d14]) KK = KK [d0, d1, d2, d3, d4, d5, d6, d7, d8, d9, d10, d11, d12, d13, d14] := id rfl
@[simp ↓] theorem q_dats16 {d0 d1 d2 d3 d4 d5 d6 d7 d8 d9 d10 d11 d12 d13 d14 d15 : D} {KK : List D → Prop} : got (dats? [Sl.im d0, Sl.im d1, Sl.im d2, Sl.im d3, Sl.im d4, Sl.im d5, Sl.im d6, Sl.im d7, Sl.im d8, Sl.im d9, Sl.im d10, Sl.im d11, Sl.im d12, Sl.im d13, Sl.im d14, Sl.im d15]) KK = KK [d0, d1, d2, d3, d4, d5, d6, d7, d8, d9, d10, d11, d12, d13, d14, d15] := id rfl
@[simp ↓] theorem q_at0 {KK : D → Prop} : got (atI (d :: ds) 0) KK = KK d := by rw [show atI (d :: ds) 0 = some d from by unfold atI ixN; rw [if_pos (by decide), if_pos (by simp)] <;> rfl] <;> rfl
@[simp ↓] theorem q_at1 {KK : D → Prop} : got (atI (d :: e :: ds) 1) KK = KK e := by rw [show atI (d :: e :: ds) 1 = some e from by unfold atI ixN; rw [if_pos (by decide), if_pos (by simp only [List.length_cons]; omega)] <;> rfl] <;> rfl
@[simp ↓] theorem q_sqT {KK : List D → Prop} : got (sqD? (.tuple ds)) KK = KK ds := id rfl
@[simp ↓] theorem q_sqL {KK : List D → Prop} : got (sqD? (.list ds)) KK = KK ds := id rfl
variable {x y : Sl}
@[simp ↓] theorem y_im : Sl.calm (.im d) = .im d := id rfl
@[simp ↓] theorem y_ow : Sl.calm (.ow ds) = .pk ds := id rfl
@[simp ↓] theorem y_pk : Sl.calm (.pk ds) = .pk ds := id rfl
@[simp ↓] theorem y_src : Sl.calm .src = .src := id rfl
@[simp ↓] theorem x_add : addG (.im (.int m)) (.im (.int n)) K = K (.im (.int (m + n))) := id rfl
@[simp ↓] theorem x_addT : addG (.im (.tuple xs)) (.im (.tuple ys)) K = (xs.length + ys.length ≤ 100000 ∧ K (.im (.tuple (xs ++ ys)))) := id rfl
@[simp ↓] theorem x_addPO : addG (.pk xs) (.ow ys) K = (xs.length + ys.length ≤ 100000 ∧ K (.ow (xs ++ ys))) := id rfl
@[simp ↓] theorem x_addPP : addG (.pk xs) (.pk ys) K = (xs.length + ys.length ≤ 100000 ∧ K (.ow (xs ++ ys))) := id rfl
@[simp ↓] theorem x_addPL : addG (.pk xs) (.im (.list ys)) K = (xs.length + ys.length ≤ 100000 ∧ K (.ow (xs ++ ys))) := id rfl
@[simp ↓] theorem x_addLO : addG (.im (.list xs)) (.ow ys) K = (xs.length + ys.length ≤ 100000 ∧ K (.ow (xs ++ ys))) := id rfl
@[simp ↓] theorem x_addLP : addG (.im (.list xs)) (.pk ys) K = (xs.length + ys.length ≤ 100000 ∧ K (.ow (xs ++ ys))) := id rfl
@[simp ↓] theorem x_addLL : addG (.im (.list xs)) (.im (.list ys)) K = (xs.length + ys.length ≤ 100000 ∧ K (.ow (xs ++ ys))) := id rfl
@[simp ↓] theorem x_mul : mulG (.im (.int m)) (.im (.int n)) K = (okMul m n ∧ K (.im (.int (m * n)))) := id rfl
@[simp ↓] theorem x_sub : subG (.im (.int m)) (.im (.int n)) K = K (.im (.int (m - n))) := id rfl
@[simp ↓] theorem x_div : divG (.im (.int m)) (.im (.int n)) K = (okDiv n ∧ K (.im (.int (m.fdiv n)))) := id rfl
@[simp ↓] theorem x_mod : modG (.im (.int m)) (.im (.int n)) K = (n ≠ 0 ∧ K (.im (.int (m.fmod n)))) := id rfl
@[simp ↓] theorem x_pow : powG (.im (.int m)) (.im (.int n)) K = (CPow m n ∧ K (.im (.int (m ^ n.toNat)))) := id rfl
@[simp ↓] theorem x_shl : shlG (.im (.int m)) (.im (.int n)) K = (CPow m n ∧ K (.im (.int (m * 2 ^ n.toNat)))) := id rfl
@[simp ↓] theorem x_cG {p : Int → Int → Bool} : cG p (.im (.int m)) (.im (.int n)) K = K (.im (.bool (p m n))) := id rfl
@[simp ↓] theorem x_neg : negG (.im (.int m)) K = K (.im (.int (-m))) := id rfl
@[simp ↓] theorem x_isN {f : Bool → Bool} : isG f x (.im .none) K = K (.im (.bool (f (isN x)))) := id rfl
@[simp ↓] theorem x_isB {f : Bool → Bool} : isG f x (.im (.bool bb)) K = got x.bool? fun a => K (.im (.bool (f (decide (a = bb))))) := id rfl
@[simp ↓] theorem x_ix : ixG x (.im (.int n)) K = got x.seq? fun ds => got (atI ds n) fun d => K (.im d) := id rfl
@[simp ↓] theorem x_len : lenG [x] K = got x.seq? fun ds => K (.im (.int ds.length)) := id rfl
@[simp ↓] theorem x_repr : reprG [x] K = got x.dat? fun d => okR d ∧ K (.im (.str d.shown)) := id rfl
@[simp ↓] theorem x_i1 {f : Int → Int} : i1G f [.im (.int m)] K = K (.im (.int (f m))) := id rfl
@[simp ↓] theorem x_i2 {f : Int → Int → Int} : i2G f [.im (.int m), .im (.int n)] K = K (.im (.int (f m n))) := id rfl
@[simp ↓] theorem x_int : intG [.im (.int m)] K = K (.im (.int m)) := id rfl
@[simp ↓] theorem x_intB : intG [.im (.bool bb)] K = K (.im (.int (if bb then 1 else 0))) := id rfl
@[simp ↓] theorem x_isq : isqG [.im (.int m)] K = (okSq m ∧ K (.im (.int (sqF m)))) := id rfl
@[simp ↓] theorem x_list : listG [x] K = got x.seq? fun ds => K (.ow ds) := id rfl
@[simp ↓] theorem x_tuple : tupleG [x] K = got x.seq? fun ds => K (.im (.tuple ds)) := id rfl
@[simp ↓] theorem x_sum : sumG [x] K = got x.lst? fun ds => got (ints? ds) fun ns => K (.im (.int ns.sum)) := id rfl
@[simp ↓] theorem x_all {f : List Bool → Bool} : allG f [x] K = got x.lst? fun ds => got (bools? ds) fun bs => K (.im (.bool (f bs))) := id rfl
@[simp ↓] theorem x_eq : eqG (.im d) (.im e) K = ((d.depth ≤ 60 ∨ e.depth ≤ 60) ∧ K (.im (.bool (PyData.eqv d e)))) := id rfl
@[simp ↓] theorem x_eqPO : eqG (.pk ds) (.ow es) K = (((PyData.list ds).depth ≤ 60 ∨ (PyData.list es).depth ≤ 60) ∧ K (.im (.bool (PyData.eqv (PyData.list ds) (PyData.list es))))) := id rfl
@[simp ↓] theorem x_eqPP : eqG (.pk ds) (.pk es) K = (((PyData.list ds).depth ≤ 60 ∨ (PyData.list es).depth ≤ 60) ∧ K (.im (.bool (PyData.eqv (PyData.list ds) (PyData.list es))))) := id rfl
@[simp ↓] theorem x_eqPI : eqG (.pk ds) (.im e) K = (((PyData.list ds).depth ≤ 60 ∨ e.depth ≤ 60) ∧ K (.im (.bool (PyData.eqv (PyData.list ds) e)))) := id rfl
@[simp ↓] theorem x_eqIO : eqG (.im d) (.ow es) K = ((d.depth ≤ 60 ∨ (PyData.list es).depth ≤ 60) ∧ K (.im (.bool (PyData.eqv d (PyData.list es))))) := id rfl
@[simp ↓] theorem x_eqIP : eqG (.im d) (.pk es) K = ((d.depth ≤ 60 ∨ (PyData.list es).depth ≤ 60) ∧ K (.im (.bool (PyData.eqv d (PyData.list es))))) := id rfl
@[simp ↓] theorem x_ne : neG (.im d) (.im e) K = ((d.depth ≤ 60 ∨ e.depth ≤ 60) ∧ K (.im (.bool (!PyData.eqv d e)))) := id rfl
@[simp ↓] theorem x_nePO : neG (.pk ds) (.ow es) K = (((PyData.list ds).depth ≤ 60 ∨ (PyData.list es).depth ≤ 60) ∧ K (.im (.bool (!PyData.eqv (PyData.list ds) (PyData.list es))))) := id rfl
@[simp ↓] theorem x_nePP : neG (.pk ds) (.pk es) K = (((PyData.list ds).depth ≤ 60 ∨ (PyData.list es).depth ≤ 60) ∧ K (.im (.bool (!PyData.eqv (PyData.list ds) (PyData.list es))))) := id rfl
@[simp ↓] theorem x_nePI : neG (.pk ds) (.im e) K = (((PyData.list ds).depth ≤ 60 ∨ e.depth ≤ 60) ∧ K (.im (.bool (!PyData.eqv (PyData.list ds) e)))) := id rfl
@[simp ↓] theorem x_neIO : neG (.im d) (.ow es) K = ((d.depth ≤ 60 ∨ (PyData.list es).depth ≤ 60) ∧ K (.im (.bool (!PyData.eqv d (PyData.list es))))) := id rfl
@[simp ↓] theorem x_neIP : neG (.im d) (.pk es) K = ((d.depth ≤ 60 ∨ (PyData.list es).depth ≤ 60) ∧ K (.im (.bool (!PyData.eqv d (PyData.list es))))) := id rfl
@[simp ↓] theorem x_slT {lo hi : Option Int} : slG (.im (.tuple ds)) lo hi K = K (.im (.tuple (cutD ds lo hi))) := id rfl
@[simp ↓] theorem x_slL {lo hi : Option Int} : slG (.im (.list ds)) lo hi K = K (.ow (cutD ds lo hi)) := id rfl
@[simp ↓] theorem x_slP {lo hi : Option Int} : slG (.pk ds) lo hi K = K (.ow (cutD ds lo hi)) := id rfl
@[simp ↓] theorem x_rvT : rvG (.im (.tuple ds)) K = K (.im (.tuple ds.reverse)) := id rfl
@[simp ↓] theorem x_rvO : rvG (.ow ds) K = K (.ow ds.reverse) := id rfl
@[simp ↓] theorem x_rvP : rvG (.pk ds) K = K (.ow ds.reverse) := id rfl
@[simp ↓] theorem x_rvL : rvG (.im (.list ds)) K = K (.ow ds.reverse) := id rfl
@[simp] theorem isN_n : isN (.im .none) = true := id rfl
@[simp] theorem isN_b : isN (.im (.bool bb)) = false := id rfl
@[simp] theorem isN_i : isN (.im (.int m)) = false := id rfl
@[simp] theorem isN_s : isN (.im (.str z)) = false := id rfl
@[simp] theorem isN_t : isN (.im (.tuple ds)) = false := id rfl
@[simp] theorem isN_l : isN (.im (.list ds)) = false := id rfl
@[simp] theorem isN_o : isN (.ow ds) = false := id rfl
@[simp] theorem isN_p : isN (.pk ds) = false := id rfl
end
/-- a statement, then the rest, kept shut -/
theorem sq_k {a b : WS} {D0 : DE} {ρ : List Sl} (h : ∀ N : List Sl → Prop, (∀ ρ', b D0 ρ' → N ρ') → a { D0 with nx := N } ρ) : wSq a b D0 ρ := h _ fun _ q => q
/-! ### loops -/
theorem loop_nil {g : TGD} {b : WS} {E : DE} {ρ : List Sl} : loopD g b E [] ρ = E.nx ρ := id rfl
theorem loop_cons {g : TGD} {b : WS} {E : DE} {d : D} {ds : List D} {ρ : List Sl} : loopD g b E (d :: ds) ρ = g d ρ fun ρ1 => b { E with nx := loopD g b E ds, ct := loopD g b E ds, bk := E.nx } ρ1 := id rfl
theorem loop_ind {g : TGD} {b : WS} {E : DE} (I : List D → List Sl → Prop) (fin : ∀ ρ, I [] ρ → E.nx ρ)
    (step : ∀ d ds ρ (K : List Sl → Prop), I (d :: ds) ρ → (∀ ρ', I ds ρ' → K ρ') → g d ρ fun ρ1 => b { E with nx := K, ct := K, bk := E.nx } ρ1) : ∀ ds ρ, I ds ρ → loopD g b E ds ρ
  | [], ρ, h => fin ρ h
  | d :: ds, ρ, h => step d ds ρ _ h fun ρ' h' => loop_ind I fin step ds ρ' h'
theorem comp_nil {g : TGD} {tt : WT} {te : WE} {vs : List Nat} {acc : List D} {ρ : List Sl} {Q : List D → List Sl → Prop} : compD g tt te vs [] acc ρ Q = Q acc ρ := id rfl
theorem comp_cons {g : TGD} {tt : WT} {te : WE} {vs : List Nat} {x : D} {xs acc : List D} {ρ : List Sl} {Q : List D → List Sl → Prop} : compD g tt te vs (x :: xs) acc ρ Q =
    g x (wipeD ρ vs) fun ρ1 => tt ρ1 fun b ρ2 => if b = true then te ρ2 fun y ρ3 => got y.shd? fun d => acc.length ≤ 100000 ∧ compD g tt te vs xs (acc ++ [d]) (restD vs 0 ρ ρ3) Q else compD g tt te vs xs acc (restD vs 0 ρ ρ2) Q := id rfl
theorem comp_ind {g : TGD} {tt : WT} {te : WE} {vs : List Nat} {Q : List D → List Sl → Prop} (I : List D → List D → List Sl → Prop) (fin : ∀ acc ρ, I [] acc ρ → Q acc ρ)
    (step : ∀ d ds acc ρ (K : List D → List Sl → Prop), I (d :: ds) acc ρ → (∀ acc' ρ', I ds acc' ρ' → K acc' ρ') →
      g d (wipeD ρ vs) fun ρ1 => tt ρ1 fun b ρ2 => if b = true then te ρ2 fun y ρ3 => got y.shd? fun e => acc.length ≤ 100000 ∧ K (acc ++ [e]) (restD vs 0 ρ ρ3) else K acc (restD vs 0 ρ ρ2)) :
    ∀ ds acc ρ, I ds acc ρ → compD g tt te vs ds acc ρ Q
  | [], acc, ρ, h => fin acc ρ h
  | d :: ds, acc, ρ, h => step d ds acc ρ (fun acc' ρ' => compD g tt te vs ds acc' ρ' Q) h fun acc' ρ' h' => comp_ind I fin step ds acc' ρ' h'
theorem comp_cons1 {g : TGD} {tt : WT} {te : WE} {v : Nat} {x : D} {xs acc : List D} {ρ : List Sl} {Q : List D → List Sl → Prop} : compD g tt te [v] (x :: xs) acc ρ Q =
    putK (fun ρ0 => g x ρ0 fun ρ1 => tt ρ1 fun b ρ2 => if b = true then te ρ2 fun y ρ3 => got y.shd? fun d => acc.length ≤ 100000 ∧ restK v (fun ρ4 => compD g tt te [v] xs (acc ++ [d]) ρ4 Q) ρ ρ3 else restK v (fun ρ4 => compD g tt te [v] xs acc ρ4 Q) ρ ρ2) v .no ρ := id rfl
theorem comp_ind1 {g : TGD} {tt : WT} {te : WE} {v : Nat} {Q : List D → List Sl → Prop} (I : List D → List D → List Sl → Prop) (fin : ∀ acc ρ, I [] acc ρ → Q acc ρ)
    (step : ∀ d ds acc ρ (K : List D → List Sl → Prop), I (d :: ds) acc ρ → (∀ acc' ρ', I ds acc' ρ' → K acc' ρ') →
      putK (fun ρ0 => g d ρ0 fun ρ1 => tt ρ1 fun b ρ2 => if b = true then te ρ2 fun y ρ3 => got y.shd? fun e => acc.length ≤ 100000 ∧ restK v (fun ρ4 => K (acc ++ [e]) ρ4) ρ ρ3 else restK v (fun ρ4 => K acc ρ4) ρ ρ2) v .no ρ) :
    ∀ ds acc ρ, I ds acc ρ → compD g tt te [v] ds acc ρ Q := comp_ind I fin step
theorem wh_ind {t : WT} {b : WS} {D0 : DE} (I : Nat → List Sl → Prop) (step : ∀ n ρ (K : List Sl → Prop), I n ρ → (∀ m ρ', m < n → I m ρ' → K ρ') →
      t ρ fun k ρ1 => if k = true then b { D0 with nx := K, ct := K, bk := D0.nx } ρ1 else D0.nx ρ1) : ∀ n ρ, I n ρ → wWh t b D0 ρ := by
  have key : ∀ n, ∀ m, m < n → ∀ ρ, I m ρ → whD t b D0 n ρ := by
    intro n
    induction n with
    | zero => intro m hm; omega
    | succ n ih => intro m hm ρ h; exact step m ρ (whD t b D0 n) h fun j ρ' a q => ih j (by omega) ρ' q
  exact fun n ρ h => ⟨n + 1, key (n + 1) n (by omega) ρ h⟩
end DL

set_option Elab.async false
set_option linter.all false
set_option maxRecDepth 100000
namespace DL
open PySem PySem.Spec PyProof.Rows L2
/-! ### a list that is lent to a call: what comes back holds no list -/
mutual
def noL : D → Bool
  | .none => true
  | .bool _ => true
  | .int _ => true
  | .str _ => true
  | .list _ => false
  | .tuple ds => noLs ds
  | .dict _ => false
def noLs : List D → Bool
  | [] => true
  | d :: ds => noL d && noLs ds
end
@[simp] theorem noL_n : noL .none = true := by simp only [noL]
@[simp] theorem noL_b {b : Bool} : noL (.bool b) = true := by simp only [noL]
@[simp] theorem noL_i {i : Int} : noL (.int i) = true := by simp only [noL]
@[simp] theorem noL_s {s : Str} : noL (.str s) = true := by simp only [noL]
@[simp] theorem noL_t {ds : List D} : noL (.tuple ds) = noLs ds := by simp only [noL]
@[simp] theorem noLs_n : noLs [] = true := by simp only [noLs]
@[simp] theorem noLs_c {d : D} {ds : List D} : noLs (d :: ds) = (noL d && noLs ds) := by simp only [noLs]
theorem noLs_ints : ∀ ns : List Int, noLs (ns.map PyData.int) = true
  | [] => by simp
  | n :: ns => by simp [noLs_ints ns]
mutual
theorem noL_dq {S S' : Hp} (h : ∀ b xs, S b = some (.tup xs) → S' b = some (.tup xs)) : ∀ {d : D} {v : V}, noL d = true → Dq S v d → Dq S' v d
  | .none, _, _, q => by cases q; exact .non
  | .bool b, _, _, q => by cases q; exact .bl b
  | .int i, _, _, q => by cases q; exact .int i
  | .str x, _, _, q => by cases q; exact .str x
  | .list ds, _, n, q => by simp only [noL] at n; cases n
  | .tuple ds, _, n, q => by
    cases q with
    | tup h1 h2 => exact .tup (h _ _ h1) (noLs_dq h (by simpa using n) h2)
  | .dict _, _, n, q => by cases q
theorem noLs_dq {S S' : Hp} (h : ∀ b xs, S b = some (.tup xs) → S' b = some (.tup xs)) : ∀ {ds : List D} {vs : List V}, noLs ds = true → DqAll S vs ds → DqAll S' vs ds
  | [], _, _, q => by cases q; exact .nil
  | d :: ds, _, n, q => by
    rw [noLs_c, Bool.and_eq_true] at n
    cases q with
    | cons q1 q2 => exact .cons (noL_dq h n.1 q1) (noLs_dq h n.2 q2)
end
def datL? : Sl → Option D
  | .im d => some d
  | .pk ds => some (.list ds)
  | _ => none
def datsL? : List Sl → Option (List D)
  | [] => some []
  | x :: r => match datL? x, datsL? r with
    | some d, some ds => some (d :: ds)
    | _, _ => none
@[simp] theorem datsL_n : datsL? [] = some [] := rfl
@[simp] theorem datsL_i (d : D) (r : List Sl) : datsL? (.im d :: r) = (match datsL? r with | some ds => some (d :: ds) | none => none) := by
  simp only [datsL?, datL?]
  cases datsL? r <;> rfl
@[simp] theorem datsL_p (es : List D) (r : List Sl) : datsL? (.pk es :: r) = (match datsL? r with | some ds => some (.list es :: ds) | none => none) := by
  simp only [datsL?, datL?]
  cases datsL? r <;> rfl
def srcsL? : List Sl → Option (List D)
  | .src :: r => datsL? r
  | _ => none
@[simp] theorem srcsL_c (r : List Sl) : srcsL? (.src :: r) = datsL? r := rfl
@[simp ↓] theorem qL_0  {KK : List D → Prop} : got (datsL? []) KK = KK [] := id rfl
@[simp ↓] theorem qLS_0  {KK : List D → Prop} : got (srcsL? [Sl.src]) KK = KK [] := id rfl
@[simp ↓] theorem qL_i {d0 : D} {KK : List D → Prop} : got (datsL? [Sl.im d0]) KK = KK [d0] := id rfl
@[simp ↓] theorem qLS_i {d0 : D} {KK : List D → Prop} : got (srcsL? [Sl.src, Sl.im d0]) KK = KK [d0] := id rfl
@[simp ↓] theorem qL_p {d0 : List D} {KK : List D → Prop} : got (datsL? [Sl.pk d0]) KK = KK [.list d0] := id rfl
@[simp ↓] theorem qLS_p {d0 : List D} {KK : List D → Prop} : got (srcsL? [Sl.src, Sl.pk d0]) KK = KK [.list d0] := id rfl
@[simp ↓] theorem qL_ii {d0 : D} {d1 : D} {KK : List D → Prop} : got (datsL? [Sl.im d0, Sl.im d1]) KK = KK [d0, d1] := id rfl
@[simp ↓] theorem qLS_ii {d0 : D} {d1 : D} {KK : List D → Prop} : got (srcsL? [Sl.src, Sl.im d0, Sl.im d1]) KK = KK [d0, d1] := id rfl
@[simp ↓] theorem qL_ip {d0 : D} {d1 : List D} {KK : List D → Prop} : got (datsL? [Sl.im d0, Sl.pk d1]) KK = KK [d0, .list d1] := id rfl
@[simp ↓] theorem qLS_ip {d0 : D} {d1 : List D} {KK : List D → Prop} : got (srcsL? [Sl.src, Sl.im d0, Sl.pk d1]) KK = KK [d0, .list d1] := id rfl
@[simp ↓] theorem qL_pi {d0 : List D} {d1 : D} {KK : List D → Prop} : got (datsL? [Sl.pk d0, Sl.im d1]) KK = KK [.list d0, d1] := id rfl
@[simp ↓] theorem qLS_pi {d0 : List D} {d1 : D} {KK : List D → Prop} : got (srcsL? [Sl.src, Sl.pk d0, Sl.im d1]) KK = KK [.list d0, d1] := id rfl
@[simp ↓] theorem qL_pp {d0 : List D} {d1 : List D} {KK : List D → Prop} : got (datsL? [Sl.pk d0, Sl.pk d1]) KK = KK [.list d0, .list d1] := id rfl
@[simp ↓] theorem qLS_pp {d0 : List D} {d1 : List D} {KK : List D → Prop} : got (srcsL? [Sl.src, Sl.pk d0, Sl.pk d1]) KK = KK [.list d0, .list d1] := id rfl
@[simp ↓] theorem qL_iii {d0 : D} {d1 : D} {d2 : D} {KK : List D → Prop} : got (datsL? [Sl.im d0, Sl.im d1, Sl.im d2]) KK = KK [d0, d1, d2] := id rfl
@[simp ↓] theorem qLS_iii {d0 : D} {d1 : D} {d2 : D} {KK : List D → Prop} : got (srcsL? [Sl.src, Sl.im d0, Sl.im d1, Sl.im d2]) KK = KK [d0, d1, d2] := id rfl
@[simp ↓] theorem qL_iip {d0 : D} {d1 : D} {d2 : List D} {KK : List D → Prop} : got (datsL? [Sl.im d0, Sl.im d1, Sl.pk d2]) KK = KK [d0, d1, .list d2] := id rfl
@[simp ↓] theorem qLS_iip {d0 : D} {d1 : D} {d2 : List D} {KK : List D → Prop} : got (srcsL? [Sl.src, Sl.im d0, Sl.im d1, Sl.pk d2]) KK = KK [d0, d1, .list d2] := id rfl
@[simp ↓] theorem qL_ipi {d0 : D} {d1 : List D} {d2 : D} {KK : List D → Prop} : got (datsL? [Sl.im d0, Sl.pk d1, Sl.im d2]) KK = KK [d0, .list d1, d2] := id rfl
@[simp ↓] theorem qLS_ipi {d0 : D} {d1 : List D} {d2 : D} {KK : List D → Prop} : got (srcsL? [Sl.src, Sl.im d0, Sl.pk d1, Sl.im d2]) KK = KK [d0, .list d1, d2] := id rfl
@[simp ↓] theorem qL_ipp {d0 : D} {d1 : List D} {d2 : List D} {KK : List D → Prop} : got (datsL? [Sl.im d0, Sl.pk d1, Sl.pk d2]) KK = KK [d0, .list d1, .list d2] := id rfl
@[simp ↓] theorem qLS_ipp {d0 : D} {d1 : List D} {d2 : List D} {KK : List D → Prop} : got (srcsL? [Sl.src, Sl.im d0, Sl.pk d1, Sl.pk d2]) KK = KK [d0, .list d1, .list d2] := id rfl
@[simp ↓] theorem qL_pii {d0 : List D} {d1 : D} {d2 : D} {KK : List D → Prop} : got (datsL? [Sl.pk d0, Sl.im d1, Sl.im d2]) KK = KK [.list d0, d1, d2] := id rfl
@[simp ↓] theorem qLS_pii {d0 : List D} {d1 : D} {d2 : D} {KK : List D → Prop} : got (srcsL? [Sl.src, Sl.pk d0, Sl.im d1, Sl.im d2]) KK = KK [.list d0, d1, d2] := id rfl
@[simp ↓] theorem qL_pip {d0 : List D} {d1 : D} {d2 : List D} {KK : List D → Prop} : got (datsL? [Sl.pk d0, Sl.im d1, Sl.pk d2]) KK = KK [.list d0, d1, .list d2] := id rfl
@[simp ↓] theorem qLS_pip {d0 : List D} {d1 : D} {d2 : List D} {KK : List D → Prop} : got (srcsL? [Sl.src, Sl.pk d0, Sl.im d1, Sl.pk d2]) KK = KK [.list d0, d1, .list d2] := id rfl
@[simp ↓] theorem qL_ppi {d0 : List D} {d1 : List D} {d2 : D} {KK : List D → Prop} : got (datsL? [Sl.pk d0, Sl.pk d1, Sl.im d2]) KK = KK [.list d0, .list d1, d2] := id rfl
@[simp ↓] theorem qLS_ppi {d0 : List D} {d1 : List D} {d2 : D} {KK : List D → Prop} : got (srcsL? [Sl.src, Sl.pk d0, Sl.pk d1, Sl.im d2]) KK = KK [.list d0, .list d1, d2] := id rfl
@[simp ↓] theorem qL_ppp {d0 : List D} {d1 : List D} {d2 : List D} {KK : List D → Prop} : got (datsL? [Sl.pk d0, Sl.pk d1, Sl.pk d2]) KK = KK [.list d0, .list d1, .list d2] := id rfl
@[simp ↓] theorem qLS_ppp {d0 : List D} {d1 : List D} {d2 : List D} {KK : List D → Prop} : got (srcsL? [Sl.src, Sl.pk d0, Sl.pk d1, Sl.pk d2]) KK = KK [.list d0, .list d1, .list d2] := id rfl
def wCallL (m : MD) (w : WA) : WE := fun ρ Q => w ρ fun xs ρ1 => got (datsL? xs) fun ds => m ds fun d => noL d = true ∧ Q (.im d) ρ1
def wCallLS (m : MD) (w : WA) : WE := fun ρ Q => w ρ fun xs ρ1 => got (srcsL? xs) fun ds => m ds fun d => noL d = true ∧ Q (.im d) ρ1
@[simp ↓] theorem x_CallL {m : MD} {r : WA} {ρ : List Sl} {Q : Sl → List Sl → Prop} : wCallL m r ρ Q = r ρ fun xs ρ1 => got (datsL? xs) fun ds => m ds fun d => noL d = true ∧ Q (.im d) ρ1 := id rfl
@[simp ↓] theorem x_CallLS {m : MD} {r : WA} {ρ : List Sl} {Q : Sl → List Sl → Prop} : wCallLS m r ρ Q = r ρ fun xs ρ1 => got (srcsL? xs) fun ds => m ds fun d => noL d = true ∧ Q (.im d) ρ1 := id rfl
section
variable {F : Fm} {ρ : List Sl} {S : Hp} {σ : L2.St} {H : Hp}
/-- the addresses that are lent -/
def Lent (b : Addr) : List V → List Sl → Prop
  | v :: vs, .pk _ :: xs => v = .ref b ∨ Lent b vs xs
  | _ :: vs, _ :: xs => Lent b vs xs
  | _, _ => False
open Classical in
noncomputable def lend (S H : Hp) (vs : List V) (xs : List Sl) : Hp := fun b => if Lent b vs xs then H b else S b
open Classical in
noncomputable def unlend (S S' : Hp) (vs : List V) (xs : List Sl) : Hp := fun b => if Lent b vs xs ∧ S b = none then none else S' b
theorem lend_in {vs : List V} {xs : List Sl} {b : Addr} (h : Lent b vs xs) : lend S H vs xs b = H b := if_pos h
theorem lend_out {vs : List V} {xs : List Sl} {b : Addr} (h : ¬ Lent b vs xs) : lend S H vs xs b = S b := if_neg h
theorem lent_at : ∀ {vs : List V} {xs : List Sl} {b : Addr}, Paired (VX F ρ S σ H) vs xs → Lent b vs xs → (∃ ys, H b = some (.lst ys)) ∧ ¬ F.isS b
  | v :: vs, .pk ds :: xs, b, .cons h t, l => by
    rcases l with e | l
    · obtain ⟨a, ys, e2, h1, h2, _⟩ := h
      rw [e] at e2; cases e2
      exact ⟨⟨ys, h1⟩, h2⟩
    · exact lent_at t l
  | v :: vs, .im d :: xs, b, .cons h t, l => lent_at t l
  | v :: vs, .no :: xs, b, .cons h t, l => lent_at t l
  | v :: vs, .ow d :: xs, b, .cons h t, l => lent_at t l
  | v :: vs, .src :: xs, b, .cons h t, l => lent_at t l
theorem lend_same {vs : List V} {xs : List Sl} (f : Fr F S H) : Same S (lend S H vs xs) ∧ Same (lend S H vs xs) H := by
  constructor
  · intro b o e
    by_cases h : Lent b vs xs
    · rw [lend_in h]; exact f.sub b o e
    · rw [lend_out h]; exact e
  · intro b o e
    by_cases h : Lent b vs xs
    · rw [lend_in h] at e; exact e
    · rw [lend_out h] at e; exact f.sub b o e
theorem lend_dats {Sc : Hp} (s : Same S Sc) : ∀ {vs : List V} {xs : List Sl} {ds : List D}, (∀ b, Lent b vs xs → Sc b = H b) → Paired (VX F ρ S σ H) vs xs → datsL? xs = some ds → DqAll Sc vs ds
  | [], [], ds, _, .nil, e => by cases e; exact .nil
  | v :: vs, .im d :: xs, ds, hl, .cons h t, e => by
    rw [datsL_i] at e
    cases q : datsL? xs with
    | none => rw [q] at e; cases e
    | some es =>
      rw [q] at e; cases e
      exact .cons (dq_up s h) (lend_dats s hl t q)
  | v :: vs, .pk d :: xs, ds, hl, .cons h t, e => by
    rw [datsL_p] at e
    cases q : datsL? xs with
    | none => rw [q] at e; cases e
    | some es =>
      rw [q] at e; cases e
      obtain ⟨a, ys, e2, h1, h2, h3⟩ := h
      subst e2
      exact .cons (.lst (by rw [hl a (.inl rfl)]; exact h1) (dqa_up s h3)) (lend_dats s (fun b l => hl b (.inr l)) t q)
  | v :: vs, .no :: xs, ds, _, .cons h t, e => by cases e
  | v :: vs, .ow _ :: xs, ds, _, .cons h t, e => by cases e
  | v :: vs, .src :: xs, ds, _, .cons h t, e => by cases e
/-- behind the call -/
theorem unlend_ok {vs : List V} {xs : List Sl} {S' H' : Hp} {v : V} {d : D} (f : Fr F S H) (vx : Paired (VX F ρ S σ H) vs xs) (u : Same (lend S H vs xs) S') (ns : ∀ b, H b ≠ none → lend S H vs xs b = none → S' b = none) (sub : Same S' H') (q : Dq S' v d) (hn : noL d = true) :
    Same S (unlend S S' vs xs) ∧ Same (unlend S S' vs xs) H' ∧ (∀ b, H b ≠ none → S b = none → unlend S S' vs xs b = none) ∧ Dq (unlend S S' vs xs) v d := by
  have out : ∀ {b : Addr}, ¬ (Lent b vs xs ∧ S b = none) → unlend S S' vs xs b = S' b := fun h => if_neg h
  refine ⟨fun b o e => ?_, fun b o e => ?_, fun b h1 h2 => ?_, noL_dq (fun b ys e => ?_) hn q⟩
  · rw [out fun z => by rw [e] at z; cases z.2]
    exact u b o ((lend_same f).1 b o e)
  · by_cases z : Lent b vs xs ∧ S b = none
    · have : unlend S S' vs xs b = none := if_pos z
      rw [this] at e; cases e
    · rw [out z] at e; exact sub b o e
  · by_cases z : Lent b vs xs
    · exact if_pos ⟨z, h2⟩
    · rw [out fun y => z y.1]
      exact ns b h1 (by rw [lend_out z]; exact h2)
  · rw [out fun z => ?_]
    · exact e
    · obtain ⟨⟨zs, hz⟩, _⟩ := lent_at vx z.1
      have := u b _ (by rw [lend_in z.1]; exact hz)
      rw [e] at this; cases this
end
section
variable {X : Cx} {F : Fm} {k : Nat} {ps : List Str} {x : Str} {p pos : Pos} {e : Expr} {es : List Expr} {w : WA}
theorem d_callL {m : MD} (h : Def X.prog X.w X.K X.mg X.base k x ps (spN m)) (mm : MonoM m) (hX : Okx X) (hr : Room k X.A) (hg : Gl X x) (ha : PDA X F (e :: es) w) (hdb : (x == ("__debug__" : Str)) = false := by decide) (he : starEach (e :: es) X.env = (false, eval e X.env) :: starEach es X.env := by rfl)
    (hpl : (backTo pos (starEach es X.env)).any (·.1) = false := by rfl) : PD X F (.Call (.Name x p) (e :: es) [] pos) (wCallL m w) := by
  refine ⟨pe_imp (pe_callG h hX hr hg ha.run hdb he hpl) fun σ H Q ⟨ρ, S, rl, q⟩ => la_mk ha.mono rl q fun xs ρ1 hx S1 H1 vs u1 g1 r1 vx => ?_, fun ρ Q Q' h q => ha.mono _ _ _ (fun xs ρ1 k => got_mono (fun ds kd => mm _ _ _ (fun d kd => ⟨kd.1, h _ _ kd.2⟩) kd) k) q⟩
  obtain ⟨ds, ed, q⟩ := got_ex hx
  have sc := lend_same (vs := vs) (xs := xs) r1.fr
  refine ⟨lend S1 H1 vs xs, ds, sc.2, lend_dats sc.1 (fun b l => lend_in l) vx ed, mm _ _ _ (fun d g S' H' v u ns sub' up y => ?_) q⟩
  obtain ⟨c1, c2, c3, c4⟩ := unlend_ok r1.fr vx u ns sub' y g.1
  exact g.2 _ H' v (u1.trans c1) (g1.trans (.of up)) (r1.grow c1 up c2 c3) c4
theorem d_callLS {m : MD} (h : Def X.prog X.w X.K X.mg X.base k x ps (spS m)) (mm : MonoM m) (hX : Okx X) (hr : Room k X.A) (hg : Gl X x) (ha : PDA X F (e :: es) w) (hdb : (x == ("__debug__" : Str)) = false := by decide) (he : starEach (e :: es) X.env = (false, eval e X.env) :: starEach es X.env := by rfl)
    (hpl : (backTo pos (starEach es X.env)).any (·.1) = false := by rfl) : PD X F (.Call (.Name x p) (e :: es) [] pos) (wCallLS m w) := by
  refine ⟨pe_imp (pe_callG h hX hr hg ha.run hdb he hpl) fun σ H Q ⟨ρ, S, rl, q⟩ => la_mk ha.mono rl q fun xs ρ1 hx S1 H1 vs u1 g1 r1 vx => ?_, fun ρ Q Q' h q => ha.mono _ _ _ (fun xs ρ1 k => got_mono (fun ds kd => mm _ _ _ (fun d kd => ⟨kd.1, h _ _ kd.2⟩) kd) k) q⟩
  obtain ⟨ds, ed, q⟩ := got_ex hx
  match xs, vs, vx, ed with
  | .src :: r, v0 :: vs, .cons v1 v2, ed =>
    obtain ⟨p', c', ep, ev⟩ := v1
    subst ev
    obtain ⟨so, n1, n2⟩ := r1.fr.src p' c' ep
    have isF : ∀ {b : Addr}, ¬ F.isS b → b ≠ p' ∧ b ≠ c' := fun hb => ⟨fun z => hb ⟨p', c', ep, .inl z⟩, fun z => hb ⟨p', c', ep, .inr z⟩⟩
    have sc := lend_same (vs := vs) (xs := r) r1.fr
    have lp : ¬ Lent p' vs r := fun l => (lent_at v2 l).2 ⟨p', c', ep, .inl rfl⟩
    have lc : ¬ Lent c' vs r := fun l => (lent_at v2 l).2 ⟨p', c', ep, .inr rfl⟩
    refine ⟨lend S1 H1 vs r, ds, p', c', _, rfl, so, by rw [lend_out lp]; exact n1, by rw [lend_out lc]; exact n2, sc.2, lend_dats sc.1 (fun b l => lend_in l) v2 ed, mm _ _ _ (fun d g S' H' v u ns sub' up so' y => ?_) q⟩
    obtain ⟨c1, c2, c3, c4⟩ := unlend_ok r1.fr v2 u ns sub' y g.1
    have gr : GrH F H1 H' := fun b o e hb => up b o e (isF hb).1 (isF hb).2
    refine g.2 _ H' v (u1.trans c1) (g1.trans gr) (r1.step c1 gr c2 c3 fun p2 c2' e2 => ?_) c4
    rw [ep] at e2
    cases e2
    obtain ⟨_, l, m, t, cs, h1, h2, _⟩ := so
    exact ⟨so', c3 _ (by rw [h1]; simp) n1, c3 _ (by rw [h2]; simp) n2⟩
end
end DL

set_option Elab.async false
set_option linter.all false
set_option maxRecDepth 100000
namespace DL
open PySem PySem.Spec PyProof.Rows L2
/-! ### bounds of ints -/
theorem log2_lt_of {n k : Nat} (h : n < 2 ^ k) (hk : 0 < k) : n.log2 < k := by
  by_cases z : n = 0
  · subst z; simpa using hk
  · exact (Nat.log2_lt z).mpr h
def Bd (k : Nat) (x : Int) : Prop := x.natAbs < 2 ^ k
theorem Bd.mono {j k : Nat} {x : Int} (h : Bd j x) (l : j ≤ k) : Bd k x := Nat.lt_of_lt_of_le h (Nat.pow_le_pow_right (by omega) l)
theorem Bd.le {k : Nat} {x y : Int} (h : Bd k x) (l : y.natAbs ≤ x.natAbs) : Bd k y := Nat.lt_of_le_of_lt l h
theorem Bd.neg {k : Nat} {x : Int} (h : Bd k x) : Bd k (-x) := by unfold Bd; rw [Int.natAbs_neg]; exact h
theorem Bd.add {j k : Nat} {x y : Int} (h : Bd j x) (g : Bd k y) : Bd (max j k + 1) (x + y) := by
  have h' := h.mono (Nat.le_max_left j k)
  have g' := g.mono (Nat.le_max_right j k)
  unfold Bd at h' g' ⊢
  have := Int.natAbs_add_le x y
  rw [Nat.pow_succ]
  omega
theorem Bd.sub {j k : Nat} {x y : Int} (h : Bd j x) (g : Bd k y) : Bd (max j k + 1) (x - y) := by
  have := h.add g.neg
  rwa [← Int.sub_eq_add_neg] at this
theorem Bd.mul {j k : Nat} {x y : Int} (h : Bd j x) (g : Bd k y) : Bd (j + k) (x * y) := by
  unfold Bd at h g ⊢
  rw [Int.natAbs_mul, Nat.pow_add]
  exact Nat.mul_lt_mul'' h g
theorem Bd.lit {k : Nat} {x : Int} (h : x.natAbs < 2 ^ k := by decide) : Bd k x := h
theorem Bd.nat {k : Nat} {n : Nat} (h : n < 2 ^ k) : Bd k (n : Int) := by unfold Bd; rwa [Int.natAbs_natCast]
theorem Bd.ok {j k : Nat} {x y : Int} (h : Bd j x) (g : Bd k y) (hj : 0 < j := by decide) (hk : 0 < k := by decide) (hs : j + k ≤ 1000000 := by decide) : okMul x y := by
  have := log2_lt_of h hj
  have := log2_lt_of g hk
  exact .inl (by unfold CMulW; omega)
theorem Bd.shw {k : Nat} {x : Int} (h : Bd k x) (hk : k ≤ 1920 := by decide) : x.natAbs.log2 < 1920 := log2_lt_of (h.mono hk) (by decide)
theorem Bd.div {k : Nat} {y : Int} (h : Bd k y) (n : y ≠ 0) (hk : k ≤ 9000 := by decide) : okDiv y := ⟨n, log2_lt_of (h.mono hk) (by decide)⟩

/-! ### pairs of ints, the second above nought -/
abbrev Q2 := Int × Int
def frD (x : Q2) : D := .tuple [.int x.1, .int x.2]
def byF (p q : Int) : Int := if 0 < q then gcdF p q else -gcdF p q
def low (p q : Int) : Q2 := (p.fdiv (byF p q), q.fdiv (byF p q))
def psum (x y : Q2) : Q2 := low (x.1 * y.2 + y.1 * x.2) (x.2 * y.2)
def pless (x y : Q2) : Q2 := low (x.1 * y.2 - y.1 * x.2) (x.2 * y.2)
def ptimes (x y : Q2) : Q2 := low (x.1 * y.1) (x.2 * y.2)
def pbelow (x y : Q2) : Bool := decide (x.1 * y.2 < y.1 * x.2)
theorem gcdF_pos {p q : Int} (h : q ≠ 0) : 0 < gcdF p q := by
  unfold gcdF
  have : 0 < Nat.gcd p.natAbs q.natAbs := Nat.gcd_pos_of_pos_right _ (by omega)
  omega
theorem by_abs (p q : Int) : (byF p q).natAbs = Nat.gcd p.natAbs q.natAbs := by
  unfold byF gcdF
  split
  · rw [Int.natAbs_natCast]
  · rw [Int.natAbs_neg, Int.natAbs_natCast]
theorem by_ne {p q : Int} (h : q ≠ 0) : byF p q ≠ 0 := by
  have := by_abs p q
  have : 0 < Nat.gcd p.natAbs q.natAbs := Nat.gcd_pos_of_pos_right _ (by omega)
  omega
theorem by_l (p q : Int) : byF p q ∣ p := by
  rw [← Int.natAbs_dvd_natAbs, by_abs]; exact Nat.gcd_dvd_left _ _
theorem by_r (p q : Int) : byF p q ∣ q := by
  rw [← Int.natAbs_dvd_natAbs, by_abs]; exact Nat.gcd_dvd_right _ _
theorem low_l {p q : Int} (h : q ≠ 0) : (low p q).1 * byF p q = p := Int.fdiv_mul_cancel (by_l p q)
theorem low_r {p q : Int} (h : q ≠ 0) : (low p q).2 * byF p q = q := Int.fdiv_mul_cancel (by_r p q)
theorem low_pos {p q : Int} (h : q ≠ 0) : 0 < (low p q).2 := by
  have e := low_r (p := p) h
  have g := gcdF_pos (p := p) h
  by_cases hq : 0 < q
  · have eb : byF p q = gcdF p q := if_pos hq
    rw [eb] at e
    refine Int.lt_of_not_ge fun z => ?_
    have := Int.mul_nonneg (a := -(low p q).2) (b := gcdF p q) (by omega) (by omega)
    rw [Int.neg_mul] at this
    omega
  · have eb : byF p q = -gcdF p q := if_neg hq
    rw [eb, Int.mul_neg] at e
    refine Int.lt_of_not_ge fun z => ?_
    have := Int.mul_nonneg (a := -(low p q).2) (b := gcdF p q) (by omega) (by omega)
    rw [Int.neg_mul] at this
    omega
theorem low_gcd {p q : Int} (h : q ≠ 0) : Nat.gcd (low p q).1.natAbs (low p q).2.natAbs = 1 := by
  have hg : 0 < Nat.gcd p.natAbs q.natAbs := Nat.gcd_pos_of_pos_right _ (by omega)
  have e1 := congrArg Int.natAbs (low_l (p := p) h)
  have e2 := congrArg Int.natAbs (low_r (p := p) h)
  rw [Int.natAbs_mul, by_abs] at e1 e2
  have := Nat.gcd_mul_right (low p q).1.natAbs (Nat.gcd p.natAbs q.natAbs) (low p q).2.natAbs
  rw [e1, e2] at this
  exact Nat.eq_of_mul_eq_mul_right hg (by omega)
theorem low_le1 {p q : Int} (h : q ≠ 0) : (low p q).1.natAbs ≤ p.natAbs := by
  have hg : 0 < Nat.gcd p.natAbs q.natAbs := Nat.gcd_pos_of_pos_right _ (by omega)
  have e1 := congrArg Int.natAbs (low_l (p := p) h)
  rw [Int.natAbs_mul, by_abs] at e1
  rw [← e1]
  exact Nat.le_mul_of_pos_right _ hg
theorem low_le2 {p q : Int} (h : q ≠ 0) : (low p q).2.natAbs ≤ q.natAbs := by
  have hg : 0 < Nat.gcd p.natAbs q.natAbs := Nat.gcd_pos_of_pos_right _ (by omega)
  have e1 := congrArg Int.natAbs (low_r (p := p) h)
  rw [Int.natAbs_mul, by_abs] at e1
  rw [← e1]
  exact Nat.le_mul_of_pos_right _ hg
theorem low_eq {p q : Int} (h : q ≠ 0) : (low p q).1 * q = p * (low p q).2 := by
  have e1 := low_l (p := p) h
  have e2 := low_r (p := p) h
  have n := by_ne (p := p) h
  generalize low p q = x at e1 e2
  generalize byF p q = c at e1 e2 n
  grind
/-- a pair that is kept in bounds -/
structure Bq (k : Nat) (x : Q2) : Prop where
  a : Bd k x.1
  b : Bd k x.2
  pos : 0 < x.2
theorem Bq.mono {j k : Nat} {x : Q2} (h : Bq j x) (l : j ≤ k) : Bq k x := ⟨h.a.mono l, h.b.mono l, h.pos⟩
theorem low_B {k : Nat} {p q : Int} (hp : Bd k p) (hq : Bd k q) (h : q ≠ 0) : Bq k (low p q) := ⟨hp.le (low_le1 h), hq.le (low_le2 h), low_pos h⟩
theorem mul_ne {x y : Q2} (hx : 0 < x.2) (hy : 0 < y.2) : x.2 * y.2 ≠ 0 := by
  have := Int.mul_pos hx hy; omega
theorem psum_B {j k : Nat} {x y : Q2} (hx : Bq j x) (hy : Bq k y) : Bq (j + k + 1) (psum x y) := by
  refine low_B ?_ ((hx.b.mul hy.b).mono (by omega)) (mul_ne hx.pos hy.pos)
  exact ((hx.a.mul hy.b).add (hy.a.mul hx.b)).mono (by omega)
theorem pless_B {j k : Nat} {x y : Q2} (hx : Bq j x) (hy : Bq k y) : Bq (j + k + 1) (pless x y) := by
  refine low_B ?_ ((hx.b.mul hy.b).mono (by omega)) (mul_ne hx.pos hy.pos)
  exact ((hx.a.mul hy.b).sub (hy.a.mul hx.b)).mono (by omega)
theorem ptimes_B {j k : Nat} {x y : Q2} (hx : Bq j x) (hy : Bq k y) : Bq (j + k) (ptimes x y) := low_B (hx.a.mul hy.a) (hx.b.mul hy.b) (mul_ne hx.pos hy.pos)

/-! ### the words of the program, by data -/
def mLow : MD := fun ds Q => ∃ p q, ds = [.int p, .int q] ∧ q ≠ 0 ∧ Bd 8000 q ∧ Q (frD (low p q))
def mBin (f : Q2 → Q2 → Q2) : MD := fun ds Q => ∃ x y, ds = [frD x, frD y] ∧ Bq 4000 x ∧ Bq 4000 y ∧ Q (frD (f x y))
def mBelow : MD := fun ds Q => ∃ x y, ds = [frD x, frD y] ∧ Bd 4000 x.1 ∧ Bd 4000 x.2 ∧ Bd 4000 y.1 ∧ Bd 4000 y.2 ∧ Q (.bool (pbelow x y))
theorem low_i {p q : Int} {Q : D → Prop} (n : q ≠ 0) (b : Bd 8000 q) (k : Q (frD (low p q))) : mLow [.int p, .int q] Q := ⟨p, q, rfl, n, b, k⟩
theorem bin_i {f : Q2 → Q2 → Q2} {a b c d : Int} {Q : D → Prop} (bx : Bq 4000 (a, b)) (by_ : Bq 4000 (c, d)) (k : Q (frD (f (a, b) (c, d)))) : mBin f [.tuple [.int a, .int b], .tuple [.int c, .int d]] Q := ⟨_, _, rfl, bx, by_, k⟩
theorem below_i {a b c d : Int} {Q : D → Prop} (b1 : Bd 4000 a) (b2 : Bd 4000 b) (b3 : Bd 4000 c) (b4 : Bd 4000 d) (k : Q (.bool (pbelow (a, b) (c, d)))) : mBelow [.tuple [.int a, .int b], .tuple [.int c, .int d]] Q := ⟨(a, b), (c, d), rfl, b1, b2, b3, b4, k⟩
theorem mm_low : MonoM mLow := fun ds Q Q' h ⟨p, q, e, n, b, g⟩ => ⟨p, q, e, n, b, h _ g⟩
theorem mm_bin {f} : MonoM (mBin f) := fun ds Q Q' h ⟨p, q, e, n, b, g⟩ => ⟨p, q, e, n, b, h _ g⟩
theorem mm_below : MonoM mBelow := fun ds Q Q' h ⟨p, q, e, n, b, c, d, g⟩ => ⟨p, q, e, n, b, c, d, h _ g⟩
theorem len_low : ∀ ds Q, mLow ds Q → ds.length = 2 := fun ds Q ⟨p, q, e, _⟩ => by rw [e]; rfl
theorem len_bin {f} : ∀ ds Q, mBin f ds Q → ds.length = 2 := fun ds Q ⟨p, q, e, _⟩ => by rw [e]; rfl
theorem len_below : ∀ ds Q, mBelow ds Q → ds.length = 2 := fun ds Q ⟨p, q, e, _⟩ => by rw [e]; rfl
@[simp] theorem frD_eq (x : Q2) : frD x = .tuple [.int x.1, .int x.2] := rfl
theorem by_B {k : Nat} {p q : Int} (h : Bd k q) (n : q ≠ 0) : Bd k (byF p q) := by
  unfold Bd
  rw [by_abs]
  exact Nat.lt_of_le_of_lt (Nat.le_of_dvd (by omega) (Nat.gcd_dvd_right _ _)) h
/-- tests -/
theorem ite_d {c : Prop} [Decidable c] {A B : Prop} (h1 : c → A) (h2 : ¬ c → B) : if decide c = true then A else B := by
  by_cases h : c
  · rw [if_pos (decide_eq_true h)]; exact h1 h
  · rw [if_neg (by rw [decide_eq_false h]; decide)]; exact h2 h
theorem ite_b {b : Bool} {A B : Prop} (h1 : b = true → A) (h2 : b = false → B) : if b = true then A else B := by
  cases b
  · rw [if_neg (by decide)]; exact h2 rfl
  · rw [if_pos rfl]; exact h1 rfl
theorem ite_p {c : Prop} [Decidable c] {A B : Prop} (h1 : c → A) (h2 : ¬ c → B) : if c then A else B := by
  by_cases h : c
  · rw [if_pos h]; exact h1 h
  · rw [if_neg h]; exact h2 h
@[simp] theorem atI_0 {α : Type} (a : α) (r : List α) : atI (a :: r) 0 = some a := by
  unfold atI ixN
  rw [if_pos (by decide), if_pos (by simp)] <;> rfl
@[simp] theorem atI_1 {α : Type} (a b : α) (r : List α) : atI (a :: b :: r) 1 = some b := by
  unfold atI ixN
  rw [if_pos (by decide), if_pos (by simp only [List.length_cons]; omega)] <;> rfl
end DL

set_option Elab.async false
set_option linter.all false
set_option maxRecDepth 100000
namespace DL
open PySem PySem.Spec PyProof.Rows L2
/-! ### tuple * 1, tuple * 0 -/
theorem mul_one_tup (l : Addr) (items : Array Value) (n : Nat) (dd : Option Addr) (sl : Array (Option Value)) (u : Tok) :
    Meets (Builtin.«tuple.__mul__» ⟨[.ref l, .int 1 u], []⟩) (fun _ R s => s.heap.get? l = some { cls := .type "tuple", dict := dd, data := .seq items n, slots := sl } ∧ R (.ok (.ret (Value.ref l))) s) :=
  .of_wp fun prog w A R s h => by
    obtain ⟨hp, g, d, tk, os⟩ := s
    obtain ⟨hl, h⟩ := h
    have f1 := AutoSeq1.idx_int
    wp_walk using wpAny_loadPart' hl
    exact ⟨_, rfl, h⟩
theorem mul_nil_tup (l : Addr) (items : Array Value) (n : Nat) (dd : Option Addr) (sl : Array (Option Value)) (u : Tok) (hne : items.isEmpty = false) :
    Meets (Builtin.«tuple.__mul__» ⟨[.ref l, .int 0 u], []⟩) (fun _ R s => s.heap.get? l = some { cls := .type "tuple", dict := dd, data := .seq items n, slots := sl } ∧ R (.ok (.ret (Value.ref s.heap.objs.size))) { s with heap := s.heap.push { cls := Value.type "tuple", data := Data.seq #[] }, toks := s.toks }) :=
  .of_wp fun prog w A R s h => by
    obtain ⟨hp, g, d, tk, os⟩ := s
    obtain ⟨hl, h⟩ := h
    have f1 := AutoSeq1.idx_int
    wp_walk using wpAny_loadPart' hl
    exact ⟨_, rfl, h⟩
def rRepA (K : PySem.W.Frag) : R2 := fun x y H Q => ∃ l k xs, x = .ref l ∧ y = .int k ∧ SqT K H l xs ∧ xs ≠ [] ∧ 0 ≤ k ∧ k ≤ 1000 ∧ xs.length ≤ 1000 ∧ (k = 1 → Q (.ref l) H) ∧ (k ≠ 1 → ∀ p, H p = none → Q (.ref p) (upd H p (.tup (List.replicate k.toNat xs).flatten)))
theorem op_repA {X : Cx} : OpR X (binaryOp .Mult) (rRepA X.K) := by
  intro pins s σ H x y v u Q I rx ry h
  obtain ⟨l, k, xs, ex, ey, hT, hne, h0, h1, hz, q1, q2⟩ := h
  by_cases k2 : 2 ≤ k
  · exact op_repT pins s σ H x y v u Q I rx ry ⟨l, k, xs, ex, ey, hT, hne, k2, h1, hz, q2 (by omega)⟩
  subst ex ey
  cases rx
  obtain ⟨t, rfl⟩ := ry
  obtain ⟨its, r, ⟨⟨cls, dd, data, sl⟩, ho, hc, n, hd⟩, hs⟩ := I.tuple hT
  simp only at hc hd
  subst hc hd
  have hi : its.toArray.isEmpty = false := by
    cases its with
    | nil => cases r; exact absurd rfl hne
    | cons a b => rfl
  rcases (show k = 0 ∨ k = 1 by omega) with rfl | rfl
  · refine wpAny_binaryOp_repeat_ref (T := "tuple") (U := "int") (by decide) ⟨_, ho, rfl⟩ (fun s' => typeIs_int s' 0 t) noFill_tuple_mul F.fills_int_mul F.slot_int_rmul repeat_tuple F.slot_int_index.lookup
      (call_meets F.slot_int_rmul (typeIs_int s 0 t) F.entry_int_rmul (F.args_int_rmul_2 _ _) (int_rmul_tuple 0 t l its.toArray n dd sl)
        ⟨ho, rfl, ⟨_, ho, rfl⟩, call_meets F.slot_tuple_mul ⟨_, ho, rfl⟩ F.entry_tuple_mul (F.args_tuple_mul_2 _ _) (mul_nil_tup l its.toArray n dd sl t hi) ⟨ho, ?_⟩⟩)
    refine ⟨.ref s.heap.objs.size, _, I.laid (t' := s.toks) (o := .tup (List.replicate (0 : Int).toNat xs).flatten) (fun b ob q => Heap.get?_push_of_some _ q) (Nat.le_refl _) ?_, rfl, q2 (by decide) _ (I.hok.fresh (Nat.le_refl _))⟩
    exact ⟨Nat.zero_le _, [], .nil, IsTup.new _ _⟩
  · exact wpAny_binaryOp_repeat_ref (T := "tuple") (U := "int") (by decide) ⟨_, ho, rfl⟩ (fun s' => typeIs_int s' 1 t) noFill_tuple_mul F.fills_int_mul F.slot_int_rmul repeat_tuple F.slot_int_index.lookup
      (call_meets F.slot_int_rmul (typeIs_int s 1 t) F.entry_int_rmul (F.args_int_rmul_2 _ _) (int_rmul_tuple 1 t l its.toArray n dd sl)
        ⟨ho, rfl, ⟨_, ho, rfl⟩, call_meets F.slot_tuple_mul ⟨_, ho, rfl⟩ F.entry_tuple_mul (F.args_tuple_mul_2 _ _) (mul_one_tup l its.toArray n dd sl t) ⟨ho, ⟨.ref l, H, I, rfl, q1 rfl⟩⟩⟩)
/-- *, of ints, of a list and an int, of a tuple and an int -/
def mulH : G2 := fun x y K => match x.tup?, y.int? with
  | some ds, some k => ds ≠ [] ∧ 0 ≤ k ∧ k ≤ 1000 ∧ ds.length ≤ 1000 ∧ K (.im (.tuple (List.replicate k.toNat ds).flatten))
  | _, _ => mulG x y K
theorem mono_mulH : Mono2 mulH := fun x y K K' h g => by
  unfold mulH at g ⊢
  split
  · rename_i ds k e1 e2
    rw [e1, e2] at g
    exact ⟨g.1, g.2.1, g.2.2.1, g.2.2.2.1, h _ g.2.2.2.2⟩
  · rename_i no
    split at g
    · rename_i ds k e1 e2; exact (no ds k e1 e2).elim
    · exact mono_mulG x y K K' h g
def mulRH (K : PySem.W.Frag) : R2 := fun x y H Q => mulR x y H Q ∨ rRepA K x y H Q
theorem op_mulH {X : Cx} : OpR X (binaryOp .Mult) (mulRH X.K) := OpR.or op_mulB op_repA
theorem on_mulH {F : Fm} {K0 : PySem.W.Frag} : On2 F (mulRH K0) mulH := fun ρ S σ H x y v u K Q r vx vy g hK => by
  unfold mulH at g
  split at g
  · rename_i ds k e1 e2
    obtain ⟨a, xs, rfl, h1, h1', h2⟩ := vx.tup r.fr e1
    obtain ⟨g1, g2, g3, g4, g5⟩ := g
    have q := hK _ g5
    refine .inr ⟨a, k, xs, rfl, int_of vy e2, .of h1, fun z => ?_, g2, g3, by rw [dqa_len h2]; exact g4, fun z => ?_, fun _ p hp => q.tup r (dqa_rep h2 _) hp⟩
    · subst z; cases h2; exact g1 rfl
    · subst z
      have e : (List.replicate (1 : Int).toNat ds).flatten = ds := by simp
      rw [e] at q
      exact q.now r (Dq.tup h1' h2)
  · exact .inl (on_mulG ρ S σ H x y v u K Q r vx vy g hK)
section
variable {K : Sl → Prop} {m n : Int} {ds : List D}
@[simp ↓] theorem x_mulH : mulH (.im (.int m)) (.im (.int n)) K = (okMul m n ∧ K (.im (.int (m * n)))) := id rfl
@[simp ↓] theorem x_mulHT : mulH (.im (.tuple ds)) (.im (.int n)) K = (ds ≠ [] ∧ 0 ≤ n ∧ n ≤ 1000 ∧ ds.length ≤ 1000 ∧ K (.im (.tuple (List.replicate n.toNat ds).flatten))) := id rfl
@[simp ↓] theorem x_mulHP : mulH (.pk ds) (.im (.int n)) K = (-(2 ^ 63) ≤ n ∧ n < 2 ^ 63 ∧ ds.length * n.toNat ≤ 100000 ∧ K (.ow (List.replicate n.toNat ds).flatten)) := id rfl
end
end DL

set_option Elab.async false
set_option linter.all false
set_option maxRecDepth 100000
namespace DL
open PySem PySem.Spec PyProof.Rows L2
/-! ### a, b = e1, e2 where fresh lists stay owned -/
/-- owned ones are apart -/
def ApO (vs : List V) (xs : List Sl) : Prop := ∀ (i j : Nat) (ds es : List D), xs[i]? = some (.ow ds) → xs[j]? = some (.ow es) → vs[i]? = vs[j]? → i = j
def GotW (F : Fm) (S : Hp) (σ : L2.St) (H : Hp) (Q : List V → Hp → Prop) (sls : List Sl) (ρ' : List Sl) : Prop :=
  ∀ S' H' vs, Same S S' → GrH F H H' → Rel F ρ' S' σ H' → Paired (VX F ρ' S' σ H') vs sls → ApO vs sls → Q vs H'
def lV (F : Fm) (w : WA) : TA := fun σ H Q => ∃ ρ S, Rel F ρ S σ H ∧ w ρ (GotW F S σ H Q)
structure PDV (X : Cx) (F : Fm) (es : List Expr) (w : WA) : Prop where
  run : PA X es (lV F w)
  mono : Mono3 w
def Fm.own (F : Fm) (a : Addr) (xs : List V) : Fm := ⟨upd F.H0 a (.lst xs), F.S0, F.sa⟩
section
variable {F : Fm} {ρ ρ' : List Sl} {S S' : Hp} {σ : L2.St} {H H' : Hp} {a : Addr} {xs : List V} {ds : List D}
theorem own_none {b : Addr} (h : (F.own a xs).H0 b = none) : F.H0 b = none ∧ b ≠ a := by
  have hb : b ≠ a := fun z => by subst z; unfold Fm.own at h; simp only [upd_same] at h; cases h
  unfold Fm.own at h
  simp only [upd_ne hb] at h
  exact ⟨h, hb⟩
theorem Rel.own (r : Rel F ρ S σ H) (x : VX F ρ S σ H (.ref a) (.ow ds)) : ∃ xs, H a = some (.lst xs) ∧ DqAll S xs ds ∧ S a = none ∧ F.H0 a = none ∧ Rel (F.own a xs) ρ S σ H := by
  obtain ⟨a', xs, e, h1, h2, h3, h4, h5⟩ := x
  cases e
  refine ⟨xs, h1, h4, h2, h3, r.len, ⟨r.fr.sub, r.fr.up, fun b h0 hs => ?_, fun b o e n => ?_, r.fr.src, fun b hb => ?_⟩, fun i sl e => ?_, r.apart⟩
  · by_cases z : b = a
    · subst z; exact h2
    · refine r.fr.out b ?_ hs
      unfold Fm.own at h0
      simp only [upd_ne z] at h0
      exact h0
  · by_cases z : b = a
    · subst z
      unfold Fm.own at e
      simp only [upd_same] at e
      cases e; exact h1
    · unfold Fm.own at e
      simp only [upd_ne z] at e
      exact r.fr.keep b o e n
  · have h0 : F.H0 b ≠ none := r.fr.srcH b hb
    have z : b ≠ a := fun z => by subst z; exact h0 h3
    unfold Fm.own
    simp only [upd_ne z]
    exact h0
  · have q := r.slots i sl e
    cases sl with
    | ow es =>
      obtain ⟨a', ys, e1, e2, e3, e4, e5⟩ := q
      have z : a' ≠ a := fun z => by subst z; exact h5 i es e e1
      refine ⟨a', ys, e1, e2, e3, ?_, e5⟩
      unfold Fm.own
      simp only [upd_ne z]
      exact e4
    | no => trivial
    | im d => exact q
    | pk _ => exact q
    | src => exact q
theorem Rel.back (f : Fr F S H) (h0 : F.H0 a = none) (r : Rel (F.own a xs) ρ' S' σ H') : Rel F ρ' S' σ H' := by
  have nz : ∀ b, F.H0 b ≠ none → b ≠ a := fun b h z => by subst z; exact h h0
  have eq : ∀ b, b ≠ a → (F.own a xs).H0 b = F.H0 b := fun b z => by unfold Fm.own; simp only [upd_ne z]
  refine ⟨r.len, ⟨r.fr.sub, r.fr.up, fun b q hs => r.fr.out b (by rw [eq b (nz b q)]; exact q) hs, fun b o e n => r.fr.keep b o (by rw [eq b (nz b (by rw [e]; simp))]; exact e) n, r.fr.src, f.srcH⟩, fun i sl e => ?_, r.apart⟩
  have q := r.slots i sl e
  cases sl with
  | ow es =>
    obtain ⟨a', ys, e1, e2, e3, e4, e5⟩ := q
    exact ⟨a', ys, e1, e2, e3, (own_none e4).1, e5⟩
  | no => trivial
  | im d => exact q
  | pk _ => exact q
  | src => exact q
theorem VX.back {v : V} {sl : Sl} (x : VX (F.own a xs) ρ' S' σ H' v sl) : VX F ρ' S' σ H' v sl := by
  cases sl with
  | ow es =>
    obtain ⟨a', ys, e1, e2, e3, e4, e5⟩ := x
    exact ⟨a', ys, e1, e2, e3, (own_none e4).1, e5⟩
  | no => exact x
  | im d => exact x
  | pk _ => exact x
  | src => exact x
theorem paired_back : ∀ {vs : List V} {sls : List Sl}, Paired (VX (F.own a xs) ρ' S' σ H') vs sls → Paired (VX F ρ' S' σ H') vs sls
  | _, _, .nil => .nil
  | _, _, .cons h t => .cons h.back (paired_back t)
theorem paired_ne : ∀ {vs : List V} {sls : List Sl} {j : Nat} {es : List D}, Paired (VX (F.own a xs) ρ' S' σ H') vs sls → sls[j]? = some (.ow es) → vs[j]? ≠ some (.ref a)
  | _, _, j, es, .nil, e => by simp at e
  | _, _, 0, es, .cons h t, e => by
    simp at e
    subst e
    obtain ⟨a', ys, e1, _, _, e4, _⟩ := h
    intro z
    simp at z
    rw [e1] at z
    cases z
    exact (own_none e4).2 rfl
  | _, _, j + 1, es, .cons h t, e => by
    have := paired_ne (j := j) (es := es) t (by simpa using e)
    simpa using this
end
/-- a fresh list stays owned, data is data -/
def wOw (wa : WE) (wr : WA) : WA := fun ρ Q => wa ρ fun x ρ1 => got x.sto? fun y => wr ρ1 fun xs ρ2 => Q (y :: xs) ρ2
section
variable {X : Cx} {F : Fm} {a : Expr} {wa : WE}
theorem ow_nil : PDV X F [] wN := ⟨pa_imp pa_nil fun σ H Q ⟨ρ, S, rl, h⟩ => h S H [] (Same.refl _) (.refl _ _) rl .nil fun i j ds es e => by simp at e, fun ρ Q Q' h q => h _ _ q⟩
theorem ow_cons {es : List Expr} {wr : WA} (ha : PD X F a wa) (hr : ∀ F, PDV X F es wr) (hs : starEach (a :: es) X.env = (false, eval a X.env) :: starEach es X.env := by rfl) : PDV X F (a :: es) (wOw wa wr) := by
  refine ⟨⟨fun pos pins s σ H Q I h => ?_⟩, fun ρ Q Q' h q => ha.mono _ _ _ (fun x ρ1 k => got_mono (fun y k1 => (hr F).mono _ _ _ (fun xs ρ2 k2 => h _ _ k2) k1) k) q⟩
  -- the rest runs in a frame that keeps the new list
  let t2 : TA := fun σ H Q => ∃ F', lV F' wr σ H Q
  have h2 : PA X es t2 := ⟨fun pos pins s σ H Q I ⟨F', h⟩ => (hr F').run.run pos pins s σ H Q I h⟩
  have h3 := pa_cons ha.run h2 hs
  refine h3.run pos pins s σ H Q I ?_
  obtain ⟨ρ, S, rl, h⟩ := h
  refine le_mk ha.mono rl h fun x ρ1 hx S1 H1 v u1 g1 r1 vx => ?_
  obtain ⟨y, ey, hx⟩ := got_ex hx
  have e : x = y := by cases x <;> cases ey <;> rfl
  subst e
  by_cases ow : ∃ ds, x = .ow ds
  · obtain ⟨ds, rfl⟩ := ow
    have vx0 := vx
    obtain ⟨p, xs0, e0, _⟩ := vx0
    subst e0
    obtain ⟨xs, k1, k2, k3, k4, r2⟩ := r1.own vx
    refine ⟨F.own p xs, ρ1, S1, r2, (hr F).mono _ _ _ (fun sls ρ2 hy S2 H2 vs u2 g2 r3 vys ap => ?_) hx⟩
    have r4 := Rel.back r1.fr k4 r3
    have ns : ¬ F.isS p := fun z => r1.fr.srcH p z k4
    have H2p : H2 p = some (.lst xs) := r3.fr.keep p _ (by unfold Fm.own; simp only [upd_same]) ns
    have S0p : F.S0 p = none := by
      cases q : F.S0 p with
      | none => rfl
      | some o => rw [r1.fr.up p o q] at k3; cases k3
    have S2p : S2 p = none := r3.fr.out p (by unfold Fm.own; simp only [upd_same]; simp) S0p
    refine hy S2 H2 _ (u1.trans u2) (g1.trans g2) r4 (.cons ⟨p, xs, rfl, H2p, S2p, k4, dqa_up u2 k2, fun i es q z => ?_⟩ (paired_back vys)) fun i j ds1 es1 e1 e2 ee => ?_
    · obtain ⟨a', ys, q1, _, _, q4, _⟩ := r3.slots i _ q
      rw [z] at q1
      cases q1
      exact (own_none q4).2 rfl
    · cases i with
      | zero =>
        cases j with
        | zero => rfl
        | succ j =>
          exact absurd (by simpa using ee.symm) (paired_ne (j := j) vys (by simpa using e2))
      | succ i =>
        cases j with
        | zero => exact absurd (by simpa using ee) (paired_ne (j := i) vys (by simpa using e1))
        | succ j => rw [ap i j ds1 es1 (by simpa using e1) (by simpa using e2) (by simpa using ee)]
  · have ec : x.calm = x := by cases x <;> first | rfl | exact absurd ⟨_, rfl⟩ ow
    refine ⟨F, ρ1, S1, r1, (hr F).mono _ _ _ (fun sls ρ2 hy S2 H2 vs u2 g2 r3 vys ap => ?_) hx⟩
    have vx2 := vx.stay (ρ' := ρ2) r1.fr u2 g2
    rw [ec] at vx2
    refine hy S2 H2 _ (u1.trans u2) (g1.trans g2) r3 (.cons vx2 vys) fun i j ds1 es1 e1 e2 ee => ?_
    cases i with
    | zero => exact absurd ⟨ds1, by simpa using e1⟩ ow
    | succ i =>
      cases j with
      | zero => exact absurd ⟨es1, by simpa using e2⟩ ow
      | succ j => rw [ap i j ds1 es1 (by simpa using e1) (by simpa using e2) (by simpa using ee)]
/-- a value is kept when another one is put -/
theorem VX.put {ρ : List Sl} {S H : Hp} {σ : L2.St} {v w : V} {x y : Sl} (i : Nat) (h : VX F ρ S σ H w y) (hn : ∀ ds es, x = .ow ds → y = .ow es → v ≠ w) : VX F (ρ.set i x) S (σ.set i (some v)) H w y := by
  cases y with
  | ow es =>
    obtain ⟨a, xs, e1, e2, e3, e4, e5, e6⟩ := h
    refine ⟨a, xs, e1, e2, e3, e4, e5, fun j fs q z => ?_⟩
    by_cases hj : i = j
    · subst hj
      by_cases hi : i < ρ.length
      · rw [List.getElem?_set_self hi] at q
        cases q
        by_cases hs : i < σ.length
        · rw [List.getElem?_set_self hs] at z
          cases z
          exact hn fs es rfl rfl e1.symm
        · rw [List.getElem?_eq_none (by rw [List.length_set]; omega)] at z; cases z
      · rw [List.getElem?_eq_none (by rw [List.length_set]; omega)] at q; cases q
    · rw [List.getElem?_set_ne hj] at q z
      exact e6 j fs q z
  | no => exact h
  | im d => exact h
  | pk _ => exact h
  | src => exact h
theorem sto_id {x y : Sl} (e : x.sto? = some y) : x = y := by cases x <;> cases e <;> rfl
def parO (ix : List Nat) (N : List Sl → Prop) (ρ1 : List Sl) (xs : List Sl) : Prop := match ix, xs with
  | [i, j], [x, y] => got x.sto? fun x => got y.sto? fun y => N ((ρ1.set i x).set j y)
  | [i, j, k], [x, y, z] => got x.sto? fun x => got y.sto? fun y => got z.sto? fun z => N (((ρ1.set i x).set j y).set k z)
  | [i, j, k, l], [x, y, z, u] => got x.sto? fun x => got y.sto? fun y => got z.sto? fun z => got u.sto? fun u => N ((((ρ1.set i x).set j y).set k z).set l u)
  | _, _ => False
def wParO (ix : List Nat) (w : WA) : WS := fun D ρ => w ρ fun xs ρ1 => parO ix D.nx ρ1 xs
theorem parO_mono {ix : List Nat} {N N' : List Sl → Prop} {ρ : List Sl} {xs : List Sl} (h : ∀ ρ, N ρ → N' ρ) (q : parO ix N ρ xs) : parO ix N' ρ xs := by
  unfold parO at q ⊢
  split at q
  · exact got_mono (fun _ k => got_mono (fun _ k => h _ k) k) q
  · exact got_mono (fun _ k => got_mono (fun _ k => got_mono (fun _ k => h _ k) k) k) q
  · exact got_mono (fun _ k => got_mono (fun _ k => got_mono (fun _ k => got_mono (fun _ k => h _ k) k) k) k) q
  · exact q.elim
theorem mono_wParO {ix : List Nat} {w : WA} (m : Mono3 w) : MonoS (wParO ix w) := fun D D' ρ l h => m _ _ _ (fun x ρ1 k => parO_mono l.nx k) h
theorem d_parO {i j : Nat} {x y : Str} {a b : Expr} {w : WA} {px py pt pos : Pos} {kt k2 pt2} (hc : X.calm = true) (hN : X.N.Nodup) (hi : X.N[i]? = some x) (hj : X.N[j]? = some y) (hij : i ≠ j)
    (hx : X.env.scope.names.lookup x = some .local) (hy : X.env.scope.names.lookup y = some .local) (ha : PDV X F [a, b] w)
    (hw : swappedStores [.Tuple [.Name x px, .Name y py] kt pt] (.Tuple [a, b] k2 pt2) X.env = pure (some [x, y]))
    (hs : swapsWithSole [.Tuple [.Name x px, .Name y py] kt pt] (.Tuple [a, b] k2 pt2) pos.line X.env = pure false := by rfl) :
    PSD X F (.Assign [.Tuple [.Name x px, .Name y py] kt pt] (.Tuple [a, b] k2 pt2) pos) (wParO [i, j] w) := by
  refine ⟨ps_imp (ps_par hc hN hi hj hij hx hy ha.run hw hs) fun D σ H ⟨ρ, S, rl, h⟩ => ⟨ρ, S, rl, ha.mono _ _ _ (fun xs ρ1 hx S1 H1 vs u1 g1 r1 vx ap => ?_) h⟩, mono_wParO ha.mono⟩
  unfold parO at hx
  split at hx
  · rename_i i' j' x' y' e1
    cases e1
    obtain ⟨x2, ex, hx⟩ := got_ex hx
    obtain ⟨y2, ey, hx⟩ := got_ex hx
    have := sto_id ex; subst this
    have := sto_id ey; subst this
    match vs, vx with
    | _, .cons h1 (.cons h2 .nil) =>
      refine ⟨_, _, rfl, hx S1 _ H1 u1 ((r1.put h1 ex i).put (h2.put i fun ds es e1 e2 z => ?_) ey j)⟩
      have := ap 0 1 ds es (by simp [e1]) (by simp [e2]) (by simp [z])
      cases this
  · rename_i e1; cases e1
  · rename_i e1; cases e1
  · exact hx.elim
theorem d_par3O {i j k : Nat} {x y z : Str} {a b c : Expr} {w : WA} {px py pz pt pos : Pos} {kt k2 pt2} (hc : X.calm = true) (hN : X.N.Nodup) (hi : X.N[i]? = some x) (hj : X.N[j]? = some y) (hk : X.N[k]? = some z) (hij : i ≠ j) (hik : i ≠ k) (hjk : j ≠ k)
    (hx : X.env.scope.names.lookup x = some .local) (hy : X.env.scope.names.lookup y = some .local) (hz : X.env.scope.names.lookup z = some .local) (ha : PDV X F [a, b, c] w)
    (hw : swappedStores [.Tuple [.Name x px, .Name y py, .Name z pz] kt pt] (.Tuple [a, b, c] k2 pt2) X.env = pure (some [x, y, z]))
    (hs : swapsWithSole [.Tuple [.Name x px, .Name y py, .Name z pz] kt pt] (.Tuple [a, b, c] k2 pt2) pos.line X.env = pure false := by rfl) :
    PSD X F (.Assign [.Tuple [.Name x px, .Name y py, .Name z pz] kt pt] (.Tuple [a, b, c] k2 pt2) pos) (wParO [i, j, k] w) := by
  refine ⟨ps_imp (ps_par3 hc hN hi hj hk hij hik hjk hx hy hz ha.run hw hs) fun D σ H ⟨ρ, S, rl, h⟩ => ⟨ρ, S, rl, ha.mono _ _ _ (fun xs ρ1 hx S1 H1 vs u1 g1 r1 vx ap => ?_) h⟩, mono_wParO ha.mono⟩
  unfold parO at hx
  split at hx
  · rename_i e1; cases e1
  · rename_i i' j' k' x' y' z' e1
    cases e1
    obtain ⟨x2, ex, hx⟩ := got_ex hx
    obtain ⟨y2, ey, hx⟩ := got_ex hx
    obtain ⟨z2, ez, hx⟩ := got_ex hx
    have := sto_id ex; subst this
    have := sto_id ey; subst this
    have := sto_id ez; subst this
    match vs, vx with
    | _, .cons h1 (.cons h2 (.cons h3 .nil)) =>
      refine ⟨_, _, _, rfl, hx S1 _ H1 u1 (((r1.put h1 ex i).put (h2.put i fun ds es e1 e2 z => ?_) ey j).put ((h3.put i fun ds es e1 e2 z => ?_).put j fun ds es e1 e2 z => ?_) ez k)⟩
      · have := ap 0 1 ds es (by simp [e1]) (by simp [e2]) (by simp [z]); cases this
      · have := ap 0 2 ds es (by simp [e1]) (by simp [e2]) (by simp [z]); cases this
      · have := ap 1 2 ds es (by simp [e1]) (by simp [e2]) (by simp [z]); cases this
  · rename_i e1; cases e1
  · exact hx.elim
end
section
variable {wa : WE} {r : WA} {D0 : DE} {ρ : List Sl} {QA : List Sl → List Sl → Prop} {N : List Sl → Prop} {x y z u : Sl} {d : D} {ds : List D} {KK : Sl → Prop}
@[simp ↓] theorem x_Ow : wOw wa r ρ QA = wa ρ fun x ρ1 => got x.sto? fun y => r ρ1 fun xs ρ2 => QA (y :: xs) ρ2 := id rfl
@[simp ↓] theorem x_parO {ix : List Nat} : wParO ix r D0 ρ = r ρ fun xs ρ1 => parO ix D0.nx ρ1 xs := id rfl
@[simp ↓] theorem x_parO2 {i j : Nat} : parO [i, j] N ρ [x, y] = got x.sto? fun x => got y.sto? fun y => putK (fun ρ1 => putK N j y ρ1) i x ρ := id rfl
@[simp ↓] theorem x_parO3 {i j k : Nat} : parO [i, j, k] N ρ [x, y, z] = got x.sto? fun x => got y.sto? fun y => got z.sto? fun z => putK (fun ρ1 => putK (fun ρ2 => putK N k z ρ2) j y ρ1) i x ρ := id rfl
end
end DL

set_option Elab.async false
set_option linter.all false
set_option maxRecDepth 100000
namespace DL
open PySem PySem.Spec PyProof.Rows L2
/-! ### loops by what is behind, comprehensions by a function -/
theorem loop_pre {α : Type} {f : α → D} {g : TGD} {b : WS} {E : DE} {ys : List α} {ρ : List Sl} (P : List α → List Sl → Prop) (h0 : P [] ρ) (fin : ∀ ρ, P ys ρ → E.nx ρ)
    (step : ∀ us y vs, ys = us ++ y :: vs → ∀ ρ (K : List Sl → Prop), P us ρ → (∀ ρ', P (us ++ [y]) ρ' → K ρ') → g (f y) ρ fun ρ1 => b { E with nx := K, ct := K, bk := E.nx } ρ1) : loopD g b E (ys.map f) ρ := by
  refine loop_ind (fun rem ρ => ∃ us vs, ys = us ++ vs ∧ rem = vs.map f ∧ P us ρ) ?_ ?_ _ _ ⟨[], ys, rfl, rfl, h0⟩
  · rintro ρ ⟨us, vs, e, e2, p⟩
    have : vs = [] := by cases vs with | nil => rfl | cons _ _ => cases e2
    subst this
    rw [List.append_nil] at e
    subst e
    exact fin ρ p
  · rintro d ds ρ K ⟨us, vs, e, e2, p⟩ hK
    cases vs with
    | nil => cases e2
    | cons y vs =>
      cases e2
      exact step us y vs e ρ K p fun ρ' p' => hK ρ' ⟨us ++ [y], vs, by rw [e]; simp, rfl, p'⟩
theorem loop_rg {g : TGD} {b : WS} {E : DE} {lo : Int} {n : Nat} {ρ : List Sl} (P : Nat → List Sl → Prop) (h0 : P 0 ρ) (fin : ∀ ρ, P n ρ → E.nx ρ)
    (step : ∀ j, j < n → ∀ ρ (K : List Sl → Prop), P j ρ → (∀ ρ', P (j + 1) ρ' → K ρ') → g (.int (lo + j)) ρ fun ρ1 => b { E with nx := K, ct := K, bk := E.nx } ρ1) : loopD g b E (rgD lo 1 n) ρ := by
  refine loop_ind (fun rem ρ => ∃ j : Nat, j ≤ n ∧ rem = rgD (lo + j) 1 (n - j) ∧ P j ρ) ?_ ?_ _ _ ⟨0, Nat.zero_le _, by simp, h0⟩
  · rintro ρ ⟨j, hj, e, p⟩
    have : j = n := by
      cases q : n - j with
      | zero => omega
      | succ k => rw [q] at e; cases e
    subst this
    exact fin ρ p
  · rintro d ds ρ K ⟨j, hj, e, p⟩ hK
    cases q : n - j with
    | zero => rw [q] at e; cases e
    | succ k =>
      rw [q, rgD] at e
      cases e
      refine step j (by omega) ρ K p fun ρ' p' => hK ρ' ⟨j + 1, by omega, ?_, p'⟩
      rw [show n - (j + 1) = k by omega]
      congr 1
      omega
def wipeP (vs : List Nat) (N : List Sl → Prop) (ρ : List Sl) : Prop := N (wipeD ρ vs)
@[simp ↓] theorem wipeP1 {v : Nat} {N : List Sl → Prop} {ρ : List Sl} : wipeP [v] N ρ = putK N v .no ρ := id rfl
@[simp ↓] theorem wipeP2 {v u : Nat} {N : List Sl → Prop} {ρ : List Sl} : wipeP [v, u] N ρ = putK (fun ρ1 => putK N v .no ρ1) u .no ρ := id rfl
@[simp ↓] theorem wipeP3 {v u t : Nat} {N : List Sl → Prop} {ρ : List Sl} : wipeP [v, u, t] N ρ = putK (fun ρ1 => putK (fun ρ2 => putK N v .no ρ2) u .no ρ1) t .no ρ := id rfl
def restP (vs : List Nat) (N : List Sl → Prop) (ρ ρ3 : List Sl) : Prop := N (restD vs 0 ρ ρ3)
theorem keepI_keepI (s : Sl) : keepI (keepI s) = keepI s := by cases s <;> rfl
theorem restD_two {v u : Nat} : ∀ (j : Nat) (os ns : List Sl), restD [v, u] j os ns = restD [u] j os (restD [v] j os ns)
  | j, [], ns => by cases ns <;> rfl
  | j, _ :: _, [] => rfl
  | j, o :: os, n :: ns => by
    rw [restD, restD, restD, restD_two (j + 1) os ns]
    congr 1
    by_cases h1 : v = j
    · subst h1
      by_cases h2 : u = v <;> simp [h2]
    · by_cases h2 : u = j
      · subst h2; simp [h1]
      · simp [Ne.symm h1, Ne.symm h2]
@[simp ↓] theorem restP1 {v : Nat} {N : List Sl → Prop} {ρ ρ3 : List Sl} : restP [v] N ρ ρ3 = restK v N ρ ρ3 := id rfl
@[simp ↓] theorem restP2 {v u : Nat} {N : List Sl → Prop} {ρ ρ3 : List Sl} : restP [v, u] N ρ ρ3 = restK v (fun r => restK u N ρ r) ρ ρ3 := by
  unfold restP restK
  rw [restD_two]
/-- a comprehension: R of the members so far and the results so far -/
theorem comp_rel {α β : Type} {f : α → D} {h : β → D} {g : TGD} {tt : WT} {te : WE} {vs : List Nat} {Q : List D → List Sl → Prop} {ys : List α} {ρ : List Sl} (S : List Sl → Prop) (R : List α → List β → Prop) (r0 : R [] []) (s0 : S ρ) (l : ys.length ≤ 100000)
    (fin : ∀ ws ρ, R ys ws → S ρ → ws.length ≤ ys.length → Q (ws.map h) ρ)
    (step : ∀ us y vs', ys = us ++ y :: vs' → ∀ ws, R us ws → ∀ ρ, S ρ → ∀ (K : D → List Sl → Prop) (E : List Sl → Prop), (∀ w ρ', R (us ++ [y]) (ws ++ [w]) → S ρ' → K (h w) ρ') → (∀ ρ', R (us ++ [y]) ws → S ρ' → E ρ') →
      wipeP vs (fun ρ0 => g (f y) ρ0 fun ρ1 => tt ρ1 fun b ρ2 => if b = true then te ρ2 fun x ρ3 => got x.shd? fun d => restP vs (K d) ρ ρ3 else restP vs E ρ ρ2) ρ) : compD g tt te vs (ys.map f) [] ρ Q := by
  refine comp_ind (fun rem acc ρ => ∃ us vs ws, ys = us ++ vs ∧ rem = vs.map f ∧ acc = ws.map h ∧ ws.length ≤ us.length ∧ R us ws ∧ S ρ) ?_ ?_ _ _ _ ⟨[], ys, [], rfl, rfl, rfl, Nat.le_refl _, r0, s0⟩
  · rintro acc ρ ⟨us, vs, ws, e, e2, rfl, hl, r, s⟩
    have : vs = [] := by cases vs with | nil => rfl | cons _ _ => cases e2
    subst this
    rw [List.append_nil] at e
    subst e
    exact fin ws ρ r s hl
  · rintro d ds acc ρ K ⟨us, vs2, ws, e, e2, rfl, hl, r, s⟩ hK
    cases vs2 with
    | nil => cases e2
    | cons y vs2 =>
      cases e2
      have hu : us.length ≤ 100000 := by
        have : us.length ≤ ys.length := by rw [e]; simp
        omega
      have := step us y vs2 e ws r ρ s (fun d ρ' => (ws.map h).length ≤ 100000 ∧ K (ws.map h ++ [d]) ρ') (fun ρ' => K (ws.map h) ρ')
        (fun w ρ' r' s' => ⟨by rw [List.length_map]; omega, hK _ ρ' ⟨us ++ [y], vs2, ws ++ [w], by rw [e]; simp, rfl, by simp, by simp; omega, r', s'⟩⟩)
        (fun ρ' r' s' => hK _ ρ' ⟨us ++ [y], vs2, ws, by rw [e]; simp, rfl, rfl, by simp; omega, r', s'⟩)
      exact this
/-- each member by a function -/
theorem comp_map {α β : Type} {f : α → D} {h : β → D} {g : TGD} {tt : WT} {te : WE} {vs : List Nat} {Q : List D → List Sl → Prop} {ys : List α} {ρ : List Sl} (S : List Sl → Prop) (r : α → β) (s0 : S ρ) (l : ys.length ≤ 100000)
    (fin : ∀ ρ, S ρ → Q ((ys.map r).map h) ρ)
    (step : ∀ y, y ∈ ys → ∀ ρ, S ρ → ∀ (K : D → List Sl → Prop) (E : List Sl → Prop), (∀ ρ', S ρ' → K (h (r y)) ρ') →
      wipeP vs (fun ρ0 => g (f y) ρ0 fun ρ1 => tt ρ1 fun b ρ2 => if b = true then te ρ2 fun x ρ3 => got x.shd? fun d => restP vs (K d) ρ ρ3 else restP vs E ρ ρ2) ρ) : compD g tt te vs (ys.map f) [] ρ Q :=
  comp_rel S (fun us ws => ws = us.map r) rfl s0 l (fun ws ρ e s _ => by subst e; exact fin ρ s) fun us y vs' e ws r' ρ s K E hK hE => step y (by rw [e]; simp) ρ s K E fun ρ' s' => hK _ ρ' (by rw [r']; simp) s'
/-- each member by a function, where it fits -/
theorem comp_filt {α β : Type} {f : α → D} {h : β → D} {g : TGD} {tt : WT} {te : WE} {vs : List Nat} {Q : List D → List Sl → Prop} {ys : List α} {ρ : List Sl} (S : List Sl → Prop) (p : α → Bool) (r : α → β) (s0 : S ρ) (l : ys.length ≤ 100000)
    (fin : ∀ ρ, S ρ → Q (((ys.filter p).map r).map h) ρ)
    (step : ∀ y, y ∈ ys → ∀ ρ, S ρ → ∀ (K : D → List Sl → Prop) (E : List Sl → Prop), (p y = true → ∀ ρ', S ρ' → K (h (r y)) ρ') → (p y = false → ∀ ρ', S ρ' → E ρ') →
      wipeP vs (fun ρ0 => g (f y) ρ0 fun ρ1 => tt ρ1 fun b ρ2 => if b = true then te ρ2 fun x ρ3 => got x.shd? fun d => restP vs (K d) ρ ρ3 else restP vs E ρ ρ2) ρ) : compD g tt te vs (ys.map f) [] ρ Q :=
  comp_rel S (fun us ws => ws = (us.filter p).map r) rfl s0 l (fun ws ρ e s _ => by subst e; exact fin ρ s) fun us y vs' e ws r' ρ s K E hK hE => step y (by rw [e]; simp) ρ s K E (fun hp ρ' s' => hK _ ρ' (by rw [r']; simp [hp]) s') (fun hp ρ' s' => hE ρ' (by rw [r']; simp [hp]) s')
/-- each member gives something that fits -/
theorem comp_each {α β : Type} {f : α → D} {h : β → D} {g : TGD} {tt : WT} {te : WE} {vs : List Nat} {Q : List D → List Sl → Prop} {ys : List α} {ρ : List Sl} (S : List Sl → Prop) (p : β → Prop) (s0 : S ρ) (l : ys.length ≤ 100000)
    (fin : ∀ (ws : List β) ρ, ws.length = ys.length → (∀ w ∈ ws, p w) → S ρ → Q (ws.map h) ρ)
    (step : ∀ y, y ∈ ys → ∀ ρ, S ρ → ∀ (K : D → List Sl → Prop) (E : List Sl → Prop), (∀ w, p w → ∀ ρ', S ρ' → K (h w) ρ') →
      wipeP vs (fun ρ0 => g (f y) ρ0 fun ρ1 => tt ρ1 fun b ρ2 => if b = true then te ρ2 fun x ρ3 => got x.shd? fun d => restP vs (K d) ρ ρ3 else restP vs E ρ ρ2) ρ) : compD g tt te vs (ys.map f) [] ρ Q :=
  comp_rel S (fun us ws => ws.length = us.length ∧ ∀ w ∈ ws, p w) ⟨rfl, fun w hw => by cases hw⟩ s0 l (fun ws ρ e s _ => fin ws ρ e.1 e.2 s) fun us y vs' e ws r' ρ s K E hK hE => step y (by rw [e]; simp) ρ s K E fun w pw ρ' s' => hK w ρ' ⟨by simp [r'.1], fun w' hw => by
    rcases List.mem_append.mp hw with z | z
    · exact r'.2 w' z
    · rw [List.mem_singleton.mp z]; exact pw⟩ s'
theorem rgD_map (lo : Int) : ∀ n : Nat, rgD lo 1 n = (List.range n).map fun (j : Nat) => PyData.int (lo + j) := by
  intro n
  induction n generalizing lo with
  | zero => rfl
  | succ n ih =>
    rw [rgD, ih, List.range_succ_eq_map, List.map_cons, List.map_map]
    congr 1
    · simp
    · apply List.map_congr_left
      intro j _
      show PyData.int (lo + 1 + j) = .int (lo + ((j + 1 : Nat) : Int))
      congr 1
      omega
theorem enD_map {α : Type} (f : α → D) (k : Int) : ∀ (ys : List α) (j : Nat), enD (k + j) (ys.map f) = (ys.zipIdx j).map fun p => PyData.tuple [.int (k + p.2), f p.1]
  | [], _ => rfl
  | y :: ys, j => by
    rw [List.map_cons, enD, List.zipIdx_cons, List.map_cons, ← enD_map f k ys (j + 1)]
    congr 1
    rw [show k + (j : Int) + 1 = k + ((j + 1 : Nat) : Int) by omega]
theorem enD_0 {α : Type} (f : α → D) (k : Int) (ys : List α) : enD k (ys.map f) = (ys.zipIdx 0).map fun p => PyData.tuple [.int (k + p.2), f p.1] := by
  have := enD_map f k ys 0
  simpa using this
theorem mem_zipIdx0 {α : Type} {ys : List α} {p : α × Nat} (h : p ∈ ys.zipIdx 0) : p.2 < ys.length ∧ ys[p.2]? = some p.1 := by
  have := List.mem_zipIdx_iff_getElem?.mp h
  exact ⟨(List.getElem?_eq_some_iff.mp this).1, this⟩
end DL

set_option Elab.async false
set_option linter.all false
set_option maxRecDepth 100000
namespace DL
open PySem PySem.Spec PyProof.Rows L2
/-! ### list(range(..)) -/
theorem dqa_rg {S : Hp} (a b : Int) : DqAll S (rgV a b) (rgD a 1 (b - a).toNat) := by
  have e : rgD a 1 (b - a).toNat = ((List.range (b - a).toNat).map fun (j : Nat) => a + (j : Int)).map PyData.int := by
    rw [rgD_map, List.map_map]; rfl
  have e2 : rgV a b = ((List.range (b - a).toNat).map fun (j : Nat) => a + (j : Int)).map V.int := by
    unfold rgV
    rw [List.map_map]; rfl
  rw [e, e2]
  exact dqa_of_ints _
def wLR1 (wa : WE) : WE := fun ρ Q => wa ρ fun x ρ1 => got x.int? fun n => 0 ≤ n ∧ n ≤ 100000 ∧ Q (.ow (rgD 0 1 n.toNat)) ρ1
def wLR2 (wa wb : WE) : WE := fun ρ Q => wa ρ fun x ρ1 => wb ρ1 fun y ρ2 => got x.int? fun a => got y.int? fun b => 0 ≤ a ∧ a ≤ 100000 ∧ 0 ≤ b ∧ b ≤ 100000 ∧ Q (.ow (rgD a 1 (b - a).toNat)) ρ2
section
variable {X : Cx} {F : Fm} {a b : Expr} {wa wb : WE} {p p2 pos pos2 : Pos}
theorem d_listRg1 (hc : Okx X) (hg : Gl X "list") (hm : X.mg "list" = none) (hg2 : Gl X "range") (hm2 : X.mg "range" = none) (ha : PD X F a wa) (na : starEach [a] X.env = (false, eval a X.env) :: starEach [] X.env := by rfl) (na2 : starEach [.Call (.Name "range" p2) [a] [] pos2] X.env = (false, eval (.Call (.Name "range" p2) [a] [] pos2) X.env) :: starEach [] X.env := by rfl) :
    PD X F (.Call (.Name "list" p) [.Call (.Name "range" p2) [a] [] pos2] [] pos) (wLR1 wa) := by
  refine ⟨pe_imp (pe_listRg hc.calm hg hm (prg_1 hg2 hm2 ha.run na) na2) fun σ H Q ⟨ρ, S, rl, h⟩ => le_mk ha.mono rl h fun x ρ1 hx S1 H1 v u1 g1 r1 vx => ?_, fun ρ Q Q' h q => ha.mono _ _ _ (fun x ρ1 k => got_mono (fun n kn => ⟨kn.1, kn.2.1, h _ _ kn.2.2⟩) k) q⟩
  obtain ⟨n, e, h0, h1, q⟩ := got_ex hx
  have ev := int_of vx e
  subst ev
  refine ⟨n, rfl, RgOk.of_le (by decide) (by omega) (by decide) h0, fun q0 hq => ?_⟩
  have dq : DqAll S1 (rgV 0 n) (rgD 0 1 n.toNat) := by have := dqa_rg (S := S1) 0 n; rwa [Int.sub_zero] at this
  exact (q.up u1 g1).lst r1 dq hq
theorem d_listRg2 (hc : Okx X) (hg : Gl X "list") (hm : X.mg "list" = none) (hg2 : Gl X "range") (hm2 : X.mg "range" = none) (ha : PD X F a wa) (hb : PD X F b wb) (na : starEach [a, b] X.env = (false, eval a X.env) :: starEach [b] X.env := by rfl) (nb : starEach [b] X.env = (false, eval b X.env) :: starEach [] X.env := by rfl) (hp : (backTo pos2 (starEach [b] X.env)).any (·.1) = false := by rfl) (na2 : starEach [.Call (.Name "range" p2) [a, b] [] pos2] X.env = (false, eval (.Call (.Name "range" p2) [a, b] [] pos2) X.env) :: starEach [] X.env := by rfl) :
    PD X F (.Call (.Name "list" p) [.Call (.Name "range" p2) [a, b] [] pos2] [] pos) (wLR2 wa wb) := by
  refine ⟨pe_imp (pe_listRg hc.calm hg hm (prg_2 hg2 hm2 ha.run hb.run na nb hp) na2) fun σ H Q ⟨ρ, S, rl, h⟩ => le_mk ha.mono rl h fun x ρ1 hx S1 H1 v u1 g1 r1 vx => le_mk hb.mono r1 hx fun y ρ2 hy S2 H2 w u2 g2 r2 vy => ?_, fun ρ Q Q' h q => ha.mono _ _ _ (fun x ρ1 k => hb.mono _ _ _ (fun y ρ2 k => got_mono (fun n kn => got_mono (fun m km => ⟨km.1, km.2.1, km.2.2.1, km.2.2.2.1, h _ _ km.2.2.2.2⟩) kn) k) k) q⟩
  obtain ⟨i, ei, hy⟩ := got_ex hy
  obtain ⟨j, ej, h0, h1, h2, h3, q⟩ := got_ex hy
  have ev := int_of vx ei
  have ew := int_of vy ej
  subst ev ew
  refine ⟨i, j, rfl, rfl, RgOk.of_le h0 (by omega) (by omega) h2, fun q0 hq => ?_⟩
  exact ((q.up u1 g1).up u2 g2).lst r2 (dqa_rg i j) hq
end
section
variable {wa wb : WE} {ρ : List Sl} {Q : Sl → List Sl → Prop}
@[simp ↓] theorem x_LR1 : wLR1 wa ρ Q = wa ρ fun x ρ1 => got x.int? fun n => 0 ≤ n ∧ n ≤ 100000 ∧ Q (.ow (rgD 0 1 n.toNat)) ρ1 := id rfl
@[simp ↓] theorem x_LR2 : wLR2 wa wb ρ Q = wa ρ fun x ρ1 => wb ρ1 fun y ρ2 => got x.int? fun a => got y.int? fun b => 0 ≤ a ∧ a ≤ 100000 ∧ 0 ≤ b ∧ b ≤ 100000 ∧ Q (.ow (rgD a 1 (b - a).toNat)) ρ2 := id rfl
end
theorem zpD_map {α β : Type} (f : α → D) (g : β → D) : ∀ (xs : List α) (ys : List β), zpD (xs.map f) (ys.map g) = (xs.zip ys).map fun p => PyData.tuple [f p.1, g p.2]
  | [], _ => by simp [zpD]
  | _ :: _, [] => by simp [zpD]
  | x :: xs, y :: ys => by rw [List.map_cons, List.map_cons, zpD, zpD_map f g xs ys] <;> rfl
theorem dats_cmp {α : Type} (g : α → D) (l : List α) : dats? (l.map (Sl.im ∘ g)) = some (l.map g) := by
  rw [← List.map_map]; exact dats_map _
theorem dats_cmp1 {α : Type} (g : α → D) (l : List α) (d : D) : dats? (l.map (Sl.im ∘ g) ++ [Sl.im d]) = some (l.map g ++ [d]) := by
  have := dats_map (l.map g ++ [d])
  rw [List.map_append, List.map_map] at this
  exact this
theorem loop_en {α : Type} {f : α → D} {g : TGD} {b : WS} {E : DE} {ys : List α} {k : Int} {ρ : List Sl} (P : Nat → List Sl → Prop) (h0 : P 0 ρ) (fin : ∀ ρ, P ys.length ρ → E.nx ρ)
    (step : ∀ (j : Nat) (y : α), ys[j]? = some y → ∀ ρ (K : List Sl → Prop), P j ρ → (∀ ρ', P (j + 1) ρ' → K ρ') → g (.tuple [.int (k + j), f y]) ρ fun ρ1 => b { E with nx := K, ct := K, bk := E.nx } ρ1) : loopD g b E (enD k (ys.map f)) ρ := by
  rw [enD_0]
  refine loop_pre (fun us ρ => P us.length ρ) h0 (fun ρ h => fin ρ (by simpa using h)) fun us y vs e ρ K h hK => ?_
  have e1 : (ys.zipIdx 0)[us.length]? = some y := by rw [e]; simp
  rw [List.getElem?_zipIdx] at e1
  cases q : ys[us.length]? with
  | none => rw [q] at e1; cases e1
  | some z =>
    rw [q] at e1
    simp at e1
    subst e1
    exact step us.length z q ρ K h fun ρ' h' => hK ρ' (by simpa using h')
end DL

set_option Elab.async false
set_option linter.all false
set_option maxRecDepth 100000
namespace DL
open PySem PySem.Spec PyProof.Rows L2
section
variable {X : Cx} {F : Fm} {e : Expr}
theorem seqI_in {k : Int} {n : Nat} (h0 : 0 ≤ k) (h1 : k < n) : seqIndex? k n = some k.toNat := by
  unfold seqIndex?
  simp only [if_neg (show ¬ k < 0 by omega)]
  rw [if_pos (by simp [h0, h1])]
/-- name = x.pop(k) -/
def popK (j i : Nat) (N : List Sl → Prop) (k : Int) (ρ1 : List Sl) : Prop := match ρ1[i]? with
  | some (.ow ds) => 0 ≤ k ∧ k < ds.length ∧ k < 2 ^ 60 ∧ got ds[k.toNat]? fun d => N ((ρ1.set i (.ow (ds.eraseIdx k.toNat))).set j (.im d))
  | _ => False
def wSetPop (j i : Nat) (wk : WE) : WS := fun D ρ => (∃ es, ρ[i]? = some (.ow es)) ∧ wk ρ fun kx ρ1 => got kx.int? fun k => popK j i D.nx k ρ1
theorem d_setPop {j i : Nat} {y x : Str} {p0 p1 p2 p3 pos : Pos} {w : WE} (hN : X.N.Nodup) (hj : X.N[j]? = some y) (hy : Loc X.env.scope y) (hv : PE X (.Name x p1) (tVar i)) (he : PD X F e w)
    (hpe : ∀ {t : TA}, PA X [e] t → PE X (.Call (.Attribute (.Name x p1) "pop" p2) [e] [] p3) (tBM X.K "list" rPopAt (tVar i) t))
    (hst : starEach [e] X.env = (false, eval e X.env) :: starEach [] X.env := by rfl)
    (hs : swapsWith (.Call (.Attribute (.Name x p1) "pop" p2) [e] [] p3) (some (.Name y p0)) pos.line X.env = pure false := by rfl) (hf : X.fn y = true ∨ X.env.scope.names.lookup y = some .local := by first | exact .inl rfl | exact .inr rfl | assumption) :
    PSD X F (.Assign [.Name y p0] (.Call (.Attribute (.Name x p1) "pop" p2) [e] [] p3) pos) (wSetPop j i w) := by
  refine ⟨ps_imp (ps_set hN hj hy (hpe (pa_cons he.run pa_nil hst)) hs hf) fun D σ H ⟨ρ, S, rl, ⟨es, ee⟩, h⟩ => ?_, fun D D' ρ l h => ⟨h.1, he.mono _ _ _ (fun x ρ1 k => got_mono (fun d kd => ?_) k) h.2⟩⟩
  · obtain ⟨a, zs, f1, f2, f3, _⟩ := rl.slots i _ ee
    refine ⟨.ref a, f1, .inl ⟨rfl, zs, .of f2⟩, le_mk he.mono rl h fun kx ρ1 hy S1 H1 v u1 g1 r1 vy => ?_⟩
    obtain ⟨k, ek, q⟩ := got_ex hy
    have ev := int_of vy ek
    subst ev
    unfold popK at q
    split at q
    · rename_i ds er
      obtain ⟨k0, k1, k2, q⟩ := q
      obtain ⟨d, ed, q⟩ := got_ex q
      obtain ⟨b, xs, e1, e2, e3, e4, e5⟩ := r1.slots i _ er
      rw [f1] at e1
      cases e1
      obtain ⟨z, hz, dz⟩ := dqa_to e5 ed
      refine ⟨a, xs, k, k.toNat, z, rfl, rfl, e2, by omega, by omega, seqI_in k0 (by rw [dqa_len e5]; exact k1), hz, ?_⟩
      exact q S1 _ _ u1 ((r1.items er f1 (dqa_erase _ e5)).putD dz j)
    · exact q.elim
  · unfold popK at kd ⊢
    split
    · rename_i er
      rw [er] at kd
      exact ⟨kd.1, kd.2.1, kd.2.2.1, got_mono (fun d k => l.nx _ k) kd.2.2.2⟩
    · split at kd <;> simp_all
/-- x.insert(k, y) -/
def insK (i : Nat) (N : List Sl → Prop) (xs : List Sl) (ρ1 : List Sl) : Prop := match xs, ρ1[i]? with
  | [.im (.int k), .im d], some (.ow ds) => 0 ≤ k ∧ k < 2 ^ 60 ∧ ds.length < 100000 ∧ N (ρ1.set i (.ow (ds.take k.toNat ++ [d] ++ ds.drop k.toNat)))
  | _, _ => False
def wIns (i : Nat) (w : WA) : WS := fun D ρ => (∃ es, ρ[i]? = some (.ow es)) ∧ w ρ fun xs ρ1 => insK i D.nx xs ρ1
theorem d_ins {i : Nat} {x : Str} {e2 : Expr} {p1 p2 p3 pos : Pos} {w : WA} (hv : PE X (.Name x p1) (tVar i)) (ha : PDA X F [e, e2] w)
    (hpe : ∀ {t : TA}, PA X [e, e2] t → PE X (.Call (.Attribute (.Name x p1) "insert" p2) [e, e2] [] p3) (tBM X.K "list" (fun x vs H Q => ∃ (l : Addr) (xs : List V) (i : Int) (y : V), x = .ref l ∧ vs = [.int i, y] ∧ H l = some (.lst xs) ∧ xs.length < sizeLine ∧ 0 ≤ i ∧ i < 2 ^ 63 ∧ Q .non (upd H l (.lst (xs.take i.toNat ++ [y] ++ xs.drop i.toNat)))) (tVar i) t))
    (hs : swapsWith (.Call (.Attribute (.Name x p1) "insert" p2) [e, e2] [] p3) none pos.line X.env = pure false := by rfl) : PSD X F (.Expr (.Call (.Attribute (.Name x p1) "insert" p2) [e, e2] [] p3) pos) (wIns i w) := by
  refine ⟨ps_imp (ps_expr (hpe ha.run) hs) fun D σ H ⟨ρ, S, rl, ⟨es, ee⟩, h⟩ => ?_, fun D D' ρ l h => ⟨h.1, ha.mono _ _ _ (fun x ρ1 k => ?_) h.2⟩⟩
  · obtain ⟨a, zs, f1, f2, f3, _⟩ := rl.slots i _ ee
    refine ⟨.ref a, f1, .inl ⟨rfl, zs, .of f2⟩, la_mk ha.mono rl h fun xs ρ1 hy S1 H1 vs u1 g1 r1 vy => ?_⟩
    unfold insK at hy
    split at hy
    · rename_i k d ds er
      obtain ⟨k0, k1, k2, q⟩ := hy
      match vs, vy with
      | _, .cons v1 (.cons v2 .nil) =>
        have ev := dq_int v1
        subst ev
        obtain ⟨b, ys, e1, e2', e3, e4, e5⟩ := r1.slots i _ er
        rw [f1] at e1
        cases e1
        refine ⟨a, ys, k, _, rfl, rfl, e2', by rw [dqa_len e5]; exact line_lt (by omega), k0, by omega, ?_⟩
        exact q S1 σ _ u1 (r1.items er f1 (dqa_app (dqa_app (dqa_take _ e5) (.cons v2 .nil)) (dqa_drop _ e5)))
    · exact hy.elim
  · unfold insK at k ⊢
    split
    · rename_i er
      rw [er] at k
      exact ⟨k.1, k.2.1, k.2.2.1, l.nx _ k.2.2.2⟩
    · split at k <;> simp_all
/-- x.extend(a fresh list) -/
def extK (i : Nat) (N : List Sl → Prop) (x : Sl) (ρ1 : List Sl) : Prop := match ρ1[i]? with
  | some (.ow ds) => got x.lst? fun es => ds.length + es.length ≤ 100000 ∧ N (ρ1.set i (.ow (ds ++ es)))
  | _ => False
def wExt (i : Nat) (w : WE) : WS := fun D ρ => (∃ es, ρ[i]? = some (.ow es)) ∧ w ρ fun x ρ1 => extK i D.nx x ρ1
theorem d_ext {i : Nat} {x : Str} {p1 p2 p3 pos : Pos} {w : WE} (hv : PE X (.Name x p1) (tVar i)) (he : PD X F e w)
    (hpe : ∀ {t : TA}, PA X [e] t → PE X (.Call (.Attribute (.Name x p1) "extend" p2) [e] [] p3) (tBM X.K "list" rExtend (tVar i) t))
    (hst : starEach [e] X.env = (false, eval e X.env) :: starEach [] X.env := by rfl)
    (hs : swapsWith (.Call (.Attribute (.Name x p1) "extend" p2) [e] [] p3) none pos.line X.env = pure false := by rfl) : PSD X F (.Expr (.Call (.Attribute (.Name x p1) "extend" p2) [e] [] p3) pos) (wExt i w) := by
  refine ⟨ps_imp (ps_expr (hpe (pa_cons he.run pa_nil hst)) hs) fun D σ H ⟨ρ, S, rl, ⟨es, ee⟩, h⟩ => ?_, fun D D' ρ l h => ⟨h.1, he.mono _ _ _ (fun x ρ1 k => ?_) h.2⟩⟩
  · obtain ⟨a, zs, f1, f2, f3, _⟩ := rl.slots i _ ee
    refine ⟨.ref a, f1, .inl ⟨rfl, zs, .of f2⟩, le_mk he.mono rl h fun y ρ1 hy S1 H1 v u1 g1 r1 vy => ?_⟩
    unfold extK at hy
    split at hy
    · rename_i ds er
      obtain ⟨es2, e', l, q⟩ := got_ex hy
      obtain ⟨c, ys, ev, hc, dc⟩ := vy.lst r1.fr e'
      subst ev
      obtain ⟨b, xs, e1, e2, e3, e4, e5⟩ := r1.slots i _ er
      rw [f1] at e1
      cases e1
      have dS : DqAll S1 ys es2 := by
        cases y with
        | no => cases e'
        | im d =>
          cases d with
          | list zs2 =>
            simp only [Sl.lst?, Option.some.injEq] at e'
            subst e'
            cases vy with
            | lst h1 h2 =>
              have := r1.fr.sub _ _ h1
              rw [hc] at this
              cases this
              exact h2
          | _ => cases e'
        | ow zs2 =>
          simp only [Sl.lst?, Option.some.injEq] at e'
          subst e'
          obtain ⟨a', xs', q1, q2, _, _, q5, _⟩ := vy
          cases q1
          rw [hc] at q2
          cases q2
          exact q5
        | pk zs2 =>
          simp only [Sl.lst?, Option.some.injEq] at e'
          subst e'
          obtain ⟨a', xs', q1, q2, _, q5⟩ := vy
          cases q1
          rw [hc] at q2
          cases q2
          exact q5
        | src => cases e'
      refine ⟨a, c, xs, ys, rfl, rfl, e2, hc, by rw [dqa_len e5, dqa_len dS]; exact line_ok l, ?_⟩
      exact q S1 σ _ u1 (r1.items er f1 (dqa_app e5 dS))
    · exact hy.elim
  · unfold extK at k ⊢
    split
    · rename_i er
      rw [er] at k
      exact got_mono (fun _ kk => ⟨kk.1, l.nx _ kk.2⟩) k
    · split at k <;> simp_all
end
/-! ### sorted of tuples of ints, the order left open -/
def rSortSm (K : PySem.W.Frag) : List V → Hp → VK → Prop := fun vs H Q => ∃ a xs, vs = [V.ref a] ∧ SqL K H a xs ∧ xs.length ≤ 1 ∧ (∀ x ∈ xs, ∃ t, x = V.ref t) ∧ ∀ p, H p = none → Q (.ref p) (upd H p (.lst xs))
theorem perm_small {α : Type} {xs ys : List α} (h : ys.Perm xs) (l : xs.length ≤ 1) : ys = xs := by
  match xs, l with
  | [], _ => exact h.eq_nil
  | [x], _ => exact List.perm_singleton.mp h
theorem cr_sortSm {X : Cx} : CallR X (.builtin "sorted") (rSortSm X.K) := by
  intro pins s σ H vs us Q I r h
  obtain ⟨a, xs, rfl, hs, h1, hx, q⟩ := h
  obtain ⟨its, rv, hl, hz⟩ := I.list hs
  rw [Vals.ref1 r]
  refine Srt.sorted_any hl.isList (by rw [← rv.length]; exact hz) (fun h2 => by rw [← rv.length] at h2; omega) fun out hp => ?_
  have eo := perm_small hp (by rw [← rv.length]; exact h1)
  subst eo
  obtain ⟨ep, he'⟩ := PyProof.Rows.sortedAll_at s.heap out out.toArray
  refine ⟨.ref _, upd H (s.heap.objs.size + 1) (.lst xs), I.laid (t' := s.toks) (fun _ _ => PyProof.Rows.sortedAll_old) (Nat.le_succ _) ⟨hz, out, ep, rv, he'⟩, rfl, q _ (I.hok.fresh (Nat.le_succ _))⟩
def rSortE (K : PySem.W.Frag) : List V → Hp → VK → Prop := fun vs H Q => rSortSm K vs H Q ∨ ∃ d B, 1 ≤ d ∧ rSortU K d B vs H Q
theorem cr_sortE {X : Cx} : CallR X (.builtin "sorted") (rSortE X.K) := by
  intro pins s σ H vs us Q I r h
  rcases h with h | ⟨d, B, hd, h⟩
  · exact cr_sortSm pins s σ H vs us Q I r h
  · exact cr_sortT hd pins s σ H vs us Q I r h
def tupD (l : List Int) : D := .tuple (l.map .int)
def sortTG : GA := fun xs K => match xs with
  | [x] => got x.lst? fun ds => ∃ ls : List (List Int), ds = ls.map tupD ∧ ls.length < 64 ∧ (ls.length ≤ 1 ∨ ∃ (d : Nat) (B : Int), 1 ≤ d ∧ ∀ l ∈ ls, l.length = d ∧ ∀ m ∈ l, 0 ≤ m ∧ m < B) ∧ ∀ ms : List (List Int), ms.Perm ls → K (.ow (ms.map tupD))
  | _ => False
theorem mono_sortTG : MonoA sortTG := fun x K K' h g => by
  unfold sortTG at g ⊢
  split
  · exact got_mono (fun d ⟨ls, a, b, c, k⟩ => ⟨ls, a, b, c, fun ms p => h _ (k ms p)⟩) g
  · split at g <;> simp_all
theorem dqa_tups {S : Hp} : ∀ {ls : List (List Int)} {vs : List V}, DqAll S vs (ls.map tupD) → ∀ v ∈ vs, ∃ l ∈ ls, ∃ t, v = .ref t ∧ S t = some (.tup (l.map V.int))
  | [], vs, h, v, hv => by cases h; cases hv
  | l :: ls, vs, h, v, hv => by
    cases h with
    | cons h1 h2 =>
      rcases List.mem_cons.mp hv with z | z
      · subst z
        unfold tupD at h1
        cases h1 with
        | tup a b => exact ⟨l, List.mem_cons_self, _, rfl, by rw [a, dqa_ints b]⟩
      · obtain ⟨l', m, q⟩ := dqa_tups h2 v z
        exact ⟨l', List.mem_cons_of_mem _ m, q⟩
theorem dqa_perm {S : Hp} {α : Type} {f : α → D} : ∀ {vs us : List V}, us.Perm vs → ∀ {ls : List α}, DqAll S vs (ls.map f) → ∃ ms : List α, ms.Perm ls ∧ DqAll S us (ms.map f) := by
  intro vs us h
  induction h with
  | nil => intro ls q; exact ⟨ls, .refl _, q⟩
  | @cons x l1 l2 hp ih =>
    intro ls q
    match ls, q with
    | l :: ls, .cons q1 q2 =>
      obtain ⟨ms, p, q3⟩ := ih q2
      exact ⟨l :: ms, p.cons l, .cons q1 q3⟩
  | swap x y l =>
    intro ls q
    match ls, q with
    | a :: b :: ls, .cons q1 (.cons q2 q3) => exact ⟨b :: a :: ls, .swap a b ls, .cons q2 (.cons q1 q3)⟩
  | trans _ _ ih1 ih2 =>
    intro ls q
    obtain ⟨ms, p, q2⟩ := ih2 q
    obtain ⟨ns, p2, q3⟩ := ih1 q2
    exact ⟨ns, p2.trans p, q3⟩
theorem on_sortTG {F : Fm} {K : PySem.W.Frag} : OnA F (rSortE K) sortTG := fun ρ S σ H xs vs K' Q r vx g hK => by
  unfold sortTG at g
  split at g
  · obtain ⟨ds, e, ls, e2, h64, hc, k⟩ := got_ex g
    subst e2
    cases vx with
    | cons v1 v2 =>
      cases v2
      obtain ⟨a, ys, rfl, hH, hd'⟩ := v1.lst r.fr e
      have hdS : DqAll S ys (ls.map tupD) := hd'
      have hlen := dqa_len hdS
      rw [List.length_map] at hlen
      have fin : ∀ (zs : List V) (p : Addr), zs.Perm ys → H p = none → Q (.ref p) (upd H p (.lst zs)) := fun zs p hp hn => by
        obtain ⟨ms, pm, dm⟩ := dqa_perm hp hdS
        exact (hK _ (k ms pm)).lst r dm hn
      have refs := dqa_tups hdS
      rcases hc with hc | ⟨d, B, d1, hc⟩
      · exact .inl ⟨a, ys, rfl, .of hH, by omega, fun x hx => by obtain ⟨l, _, t, e, _⟩ := refs x hx; exact ⟨t, e⟩, fun p hn => fin ys p (.refl _) hn⟩
      · refine .inr ⟨d, B, d1, a, ys, rfl, .of hH, by omega, fun x hx => ?_, fun zs p hp _ hn => fin zs p hp hn⟩
        obtain ⟨l, hl, t, e, ht⟩ := refs x hx
        obtain ⟨c1, c2⟩ := hc l hl
        exact ⟨l, ⟨t, e, .of (r.fr.sub _ _ ht)⟩, c1, c2⟩
  · exact g.elim
section
variable {wa wk : WE} {w : WA} {D0 : DE} {ρ : List Sl} {x : Sl} {K : Sl → Prop}
@[simp ↓] theorem x_setPop {j i : Nat} : wSetPop j i wk D0 ρ = (owAt i ρ ∧ wk ρ fun kx ρ1 => got kx.int? fun k => popK j i D0.nx k ρ1) := id rfl
@[simp ↓] theorem x_ins {i : Nat} : wIns i w D0 ρ = (owAt i ρ ∧ w ρ fun xs ρ1 => insK i D0.nx xs ρ1) := id rfl
@[simp ↓] theorem x_ext {i : Nat} : wExt i wa D0 ρ = (owAt i ρ ∧ wa ρ fun x ρ1 => extK i D0.nx x ρ1) := id rfl
@[simp ↓] theorem x_sortT : sortTG [x] K = got x.lst? fun ds => ∃ ls : List (List Int), ds = ls.map tupD ∧ ls.length < 64 ∧ (ls.length ≤ 1 ∨ ∃ (d : Nat) (B : Int), 1 ≤ d ∧ ∀ l ∈ ls, l.length = d ∧ ∀ m ∈ l, 0 ≤ m ∧ m < B) ∧ ∀ ms : List (List Int), ms.Perm ls → K (.ow (ms.map tupD)) := id rfl
end
end DL

set_option Elab.async false
set_option linter.all false
set_option maxRecDepth 100000
namespace DL
open PySem PySem.Spec PyProof.Rows L2
/-! ### a, b = e1, e2 with cells: by a tuple that nobody keeps -/
theorem VX.newH {F : Fm} {ρ : List Sl} {S H : Hp} {σ : L2.St} {v : V} {sl : Sl} {p : Addr} {o : HO} (h : VX F ρ S σ H v sl) (hp : H p = none) : VX F ρ S σ (upd H p o) v sl := by
  cases sl with
  | ow es =>
    obtain ⟨a, xs, e1, e2, e3, e4, e5, e6⟩ := h
    exact ⟨a, xs, e1, by rw [upd_ne (fun z => by subst z; rw [hp] at e2; cases e2)]; exact e2, e3, e4, e5, e6⟩
  | pk es =>
    obtain ⟨a, xs, e1, e2, e3, e4⟩ := h
    exact ⟨a, xs, e1, by rw [upd_ne (fun z => by subst z; rw [hp] at e2; cases e2)]; exact e2, e3, e4⟩
  | no => exact h
  | im d => exact h
  | src => exact h
section
variable {X : Cx} {F : Fm}
theorem d_parC {i j : Nat} {x y : Str} {a b : Expr} {w : WA} {px py pt pos : Pos} {kt k2 pt2} (hc : X.calm = true) (hN : X.N.Nodup) (hi : X.N[i]? = some x) (hj : X.N[j]? = some y)
    (hx : Loc X.env.scope x) (hy : Loc X.env.scope y) (ha : PDV X F [a, b] w)
    (hw : swappedStores [.Tuple [.Name x px, .Name y py] kt pt] (.Tuple [a, b] k2 pt2) X.env = pure none := by rfl)
    (hs : swapsWithSole [.Tuple [.Name x px, .Name y py] kt pt] (.Tuple [a, b] k2 pt2) pos.line X.env = pure false := by rfl)
    (h1 : (assignEach [.Tuple [.Name x px, .Name y py] kt pt] X.env).map (·.2) = [assign (.Tuple [.Name x px, .Name y py] kt pt) X.env] := by rfl)
    (hst : (assignEach [.Name x px, .Name y py] X.env).findIdx? (·.1) = none := by rfl) (hn : (assignEach [.Name x px, .Name y py] X.env).length = 2 := by rfl)
    (g1 : (assignEach (.Name x px :: [.Name y py]) X.env).map (·.2) = assign (.Name x px) X.env :: (assignEach [.Name y py] X.env).map (·.2) := by rfl) (g2 : (assignEach [.Name y py] X.env).map (·.2) = assign (.Name y py) X.env :: (assignEach [] X.env).map (·.2) := by rfl)
    (hfx : X.fn x = true ∨ X.env.scope.names.lookup x = some .local := by first | exact .inl rfl | exact .inr rfl | assumption) (hfy : X.fn y = true ∨ X.env.scope.names.lookup y = some .local := by first | exact .inl rfl | exact .inr rfl | assumption) :
    PSD X F (.Assign [.Tuple [.Name x px, .Name y py] kt pt] (.Tuple [a, b] k2 pt2) pos) (wParO [i, j] w) := by
  refine ⟨ps_imp (ps_asg (pe_tup ha.run) (pg_tup hc (pgs_cons (pg_name hN hi hx hfx) (pgs_cons (pg_name hN hj hy hfy) pgs_nil g2) g1) hn hst) hs hw h1) fun D σ H ⟨ρ, S, rl, h⟩ => ⟨ρ, S, rl, ha.mono _ _ _ (fun xs ρ1 hx S1 H1 vs u1 g1 r1 vx ap => ?_) h⟩, mono_wParO ha.mono⟩
  unfold parO at hx
  split at hx
  · rename_i i' j' x' y' e1
    cases e1
    obtain ⟨x2, ex, hx⟩ := got_ex hx
    obtain ⟨y2, ey, hx⟩ := got_ex hx
    have := sto_id ex; subst this
    have := sto_id ey; subst this
    match vs, vx with
    | [v1, v2], .cons h1 (.cons h2 .nil) =>
      refine ⟨line_ok (by simp), fun p hp => ⟨p, [v1, v2], rfl, .of upd_same, rfl, v1, [v2], rfl, v2, [], rfl, rfl, ?_⟩⟩
      refine hx S1 _ _ u1 (((r1.newH hp).put (h1.newH hp) ex i).put ((h2.newH hp).put i fun ds es e1 e2 z => ?_) ey j)
      have := ap 0 1 ds es (by simp [e1]) (by simp [e2]) (by simp [z])
      cases this
  · rename_i e1; cases e1
  · rename_i e1; cases e1
  · exact hx.elim
theorem d_parC3 {i j k : Nat} {x y z : Str} {a b c : Expr} {w : WA} {px py pz pt pos : Pos} {kt k2 pt2} (hc : X.calm = true) (hN : X.N.Nodup) (hi : X.N[i]? = some x) (hj : X.N[j]? = some y) (hk : X.N[k]? = some z)
    (hx : Loc X.env.scope x) (hy : Loc X.env.scope y) (hz : Loc X.env.scope z) (ha : PDV X F [a, b, c] w)
    (hw : swappedStores [.Tuple [.Name x px, .Name y py, .Name z pz] kt pt] (.Tuple [a, b, c] k2 pt2) X.env = pure none := by rfl)
    (hs : swapsWithSole [.Tuple [.Name x px, .Name y py, .Name z pz] kt pt] (.Tuple [a, b, c] k2 pt2) pos.line X.env = pure false := by rfl)
    (h1 : (assignEach [.Tuple [.Name x px, .Name y py, .Name z pz] kt pt] X.env).map (·.2) = [assign (.Tuple [.Name x px, .Name y py, .Name z pz] kt pt) X.env] := by rfl)
    (hst : (assignEach [.Name x px, .Name y py, .Name z pz] X.env).findIdx? (·.1) = none := by rfl) (hn : (assignEach [.Name x px, .Name y py, .Name z pz] X.env).length = 3 := by rfl)
    (g1 : (assignEach (.Name x px :: [.Name y py, .Name z pz]) X.env).map (·.2) = assign (.Name x px) X.env :: (assignEach [.Name y py, .Name z pz] X.env).map (·.2) := by rfl) (g2 : (assignEach (.Name y py :: [.Name z pz]) X.env).map (·.2) = assign (.Name y py) X.env :: (assignEach [.Name z pz] X.env).map (·.2) := by rfl)
    (g3 : (assignEach [.Name z pz] X.env).map (·.2) = assign (.Name z pz) X.env :: (assignEach [] X.env).map (·.2) := by rfl)
    (hfx : X.fn x = true ∨ X.env.scope.names.lookup x = some .local := by first | exact .inl rfl | exact .inr rfl | assumption) (hfy : X.fn y = true ∨ X.env.scope.names.lookup y = some .local := by first | exact .inl rfl | exact .inr rfl | assumption) (hfz : X.fn z = true ∨ X.env.scope.names.lookup z = some .local := by first | exact .inl rfl | exact .inr rfl | assumption) :
    PSD X F (.Assign [.Tuple [.Name x px, .Name y py, .Name z pz] kt pt] (.Tuple [a, b, c] k2 pt2) pos) (wParO [i, j, k] w) := by
  refine ⟨ps_imp (ps_asg (pe_tup ha.run) (pg_tup hc (pgs_cons (pg_name hN hi hx hfx) (pgs_cons (pg_name hN hj hy hfy) (pgs_cons (pg_name hN hk hz hfz) pgs_nil g3) g2) g1) hn hst) hs hw h1) fun D σ H ⟨ρ, S, rl, h⟩ => ⟨ρ, S, rl, ha.mono _ _ _ (fun xs ρ1 hx S1 H1 vs u1 g1 r1 vx ap => ?_) h⟩, mono_wParO ha.mono⟩
  unfold parO at hx
  split at hx
  · rename_i e1; cases e1
  · rename_i i' j' k' x' y' z' e1
    cases e1
    obtain ⟨x2, ex, hx⟩ := got_ex hx
    obtain ⟨y2, ey, hx⟩ := got_ex hx
    obtain ⟨z2, ez, hx⟩ := got_ex hx
    have := sto_id ex; subst this
    have := sto_id ey; subst this
    have := sto_id ez; subst this
    match vs, vx with
    | [v1, v2, v3], .cons h1 (.cons h2 (.cons h3 .nil)) =>
      refine ⟨line_ok (by simp), fun p hp => ⟨p, [v1, v2, v3], rfl, .of upd_same, rfl, v1, [v2, v3], rfl, v2, [v3], rfl, v3, [], rfl, rfl, ?_⟩⟩
      refine hx S1 _ _ u1 ((((r1.newH hp).put (h1.newH hp) ex i).put ((h2.newH hp).put i fun ds es e1 e2 z => ?_) ey j).put (((h3.newH hp).put i fun ds es e1 e2 z => ?_).put j fun ds es e1 e2 z => ?_) ez k)
      · have := ap 0 1 ds es (by simp [e1]) (by simp [e2]) (by simp [z]); cases this
      · have := ap 0 2 ds es (by simp [e1]) (by simp [e2]) (by simp [z]); cases this
      · have := ap 1 2 ds es (by simp [e1]) (by simp [e2]) (by simp [z]); cases this
  · rename_i e1; cases e1
  · exact hx.elim
end
end DL

set_option Elab.async false
set_option linter.all false
set_option maxRecDepth 100000
namespace DL
open PySem PySem.Spec PyProof.Rows L2
/-! ### pairs in lowest words are rationals -/
def pq (r : Rat) : Q2 := (r.num, (r.den : Int))
theorem low_pq {p q : Int} (h : q ≠ 0) : low p q = pq ((p : Rat) / q) := by
  have e := low_eq (p := p) h
  have l := low_pos (p := p) h
  have g := low_gcd (p := p) h
  generalize low p q = x at e l g
  obtain ⟨a, b⟩ := x
  simp only at e l g
  have hb : (b.toNat : Int) = b := by omega
  have hn : b.toNat ≠ 0 := by omega
  have hc : a.natAbs.Coprime b.toNat := by
    have : b.natAbs = b.toNat := by omega
    rw [this] at g; exact g
  have e1 : ((p : Rat) / q) = { num := a, den := b.toNat, den_nz := hn, reduced := hc } := by
    rw [Rat.mk_eq_divInt, hb, ← Rat.divInt_eq_div]
    exact (Rat.divInt_eq_divInt_iff h (by omega)).mpr e.symm
  rw [e1]
  show (a, b) = (a, (b.toNat : Int))
  rw [hb]
theorem pq_pos (r : Rat) : 0 < (pq r).2 := by
  have := r.den_pos
  show (0 : Int) < (r.den : Int)
  omega
theorem pq_val (r : Rat) : ((pq r).1 : Rat) / (pq r).2 = r := by
  have := Rat.num_divInt_den r
  rw [Rat.divInt_eq_div] at this
  exact this
theorem pq_inj {r s : Rat} (h : pq r = pq s) : r = s := by rw [← pq_val r, ← pq_val s, h]
theorem den_ne (r : Rat) : ((pq r).2 : Rat) ≠ 0 := by
  have := pq_pos r
  intro h
  have := Rat.intCast_inj.mp (h.trans Rat.intCast_zero.symm)
  omega
theorem psum_pq (r s : Rat) : psum (pq r) (pq s) = pq (r + s) := by
  unfold psum
  rw [low_pq (mul_ne (pq_pos r) (pq_pos s))]
  congr 1
  have hr := pq_val r
  have hs := pq_val s
  have nr := den_ne r
  have ns := den_ne s
  generalize pq r = x at hr nr
  generalize pq s = y at hs ns
  rw [Rat.intCast_add, Rat.intCast_mul, Rat.intCast_mul, Rat.intCast_mul]
  subst hr hs
  grind
theorem pless_pq (r s : Rat) : pless (pq r) (pq s) = pq (r - s) := by
  unfold pless
  rw [low_pq (mul_ne (pq_pos r) (pq_pos s))]
  congr 1
  have hr := pq_val r
  have hs := pq_val s
  have nr := den_ne r
  have ns := den_ne s
  generalize pq r = x at hr nr
  generalize pq s = y at hs ns
  rw [Rat.intCast_sub, Rat.intCast_mul, Rat.intCast_mul, Rat.intCast_mul]
  subst hr hs
  grind
theorem ptimes_pq (r s : Rat) : ptimes (pq r) (pq s) = pq (r * s) := by
  unfold ptimes
  rw [low_pq (mul_ne (pq_pos r) (pq_pos s))]
  congr 1
  have hr := pq_val r
  have hs := pq_val s
  have nr := den_ne r
  have ns := den_ne s
  generalize pq r = x at hr nr
  generalize pq s = y at hs ns
  rw [Rat.intCast_mul, Rat.intCast_mul]
  subst hr hs
  grind
theorem pbelow_pq (r s : Rat) : pbelow (pq r) (pq s) = decide (r < s) := by
  unfold pbelow pq
  have := Rat.lt_iff r s
  by_cases h : r < s
  · rw [decide_eq_true h, decide_eq_true (this.mp h)]
  · rw [decide_eq_false h, decide_eq_false (fun z => h (this.mpr z))]
theorem pq_int (n : Int) : pq (n : Rat) = (n, 1) := rfl
end DL

set_option Elab.async false
set_option linter.all false
set_option maxRecDepth 100000
namespace DL
open PySem PySem.Spec PyProof.Rows L2
/-! ### rationals as data -/
def rd (r : Rat) : D := .tuple [.int r.num, .int (r.den : Int)]
theorem rd_fr (r : Rat) : rd r = frD (pq r) := rfl
section
variable {r s : Rat} {KK : List D → Prop} {K : Sl → Prop} {gs : TGDs} {ρ : List Sl} {P : List Sl → Prop}
@[simp ↓] theorem q_seq_rd : got (Sl.seq? (.im (rd r))) KK = KK [.int r.num, .int (r.den : Int)] := id rfl
@[simp ↓] theorem x_uTrd : uT gs (rd r) ρ P = gs [.int r.num, .int (r.den : Int)] ρ P := id rfl
@[simp] theorem noL_rd : noL (rd r) = true := by unfold rd; simp
theorem rd_inj (h : rd r = rd s) : r = s := by
  unfold rd at h
  simp only [PyData.tuple.injEq, List.cons.injEq, PyData.int.injEq, and_true] at h
  exact Rat.ext h.1 (by omega)
theorem eqv_rd : PyData.eqv (rd r) (rd s) = decide (r = s) := by
  unfold rd
  simp only [PyData.eqv, PyData.eqvAll, Bool.and_true]
  by_cases h : r = s
  · subst h; simp
  · rw [decide_eq_false h]
    by_cases h1 : r.num = s.num
    · have : ¬ ((r.den : Int) = s.den) := fun z => h (Rat.ext h1 (by omega))
      simp [this]
    · simp [h1]
end
/-- bounds of a rational -/
structure BR (k : Nat) (r : Rat) : Prop where
  n : Bd k r.num
  d : Bd k (r.den : Int)
theorem BR.q {k : Nat} {r : Rat} (h : BR k r) : Bq k (pq r) := ⟨h.n, h.d, pq_pos r⟩
theorem BR.of {k : Nat} {r : Rat} (h : Bq k (pq r)) : BR k r := ⟨h.a, h.b⟩
theorem BR.mono {j k : Nat} {r : Rat} (h : BR j r) (l : j ≤ k) : BR k r := ⟨h.n.mono l, h.d.mono l⟩
theorem BR.add {j k : Nat} {r s : Rat} (h : BR j r) (g : BR k s) : BR (j + k + 1) (r + s) := .of (by rw [← psum_pq]; exact psum_B h.q g.q)
theorem BR.sub {j k : Nat} {r s : Rat} (h : BR j r) (g : BR k s) : BR (j + k + 1) (r - s) := .of (by rw [← pless_pq]; exact pless_B h.q g.q)
theorem BR.mul {j k : Nat} {r s : Rat} (h : BR j r) (g : BR k s) : BR (j + k) (r * s) := .of (by rw [← ptimes_pq]; exact ptimes_B h.q g.q)
theorem BR.int {k : Nat} {n : Int} (h : Bd k n) (hk : 0 < k := by decide) : BR k (n : Rat) := ⟨h, by
  show (1 : Int).natAbs < 2 ^ k
  exact Nat.one_lt_two_pow (by omega)⟩
theorem BR.low {k : Nat} {p q : Int} (hp : Bd k p) (hq : Bd k q) (h : q ≠ 0) : BR k ((p : Rat) / q) := .of (by rw [← low_pq h]; exact low_B hp hq h)
/-- words over rationals: two in, one out -/
def mR2 (f : Rat → Rat → Rat) : MD := fun ds Q => ∃ r s, ds = [rd r, rd s] ∧ BR 4000 r ∧ BR 4000 s ∧ Q (rd (f r s))
theorem mm_R2 {f} : MonoM (mR2 f) := fun ds Q Q' h ⟨r, s, e, b, c, k⟩ => ⟨r, s, e, b, c, h _ k⟩
theorem len_R2 {f} : ∀ ds Q, mR2 f ds Q → ds.length = 2 := fun ds Q ⟨r, s, e, _⟩ => by rw [e]; rfl
theorem r2_i {f : Rat → Rat → Rat} {r s : Rat} {Q : D → Prop} (b : BR 4000 r) (c : BR 4000 s) (k : Q (rd (f r s))) : mR2 f [rd r, rd s] Q := ⟨r, s, rfl, b, c, k⟩
/-- the first of two an int: (n, 1) -/
theorem r2_n {f : Rat → Rat → Rat} {n : Int} {s : Rat} {Q : D → Prop} (b : BR 4000 (n : Rat)) (c : BR 4000 s) (k : Q (rd (f n s))) : mR2 f [.tuple [.int n, .int 1], rd s] Q := ⟨n, s, rfl, b, c, k⟩
theorem r2_m {f : Rat → Rat → Rat} {n : Int} {s : Rat} {Q : D → Prop} (b : BR 4000 s) (c : BR 4000 (n : Rat)) (k : Q (rd (f s n))) : mR2 f [rd s, .tuple [.int n, .int 1]] Q := ⟨s, n, rfl, b, c, k⟩
/-- p / q -/
def mLowR : MD := fun ds Q => ∃ p q, ds = [.int p, .int q] ∧ q ≠ 0 ∧ Bd 8000 q ∧ Q (rd ((p : Rat) / q))
theorem mm_lowR : MonoM mLowR := fun ds Q Q' h ⟨r, s, e, b, c, k⟩ => ⟨r, s, e, b, c, h _ k⟩
theorem len_lowR : ∀ ds Q, mLowR ds Q → ds.length = 2 := fun ds Q ⟨r, s, e, _⟩ => by rw [e]; rfl
theorem lowR_i {p q : Int} {Q : D → Prop} (n : q ≠ 0) (b : Bd 8000 q) (k : Q (rd ((p : Rat) / q))) : mLowR [.int p, .int q] Q := ⟨p, q, rfl, n, b, k⟩
theorem low_R {ds : List D} {Q : D → Prop} (h : mLowR ds Q) : mLow ds Q := by
  obtain ⟨p, q, e, n, b, k⟩ := h
  exact ⟨p, q, e, n, b, by rw [low_pq n]; exact k⟩
/-- r < s -/
def mBelR : MD := fun ds Q => ∃ r s : Rat, ds = [rd r, rd s] ∧ BR 4000 r ∧ BR 4000 s ∧ Q (.bool (decide (r < s)))
theorem mm_belR : MonoM mBelR := fun ds Q Q' h ⟨r, s, e, b, c, k⟩ => ⟨r, s, e, b, c, h _ k⟩
theorem len_belR : ∀ ds Q, mBelR ds Q → ds.length = 2 := fun ds Q ⟨r, s, e, _⟩ => by rw [e]; rfl
theorem bel_i {r s : Rat} {Q : D → Prop} (b : BR 4000 r) (c : BR 4000 s) (k : Q (.bool (decide (r < s)))) : mBelR [rd r, rd s] Q := ⟨r, s, rfl, b, c, k⟩
/-- one in, one out -/
def mR1 (f : Rat → Rat) : MD := fun ds Q => ∃ r, ds = [rd r] ∧ BR 4000 r ∧ Q (rd (f r))
theorem mm_R1 {f} : MonoM (mR1 f) := fun ds Q Q' h ⟨r, e, b, k⟩ => ⟨r, e, b, h _ k⟩
theorem len_R1 {f} : ∀ ds Q, mR1 f ds Q → ds.length = 1 := fun ds Q ⟨r, e, _⟩ => by rw [e]; rfl
theorem r1_i {f : Rat → Rat} {r : Rat} {Q : D → Prop} (b : BR 4000 r) (k : Q (rd (f r))) : mR1 f [rd r] Q := ⟨r, rfl, b, k⟩
section
variable {r s : Rat}
theorem den_nz : (r.den : Int) * (s.den : Int) ≠ 0 := mul_ne (pq_pos r) (pq_pos s)
theorem addR_eq : ((r.num * s.den + s.num * r.den : Int) : Rat) / ((r.den : Int) * (s.den : Int) : Int) = r + s := by
  have h : psum (pq r) (pq s) = low (r.num * s.den + s.num * r.den) ((r.den : Int) * (s.den : Int)) := rfl
  exact pq_inj ((low_pq den_nz).symm.trans (h.symm.trans (psum_pq r s)))
theorem subR_eq : ((r.num * s.den - s.num * r.den : Int) : Rat) / ((r.den : Int) * (s.den : Int) : Int) = r - s := by
  have h : pless (pq r) (pq s) = low (r.num * s.den - s.num * r.den) ((r.den : Int) * (s.den : Int)) := rfl
  exact pq_inj ((low_pq den_nz).symm.trans (h.symm.trans (pless_pq r s)))
theorem mulR_eq : ((r.num * s.num : Int) : Rat) / ((r.den : Int) * (s.den : Int) : Int) = r * s := by
  have h : ptimes (pq r) (pq s) = low (r.num * s.num) ((r.den : Int) * (s.den : Int)) := rfl
  exact pq_inj ((low_pq den_nz).symm.trans (h.symm.trans (ptimes_pq r s)))
theorem ltR_eq : decide (r.num * (s.den : Int) < s.num * (r.den : Int)) = decide (r < s) := pbelow_pq r s
end
section
variable {x : Sl} {K : Sl → Prop} {KK : List Int → Prop} {KB : List Bool → Prop} {ns : List Int} {bs : List Bool} {ds : List D}
@[simp ↓] theorem q_intsM : got (ints? (ns.map PyData.int)) KK = KK ns := by rw [ints_map] <;> rfl
@[simp ↓] theorem q_boolsM : got (bools? (bs.map PyData.bool)) KB = KB bs := by rw [bools_map] <;> rfl
@[simp ↓] theorem x_sort : sortG [x] K = got x.lst? fun ds => got (ints? ds) fun ns => ∀ ms : List Int, ms.Perm ns → ms.Pairwise (· ≤ ·) → K (.ow (ms.map PyData.int)) := id rfl
@[simp ↓] theorem x_mxL {le : Int → Int → Prop} : maxG le [x] K = got x.lst? fun ds => got (ints? ds) fun ns => ns ≠ [] ∧ ∀ m, m ∈ ns → (∀ y, y ∈ ns → le y m) → K (.im (.int m)) := id rfl
end
/-! ### rows of rationals -/
def rowR (rs : List Rat) (d : D) : Prop := d = .tuple (rs.map rd) ∨ d = .list (rs.map rd)
def sumR (rs : List Rat) : Rat := rs.foldl (fun a b => a + b) 0
def meanR (rs : List Rat) : Rat := sumR rs / (rs.length : Int)
def varR (rs : List Rat) : Rat := meanR (rs.map fun x => (x - meanR rs) * (x - meanR rs))
theorem fold_B {k : Nat} : ∀ (rs : List Rat) (t : Rat) (j : Nat), (∀ r ∈ rs, BR k r) → BR j t → BR ((k + 1) * rs.length + j) (rs.foldl (fun a b => a + b) t)
  | [], t, j, _, b => b.mono (by simp)
  | r :: rs, t, j, h, b => by
    have := fold_B rs (t + r) (j + k + 1) (fun x hx => h x (List.mem_cons_of_mem _ hx)) (b.add (h r List.mem_cons_self))
    refine this.mono ?_
    rw [List.length_cons, Nat.mul_succ]
    omega
theorem sumR_B {k : Nat} {rs : List Rat} (h : ∀ r ∈ rs, BR k r) : BR ((k + 1) * rs.length + 1) (sumR rs) := fold_B rs 0 1 h (BR.int (n := 0) .lit)
theorem div_eq {r : Rat} {n : Int} (h : n ≠ 0) : ((r.num : Int) : Rat) / ((r.den : Int) * n : Int) = r / n := by
  have e := pq_val r
  have d := den_ne r
  have hn : (n : Rat) ≠ 0 := fun z => h (Rat.intCast_inj.mp (z.trans Rat.intCast_zero.symm))
  change ((r.num : Int) : Rat) / ((r.den : Int) : Rat) = r at e
  change ((r.den : Int) : Rat) ≠ 0 at d
  rw [Rat.intCast_mul]
  generalize ((r.num : Int) : Rat) = a at e ⊢
  generalize ((r.den : Int) : Rat) = b at e d ⊢
  generalize (n : Rat) = c at hn ⊢
  subst e
  grind
theorem div_B {k j : Nat} {r : Rat} {n : Int} (h : BR k r) (hn : Bd j n) (n0 : n ≠ 0) : BR (k + j) (r / n) := by
  rw [← div_eq n0]
  have := pq_pos r
  exact BR.low (h.n.mono (by omega)) (h.d.mul hn) (fun z => by rcases Int.mul_eq_zero.mp z with z | z; exact absurd z (by show (r.den : Int) ≠ 0; have := r.den_pos; omega); exact n0 z)
/-- a word that makes a rational of a row -/
def mMean (k : Nat) (f : List Rat → Rat) : MD := fun ds Q => ∃ rs d, ds = [d] ∧ rowR rs d ∧ rs ≠ [] ∧ rs.length ≤ 10 ∧ (∀ r ∈ rs, BR k r) ∧ Q (rd (f rs))
theorem mm_mean {k f} : MonoM (mMean k f) := fun ds Q Q' h ⟨rs, d, e, r, n, l, b, q⟩ => ⟨rs, d, e, r, n, l, b, h _ q⟩
theorem len_mean {k f} : ∀ ds Q, mMean k f ds Q → ds.length = 1 := fun ds Q ⟨rs, d, e, _⟩ => by rw [e]; rfl
theorem mean_t {k : Nat} {f : List Rat → Rat} {rs : List Rat} {Q : D → Prop} (n : rs ≠ []) (l : rs.length ≤ 10) (b : ∀ r ∈ rs, BR k r) (q : Q (rd (f rs))) : mMean k f [.tuple (rs.map rd)] Q := ⟨rs, _, rfl, .inl rfl, n, l, b, q⟩
theorem mean_l {k : Nat} {f : List Rat → Rat} {rs : List Rat} {Q : D → Prop} (n : rs ≠ []) (l : rs.length ≤ 10) (b : ∀ r ∈ rs, BR k r) (q : Q (rd (f rs))) : mMean k f [.list (rs.map rd)] Q := ⟨rs, _, rfl, .inr rfl, n, l, b, q⟩
theorem meanR_B {k : Nat} {rs : List Rat} (n : rs ≠ []) (l : rs.length ≤ 10) (h : ∀ r ∈ rs, BR k r) : BR ((k + 1) * rs.length + 5) (meanR rs) := by
  have := List.length_pos_iff.mpr n
  exact (div_B (j := 4) (sumR_B h) (.nat (by omega)) (by omega)).mono (by omega)
end DL

set_option Elab.async false
set_option linter.all false
set_option maxRecDepth 100000
namespace DL
open PySem PySem.Spec PyProof.Rows L2
/-! ### the polynomial of a row of roots -/
def cfI (F : List Int) (i : Int) : Int := if 0 ≤ i then F.getD i.toNat 0 else 0
theorem cfI_neg {F : List Int} {i : Int} (h : i < 0) : cfI F i = 0 := if_neg (by omega)
theorem cfI_out {F : List Int} {i : Int} (h : (F.length : Int) ≤ i) : cfI F i = 0 := by
  unfold cfI
  rw [if_pos (by omega), List.getD_eq_getElem?_getD, List.getElem?_eq_none (by omega)] <;> rfl
/-- times (q x - p) -/
def stepP (F : List Int) (p q : Int) : List Int := (List.range (F.length + 1)).map fun (i : Nat) => q * cfI F ((i : Int) - 1) - p * cfI F (i : Int)
theorem stepP_len (F : List Int) (p q : Int) : (stepP F p q).length = F.length + 1 := by simp [stepP]
theorem rng_cf {n : Nat} {f : Nat → Int} {i : Nat} (h : i < n) : cfI ((List.range n).map f) i = f i := by
  unfold cfI
  rw [if_pos (by omega), Int.toNat_natCast, List.getD_eq_getElem?_getD, List.getElem?_map, List.getElem?_range h] <;> rfl
theorem stepP_cf (F : List Int) (p q : Int) (i : Int) : cfI (stepP F p q) i = q * cfI F (i - 1) - p * cfI F i := by
  by_cases h0 : i < 0
  · rw [cfI_neg h0, cfI_neg h0, cfI_neg (show i - 1 < 0 by omega)]; simp
  by_cases h1 : (F.length : Int) < i
  · rw [cfI_out (by rw [stepP_len]; omega), cfI_out (show (F.length : Int) ≤ i by omega), cfI_out (show (F.length : Int) ≤ i - 1 by omega)]; simp
  have e : i = ((i.toNat : Nat) : Int) := by omega
  rw [e]
  exact rng_cf (by omega)
theorem rng_set {α : Type} {n j : Nat} {f : Nat → α} {v : α} : ((List.range n).map f).set j v = (List.range n).map fun i => if i = j then v else f i := by
  apply List.ext_getElem
  · simp
  · intro i h1 h2
    rw [List.getElem_set]
    simp only [List.getElem_map, List.getElem_range]
    by_cases h : j = i
    · subst h; simp
    · rw [if_neg h, if_neg (fun z => h z.symm)]
theorem rng_at {n : Nat} {f : Nat → Int} {i : Int} (h0 : 0 ≤ i) (h : i < n) : atI ((List.range n).map fun k => PyData.int (f k)) i = some (.int (f i.toNat)) := by
  unfold atI ixN
  rw [if_pos h0, if_pos (by simpa using h)]
  show ((List.range n).map fun k => PyData.int (f k))[i.toNat]? = _
  rw [List.getElem?_map, List.getElem?_range (by omega)] <;> rfl
theorem ixN_in {n : Nat} {i : Int} (h0 : 0 ≤ i) (h : i < n) : ixN n i = some i.toNat := by
  unfold ixN; rw [if_pos h0, if_pos h]
/-- the late row behind j numbers -/
def lateF (F : List Int) (p q : Int) (j i : Nat) : Int := (if i ≤ j then q * cfI F ((i : Int) - 1) else 0) - (if i < j then p * cfI F i else 0)
abbrev polyIn : WS := (wFor (wEn (wS (wV 1) wN)) (uT (uCons (uN 5) (uCons (uN 6) uNil))) (wSq (wSetI 4 (wP 5) (w2 subG (w2 ixG (wP 4) (wP 5)) (w2 mulH (wP 2) (wP 6))))
    (wSq (wSetI 4 (w2 addG (wP 5) (wC (.int 1))) (w2 addG (w2 ixG (wP 4) (w2 addG (wP 5) (wC (.int 1)))) (w2 mulH (wP 3) (wP 6))))
    wNx)))
def polyW : WS := (wSq (wSet 1 (wLst (wS (wC (.int 1)) wN)))
    (wSq (wFor (wIt (wV 0)) (uT (uCons (uN 2) (uCons (uN 3) uNil))) (wSq (wSet 4 (w2 mulH (wLst (wS (wC (.int 0)) wN)) (w2 addG (wF lenG (wA (wP 1) wN)) (wC (.int 1)))))
    (wSq polyIn
    (wSq (wSet 1 (wV 4))
    wNx))))
    (wSq (wRet (wF tupleG (wA (wP 1) wN)))
    wNx)))
/-- what the poly of a row is: its length, its numbers' bounds, its three top numbers -/
structure PolyOf (k : Nat) (F : List Int) (rs : List Rat) : Prop where
  len : F.length = rs.length + 1
  b : ∀ c ∈ F, Bd k c
theorem polyIn_ok {F : List Int} {p q : Int} {kF kp : Nat} {N : List Sl → Prop} {D0 : DE} {d0 : D} {s1 s5 s6 : Sl} (hs1 : s1 = .ow (F.map .int) ∨ s1 = .im (.list (F.map .int))) (hD : D0.nx = N) (hF : ∀ c ∈ F, Bd kF c) (hp : Bd kp p) (hq : Bd kp q) (hb : kF + 10 ≤ 900000 ∧ 0 < kF ∧ 0 < kp ∧ kp ≤ 100000) (hl : F.length ≤ 1000)
    (h : ∀ t5 t6, N [.im d0, .im (.list (F.map .int)), .im (.int p), .im (.int q), .ow ((stepP F p q).map .int), t5, t6]) :
    polyIn D0 [.im d0, s1, .im (.int p), .im (.int q), .ow (((List.range (F.length + 1)).map fun _ => (0 : Int)).map .int), s5, s6] := by
  suffices main : loopD (uT (uCons (uN 5) (uCons (uN 6) uNil))) (wSq (wSetI 4 (wP 5) (w2 subG (w2 ixG (wP 4) (wP 5)) (w2 mulH (wP 2) (wP 6))))
      (wSq (wSetI 4 (w2 addG (wP 5) (wC (.int 1))) (w2 addG (w2 ixG (wP 4) (w2 addG (wP 5) (wC (.int 1)))) (w2 mulH (wP 3) (wP 6)))) wNx)) D0 (enD 0 (F.map .int))
      [.im d0, .im (.list (F.map .int)), .im (.int p), .im (.int q), .ow ((List.range (F.length + 1)).map (PyData.int ∘ fun _ => (0 : Int))), s5, s6] by
    rcases hs1 with rfl | rfl <;> simp -implicitDefEqProofs <;> exact main
  have e0 : (List.range (F.length + 1)).map (PyData.int ∘ fun _ => (0 : Int)) = (List.range (F.length + 1)).map fun i => PyData.int (lateF F p q 0 i) := by
    apply List.map_congr_left
    intro i _
    show PyData.int 0 = PyData.int (lateF F p q 0 i)
    unfold lateF
    by_cases h : i ≤ 0
    · have : i = 0 := by omega
      subst this
      rw [if_pos (Nat.le_refl 0), if_neg (by omega), cfI_neg (by omega)]; simp
    · rw [if_neg h, if_neg (by omega)]; rfl
  rw [e0]
  refine loop_ind (fun rem ρ => ∃ (j : Nat) (t5 t6 : Sl), j ≤ F.length ∧ rem = enD (j : Int) ((F.drop j).map .int) ∧
    ρ = [.im d0, .im (.list (F.map .int)), .im (.int p), .im (.int q), .ow ((List.range (F.length + 1)).map fun i => PyData.int (lateF F p q j i)), t5, t6]) ?_ ?_ _ _ ⟨0, _, _, Nat.zero_le _, rfl, rfl⟩
  · rintro _ ⟨j, t5, t6, hj, e, rfl⟩
    have hj2 : j = F.length := by
      cases q : F.drop j with
      | nil =>
        have := congrArg List.length q
        simp at this; omega
      | cons x xs => rw [q] at e; cases e
    subst hj2
    have : (List.range (F.length + 1)).map (fun i => PyData.int (lateF F p q F.length i)) = (stepP F p q).map .int := by
      unfold stepP
      rw [List.map_map]
      apply List.map_congr_left
      intro i hi
      have := List.mem_range.mp hi
      show PyData.int (lateF F p q F.length i) = PyData.int (q * cfI F ((i : Int) - 1) - p * cfI F (i : Int))
      unfold lateF
      rw [if_pos (by omega)]
      by_cases h : i < F.length
      · rw [if_pos h]
      · rw [if_neg h, cfI_out (show (F.length : Int) ≤ i by omega), Int.mul_zero]
    rw [this]
    exact hD ▸ h t5 t6
  · rintro dd rem _ K ⟨j, t5, t6, hj, e, rfl⟩ hK
    cases hd : F.drop j with
    | nil => rw [hd] at e; cases e
    | cons x xs =>
      rw [hd] at e
      cases e
      have hlt : j < F.length := by
        have := congrArg List.length hd
        simp at this; omega
      have hx : x = cfI F j := by
        unfold cfI
        rw [if_pos (by omega), Int.toNat_natCast, List.getD_eq_getElem?_getD]
        have := congrArg (fun l => l[0]?) hd
        simp at this
        rw [this] <;> rfl
      have hxs : F.drop (j + 1) = xs := by
        have := congrArg (List.drop 1) hd
        rw [List.drop_drop] at this
        simpa using this
      have bx : Bd kF x := hF x (List.mem_of_mem_drop (by rw [hd]; simp))
      have okp : okMul p x := hp.ok bx hb.2.2.1 hb.2.1 (by omega)
      have okq : okMul q x := hq.ok bx hb.2.2.1 hb.2.1 (by omega)
      have a1 := rng_at (n := F.length + 1) (f := lateF F p q j) (i := j) (by omega) (by omega)
      have i1 := ixN_in (n := F.length + 1) (i := j) (by omega) (by omega)
      have i2 := ixN_in (n := F.length + 1) (i := (j : Int) + 1) (by omega) (by omega)
      simp -implicitDefEqProofs [a1]
      refine ⟨okp, ?_⟩
      rw [i1, got_some, rng_set]
      have e1 : (List.range (F.length + 1)).map (fun i => if i = ((j : Int)).toNat then PyData.int (lateF F p q j ((j : Int)).toNat - p * x) else PyData.int (lateF F p q j i)) = (List.range (F.length + 1)).map fun i => PyData.int (if i = j then lateF F p q j j - p * x else lateF F p q j i) := by
        apply List.map_congr_left
        intro i _
        rw [Int.toNat_natCast]
        by_cases h : i = j
        · rw [if_pos h, if_pos h]
        · rw [if_neg h, if_neg h]
      have e1' := e1
      rw [Int.toNat_natCast] at e1
      simp only [Int.toNat_natCast]
      rw [e1]
      have a2 := rng_at (n := F.length + 1) (f := fun i => if i = j then lateF F p q j j - p * x else lateF F p q j i) (i := (j : Int) + 1) (by omega) (by omega)
      rw [a2, got_some]
      simp -implicitDefEqProofs
      refine ⟨okq, ?_⟩
      rw [i2, got_some, rng_set]
      have t1 : ((j : Int) + 1).toNat = j + 1 := by omega
      rw [t1]
      suffices e9 : (List.range (F.length + 1)).map (fun i => if i = j + 1 then PyData.int (lateF F p q j (j + 1) + q * x) else PyData.int (if i = j then lateF F p q j j - p * x else lateF F p q j i)) = (List.range (F.length + 1)).map fun i => PyData.int (lateF F p q (j + 1) i) by
        refine hK _ ⟨j + 1, .im (.int j), .im (.int x), by omega, by rw [hxs]; rfl, ?_⟩
        rw [← e9]
      apply List.map_congr_left
      intro i hi
      by_cases h1 : i = j + 1
      · subst h1
        rw [if_pos rfl]
        congr 1
        unfold lateF
        rw [if_neg (by omega), if_neg (by omega), if_pos (by omega), if_neg (by omega), hx, show (((j + 1 : Nat) : Int) - 1) = (j : Int) by omega]
        omega
      · rw [if_neg h1]
        by_cases h2 : i = j
        · subst h2
          rw [if_pos rfl]
          congr 1
          unfold lateF
          rw [if_pos (Nat.le_refl _), if_neg (by omega), if_pos (by omega), if_pos (by omega), hx]
          omega
        · rw [if_neg h2]
          congr 1
          unfold lateF
          by_cases h3 : i ≤ j
          · rw [if_pos h3, if_pos (by omega), if_pos (by omega), if_pos (by omega)]
          · rw [if_neg h3, if_neg (by omega), if_neg (by omega), if_neg (by omega)]
theorem Bd_cfI {k : Nat} {F : List Int} (h : ∀ c ∈ F, Bd k c) (i : Int) : Bd k (cfI F i) := by
  unfold cfI
  split
  · rw [List.getD_eq_getElem?_getD]
    by_cases hi : i.toNat < F.length
    · rw [List.getElem?_eq_getElem hi]; exact h _ (List.getElem_mem _)
    · rw [List.getElem?_eq_none (by omega)]; exact (Nat.pow_pos (by decide) : 0 < 2 ^ k)
  · exact (Nat.pow_pos (by decide) : 0 < 2 ^ k)
theorem stepP_B {k kp : Nat} {F : List Int} {p q : Int} (h : ∀ c ∈ F, Bd k c) (hp : Bd kp p) (hq : Bd kp q) : ∀ c ∈ stepP F p q, Bd (k + kp + 1) c := by
  intro c hc
  obtain ⟨i, _, rfl⟩ := List.mem_map.mp hc
  exact ((hq.mul (Bd_cfI h _)).sub (hp.mul (Bd_cfI h _))).mono (by omega)
def polyL (rs : List Rat) : List Int := rs.foldl (fun F r => stepP F r.num (r.den : Int)) [1]
theorem polyW_ok {rs : List Rat} {d : D} {Q : D → Prop} (r : rowR rs d) (l : rs.length ≤ 10) (b : ∀ x ∈ rs, BR 9 x) (k : Q (.tuple ((polyL rs).map .int))) :
    polyW { nx := fun _ => Q .none, rt := Q } [.im d, .no, .no, .no, .no, .no, .no] := by
  unfold polyW
  refine sq_k fun N hN => ?_
  simp -implicitDefEqProofs
  refine hN _ ?_
  clear hN
  refine sq_k fun N hN => ?_
  suffices main : loopD (uT (uCons (uN 2) (uCons (uN 3) uNil))) (wSq (wSet 4 (w2 mulH (wLst (wS (wC (.int 0)) wN)) (w2 addG (wF lenG (wA (wP 1) wN)) (wC (.int 1))))) (wSq polyIn (wSq (wSet 1 (wV 4)) wNx))) { nx := N, rt := Q } (rs.map rd)
      [.im d, .ow [.int 1], .no, .no, .no, .no, .no] by
    rcases r with rfl | rfl <;> simp -implicitDefEqProofs <;> exact main
  refine loop_ind (fun rem ρ => ∃ (xs : List Rat) (F : List Int) (s1 s2 s3 s4 s5 s6 : Sl), rem = xs.map rd ∧ (∀ x ∈ xs, BR 9 x) ∧ xs.length ≤ 10 ∧ (∀ c ∈ F, Bd (10 * (10 - xs.length) + 1) c) ∧ F.length + xs.length = rs.length + 1 ∧
    xs.foldl (fun F r => stepP F r.num (r.den : Int)) F = polyL rs ∧ (s1 = .ow (F.map .int) ∨ s1 = .im (.list (F.map .int))) ∧ ρ = [.im d, s1, s2, s3, s4, s5, s6]) ?_ ?_ _ _
    ⟨rs, [1], _, _, _, _, _, _, rfl, b, l, by intro c hc; simp at hc; subst hc; exact (Bd.lit (k := 1) (x := 1)).mono (by omega), by simp; omega, rfl, .inl rfl, rfl⟩
  · rintro _ ⟨xs, F, s1, s2, s3, s4, s5, s6, e, _, _, _, _, ef, hs, rfl⟩
    have : xs = [] := by cases xs with | nil => rfl | cons _ _ => cases e
    subst this
    obtain rfl : F = polyL rs := ef
    refine hN _ ?_
    clear hN
    rcases hs with rfl | rfl <;> simp -implicitDefEqProofs <;> exact k
  · rintro dd rem _ K ⟨xs, F, s1, s2, s3, s4, s5, s6, e, hb, hx, hF, hl, ef, hs, rfl⟩ hK
    cases xs with
    | nil => cases e
    | cons x xs =>
      cases e
      simp only [List.length_cons] at hx hF hl
      have bx := hb x List.mem_cons_self
      have hz : List.replicate (F.length + 1) (PyData.int 0) = ((List.range (F.length + 1)).map fun _ => (0 : Int)).map PyData.int := by
        rw [List.map_map]
        apply List.ext_getElem
        · simp
        · intro i h1 h2
          simp
      suffices main : ∀ s1, (s1 = .ow (F.map .int) ∨ s1 = .im (.list (F.map .int))) → (wSq polyIn (wSq (wSet 1 (wV 4)) wNx)) { nx := K, rt := Q, bk := N, ct := K } [.im d, s1, .im (.int x.num), .im (.int (x.den : Int)), .ow (((List.range (F.length + 1)).map fun _ => (0 : Int)).map PyData.int), s5, s6] by
        simp -implicitDefEqProofs only [x_uTrd, x_uCons, x_uN, x_uNil, x_put2, x_put3]
        refine sq_k fun N2 hN2 => ?_
        have t : ((F.length : Int) + 1).toNat = F.length + 1 := by omega
        rcases hs with rfl | rfl
        · simp -implicitDefEqProofs [t]
          rw [hz]
          exact ⟨by omega, by omega, by omega, hN2 _ (main _ (.inl rfl))⟩
        · simp -implicitDefEqProofs [t]
          rw [hz]
          exact ⟨by omega, by omega, by omega, hN2 _ (main _ (.inr rfl))⟩
      intro s1 hs1
      refine sq_k fun N2 hN2 => ?_
      refine polyIn_ok (kF := 10 * (10 - (xs.length + 1)) + 1) (kp := 9) (N := N2) hs1 rfl hF bx.n bx.d ⟨by omega, by omega, by omega, by omega⟩ (by omega) fun t5 t6 => hN2 _ ?_
      simp -implicitDefEqProofs
      exact hK _ ⟨xs, stepP F x.num x.den, _, _, _, _, _, _, rfl, fun y hy => hb y (List.mem_cons_of_mem _ hy), by omega, fun c hc => (stepP_B hF bx.n bx.d c hc).mono (by omega), by rw [stepP_len]; omega, ef, .inr rfl, rfl⟩
end DL

set_option Elab.async false
set_option linter.all false
set_option maxRecDepth 100000
namespace DL
open PySem PySem.Spec PyProof.Rows L2
/-! ### sums of rationals -/
theorem fold_add : ∀ (xs : List Rat) (t : Rat), xs.foldl (fun a b => a + b) t = t + sumR xs
  | [], t => by unfold sumR; simp [Rat.add_zero]
  | x :: xs, t => by
    have h1 := fold_add xs (t + x)
    have h2 := fold_add xs (0 + x)
    unfold sumR
    rw [List.foldl_cons, List.foldl_cons, h1, h2]
    grind
theorem sumR_nil : sumR [] = 0 := rfl
theorem sumR_cons (x : Rat) (xs : List Rat) : sumR (x :: xs) = x + sumR xs := by
  have := fold_add xs (0 + x)
  unfold sumR at this ⊢
  rw [List.foldl_cons, this]
  grind
theorem sumR_app (xs ys : List Rat) : sumR (xs ++ ys) = sumR xs + sumR ys := by
  induction xs with
  | nil => rw [List.nil_append, sumR_nil]; grind
  | cons x xs ih => rw [List.cons_append, sumR_cons, sumR_cons, ih]; grind
def sqR (rs : List Rat) : Rat := sumR (rs.map fun x => x * x)
theorem sqR_cons (x : Rat) (xs : List Rat) : sqR (x :: xs) = x * x + sqR xs := by unfold sqR; rw [List.map_cons, sumR_cons]
theorem shift_sq (m : Rat) : ∀ rs : List Rat, sumR (rs.map fun x => (x - m) * (x - m)) = sqR rs - 2 * m * sumR rs + (rs.length : Int) * (m * m)
  | [] => by
    have : (((([] : List Rat).length : Nat) : Int) : Rat) = 0 := rfl
    rw [this]
    unfold sqR
    rw [List.map_nil, List.map_nil, sumR_nil]; grind
  | x :: rs => by
    have : ((((x :: rs).length : Nat) : Int) : Rat) = ((rs.length : Int) : Rat) + 1 := by
      rw [List.length_cons, Int.natCast_add, Rat.intCast_add] <;> rfl
    rw [this, List.map_cons, sumR_cons, sqR_cons, sumR_cons, shift_sq m rs]
    grind
theorem nz_of {n : Int} (h : n ≠ 0) : (n : Rat) ≠ 0 := fun z => h (Rat.intCast_inj.mp (z.trans Rat.intCast_zero.symm))
theorem varR_eq {rs : List Rat} (h : rs ≠ []) : varR rs = (sqR rs - sumR rs * sumR rs / (rs.length : Int)) / (rs.length : Int) := by
  have hl := List.length_pos_iff.mpr h
  have n0 : (((rs.length : Nat) : Int) : Rat) ≠ 0 := nz_of (by omega)
  unfold varR
  have e : meanR (rs.map fun x => (x - meanR rs) * (x - meanR rs)) = sumR (rs.map fun x => (x - meanR rs) * (x - meanR rs)) / (rs.length : Int) := by
    unfold meanR
    rw [List.length_map]
  rw [e, shift_sq]
  unfold meanR
  generalize (((rs.length : Nat) : Int) : Rat) = n at n0 ⊢
  grind
/-! ### the top of the polynomial -/
structure Tops (F : List Int) (s t : Rat) : Prop where
  ne : 1 ≤ F.length
  a : 0 < cfI F (F.length - 1)
  b : (cfI F (F.length - 2) : Rat) = -s * (cfI F (F.length - 1) : Rat)
  c : 2 * (cfI F (F.length - 3) : Rat) = (s * s - t) * (cfI F (F.length - 1) : Rat)
theorem Tops.step {F : List Int} {s t : Rat} (h : Tops F s t) (x : Rat) : Tops (stepP F x.num (x.den : Int)) (s + x) (t + x * x) := by
  have hv := pq_val x
  have hd := den_ne x
  have hp := pq_pos x
  change ((x.num : Int) : Rat) / ((x.den : Int) : Rat) = x at hv
  change ((x.den : Int) : Rat) ≠ 0 at hd
  change 0 < (x.den : Int) at hp
  have e0 : cfI (stepP F x.num (x.den : Int)) ((stepP F x.num (x.den : Int)).length - 1) = x.den * cfI F (F.length - 1) := by
    rw [stepP_cf, stepP_len, cfI_out (show (F.length : Int) ≤ ((F.length + 1 : Nat) : Int) - 1 by omega), show (((F.length + 1 : Nat) : Int) - 1 - 1) = (F.length : Int) - 1 by omega]
    simp
  have e1 : cfI (stepP F x.num (x.den : Int)) ((stepP F x.num (x.den : Int)).length - 2) = x.den * cfI F (F.length - 2) - x.num * cfI F (F.length - 1) := by
    rw [stepP_cf, stepP_len, show (((F.length + 1 : Nat) : Int) - 2 - 1) = (F.length : Int) - 2 by omega, show (((F.length + 1 : Nat) : Int) - 2) = (F.length : Int) - 1 by omega]
  have e2 : cfI (stepP F x.num (x.den : Int)) ((stepP F x.num (x.den : Int)).length - 3) = x.den * cfI F (F.length - 3) - x.num * cfI F (F.length - 2) := by
    rw [stepP_cf, stepP_len, show (((F.length + 1 : Nat) : Int) - 3 - 1) = (F.length : Int) - 3 by omega, show (((F.length + 1 : Nat) : Int) - 3) = (F.length : Int) - 2 by omega]
  have hb := h.b
  have hc := h.c
  refine ⟨by rw [stepP_len]; omega, ?_, ?_, ?_⟩
  · rw [e0]; exact Int.mul_pos hp h.a
  · rw [e1, e0, Rat.intCast_sub, Rat.intCast_mul, Rat.intCast_mul, Rat.intCast_mul, hb]
    generalize ((x.num : Int) : Rat) = p at hv ⊢
    generalize ((x.den : Int) : Rat) = q at hv hd ⊢
    subst hv
    grind
  · rw [e2, e0, Rat.intCast_sub, Rat.intCast_mul, Rat.intCast_mul, Rat.intCast_mul, hb]
    generalize ((x.num : Int) : Rat) = p at hv ⊢
    generalize ((x.den : Int) : Rat) = q at hv hd ⊢
    generalize (cfI F (F.length - 3) : Rat) = c at hc ⊢
    generalize (cfI F (F.length - 1) : Rat) = a at hc ⊢
    subst hv
    grind
theorem Tops.fold : ∀ (xs : List Rat) {F : List Int} {s t : Rat}, Tops F s t → Tops (xs.foldl (fun F r => stepP F r.num (r.den : Int)) F) (s + sumR xs) (t + sqR xs)
  | [], F, s, t, h => by
    have e1 : s + sumR [] = s := by rw [sumR_nil]; grind
    have e2 : t + sqR [] = t := by
      have : sqR [] = 0 := rfl
      rw [this]; grind
    rw [e1, e2]; exact h
  | x :: xs, F, s, t, h => by
    have := Tops.fold xs (h.step x)
    rw [sumR_cons, sqR_cons]
    have e1 : s + (x + sumR xs) = s + x + sumR xs := by grind
    have e2 : t + (x * x + sqR xs) = t + x * x + sqR xs := by grind
    rw [e1, e2]
    exact this
theorem polyL_len : ∀ (rs : List Rat), (polyL rs).length = rs.length + 1 := by
  have key : ∀ (xs : List Rat) (F : List Int), (xs.foldl (fun F r => stepP F r.num (r.den : Int)) F).length = F.length + xs.length := by
    intro xs
    induction xs with
    | nil => intro F; rfl
    | cons x xs ih => intro F; rw [List.foldl_cons, ih, stepP_len, List.length_cons]; omega
  intro rs
  have := key rs [1]
  unfold polyL
  rw [this]
  simp; omega
theorem polyL_top (rs : List Rat) : Tops (polyL rs) (sumR rs) (sqR rs) := by
  have h0 : Tops [1] 0 0 := ⟨by decide, by decide, by decide +kernel, by decide +kernel⟩
  have := Tops.fold rs h0
  have e1 : (0 : Rat) + sumR rs = sumR rs := by grind
  have e2 : (0 : Rat) + sqR rs = sqR rs := by grind
  rw [e1, e2] at this
  exact this
/-- three_mean, three_spread of a row of numbers -/
def spreadR (F : List Int) : Rat := ((((F.length : Int) - 1 - 1) * cfI F (F.length - 2) * cfI F (F.length - 2) - 2 * (F.length - 1) * cfI F (F.length - 1) * cfI F (F.length - 3) : Int) : Rat) / ((((F.length : Int) - 1) * (F.length - 1) * cfI F (F.length - 1) * cfI F (F.length - 1) : Int) : Rat)
def tmeanR (F : List Int) : Rat := ((0 - cfI F (F.length - 2) : Int) : Rat) / ((((F.length : Int) - 1) * cfI F (F.length - 1) : Int) : Rat)
theorem spread_poly {rs : List Rat} (h : rs ≠ []) : spreadR (polyL rs) = varR rs := by
  have hl := List.length_pos_iff.mpr h
  obtain ⟨_, a, b, c⟩ := polyL_top rs
  have a0 := nz_of (show cfI (polyL rs) ((polyL rs).length - 1) ≠ 0 by omega)
  rw [varR_eq h]
  unfold spreadR
  have ln : ((polyL rs).length : Int) - 1 = (rs.length : Int) := by rw [polyL_len]; omega
  have n0 := nz_of (show (rs.length : Int) ≠ 0 by omega)
  simp only [Rat.intCast_sub, Rat.intCast_mul] at b c a0 ⊢
  rw [ln] at a0 ⊢
  rw [ln] at b c
  have e2 : (((2 : Int) : Rat)) = 2 := rfl
  have e1 : (((1 : Int) : Rat)) = 1 := rfl
  rw [e2, e1]
  have l2 : (((polyL rs).length : Int) : Rat) = ((rs.length : Int) : Rat) + 1 := by rw [← ln, Rat.intCast_sub]; have : ((1 : Int) : Rat) = 1 := rfl; rw [this]; grind
  rw [l2, b]
  generalize (cfI (polyL rs) (rs.length : Int) : Rat) = A at *
  generalize (cfI (polyL rs) (((polyL rs).length : Int) - 3) : Rat) = C at *
  generalize ((rs.length : Int) : Rat) = n at *
  generalize sumR rs = S at *
  generalize sqR rs = T at *
  clear l2 b a ln e1 e2
  have hc : 2 * (n + 1 - 1) * A * C = n * A * ((S * S - T) * A) := by rw [← c]; grind
  rw [hc]
  clear hc c
  grind
theorem tmean_poly {rs : List Rat} (h : rs ≠ []) : tmeanR (polyL rs) = meanR rs := by
  have hl := List.length_pos_iff.mpr h
  obtain ⟨_, a, b, c⟩ := polyL_top rs
  have a0 := nz_of (show cfI (polyL rs) ((polyL rs).length - 1) ≠ 0 by omega)
  unfold tmeanR meanR
  have ln : ((polyL rs).length : Int) - 1 = (rs.length : Int) := by rw [polyL_len]; omega
  have n0 := nz_of (show (rs.length : Int) ≠ 0 by omega)
  simp only [Rat.intCast_sub, Rat.intCast_mul] at b a0 ⊢
  rw [ln] at b a0 ⊢
  have l2 : (((polyL rs).length : Int) : Rat) - ((1 : Int) : Rat) = ((rs.length : Int) : Rat) := by rw [← ln, Rat.intCast_sub]
  have e0 : (((0 : Int) : Rat)) = 0 := rfl
  rw [l2, b, e0]
  generalize (cfI (polyL rs) (rs.length : Int) : Rat) = A at *
  generalize ((rs.length : Int) : Rat) = n at *
  generalize sumR rs = S at *
  clear l2 b a ln c
  grind
end DL

set_option Elab.async false
set_option linter.all false
set_option maxRecDepth 100000
namespace DL
open PySem PySem.Spec PyProof.Rows L2
/-! ### inequalities of sums -/
theorem sq_nn (x : Rat) : 0 ≤ x * x := by
  rcases Rat.le_total (a := 0) (b := x) with h | h
  · exact Rat.mul_nonneg h h
  · have := Rat.mul_nonneg (a := -x) (b := -x) (by grind) (by grind)
    grind
theorem sum_nn : ∀ {rs : List Rat}, (∀ r ∈ rs, 0 ≤ r) → 0 ≤ sumR rs
  | [], _ => by rw [sumR_nil]; grind
  | r :: rs, h => by
    rw [sumR_cons]
    have h1 := h r List.mem_cons_self
    have h2 := sum_nn (rs := rs) fun x hx => h x (List.mem_cons_of_mem _ hx)
    grind
theorem sum_le : ∀ {rs : List Rat} {c : Rat}, (∀ r ∈ rs, r ≤ c) → sumR rs ≤ (rs.length : Int) * c
  | [], c, _ => by
    have : (((([] : List Rat).length : Nat) : Int) : Rat) = 0 := rfl
    rw [sumR_nil, this]; grind
  | r :: rs, c, h => by
    have e : ((((r :: rs).length : Nat) : Int) : Rat) = ((rs.length : Int) : Rat) + 1 := by
      rw [List.length_cons, Int.natCast_add, Rat.intCast_add] <;> rfl
    rw [sumR_cons, e]
    have h1 := h r List.mem_cons_self
    have h2 := sum_le (rs := rs) fun x hx => h x (List.mem_cons_of_mem _ hx)
    grind
theorem le_sum : ∀ {rs : List Rat} {c : Rat}, (∀ r ∈ rs, c ≤ r) → (rs.length : Int) * c ≤ sumR rs
  | [], c, _ => by
    have : (((([] : List Rat).length : Nat) : Int) : Rat) = 0 := rfl
    rw [sumR_nil, this]; grind
  | r :: rs, c, h => by
    have e : ((((r :: rs).length : Nat) : Int) : Rat) = ((rs.length : Int) : Rat) + 1 := by
      rw [List.length_cons, Int.natCast_add, Rat.intCast_add] <;> rfl
    rw [sumR_cons, e]
    have h1 := h r List.mem_cons_self
    have h2 := le_sum (rs := rs) fun x hx => h x (List.mem_cons_of_mem _ hx)
    grind
theorem len_cons (r : Rat) (rs : List Rat) : ((((r :: rs).length : Nat) : Int) : Rat) = ((rs.length : Int) : Rat) + 1 := by
  rw [List.length_cons, Int.natCast_add, Rat.intCast_add] <;> rfl
/-- the sum of all squared differences -/
def PS (rs : List Rat) : Rat := ((rs.length : Int) : Rat) * sqR rs - sumR rs * sumR rs
theorem PS_cons (x : Rat) (rs : List Rat) : PS (x :: rs) = PS rs + sumR (rs.map fun y => (y - x) * (y - x)) := by
  unfold PS
  rw [len_cons, sqR_cons, sumR_cons, shift_sq]
  grind
theorem PS_nn : ∀ rs : List Rat, 0 ≤ PS rs
  | [] => by
    have : PS [] = 0 := by decide +kernel
    rw [this]; grind
  | x :: rs => by
    rw [PS_cons]
    have h1 := PS_nn rs
    have h2 : 0 ≤ sumR (rs.map fun y => (y - x) * (y - x)) := sum_nn fun r hr => by
      obtain ⟨y, _, rfl⟩ := List.mem_map.mp hr
      exact sq_nn _
    grind
theorem len_pos {rs : List Rat} (h : rs ≠ []) : 0 < ((rs.length : Int) : Rat) := by
  have := List.length_pos_iff.mpr h
  exact Rat.intCast_lt_intCast.mpr (show (0 : Int) < (rs.length : Int) by omega)
theorem var_PS {rs : List Rat} (h : rs ≠ []) : varR rs = PS rs / (((rs.length : Int) : Rat) * ((rs.length : Int) : Rat)) := by
  have n0 : ((rs.length : Int) : Rat) ≠ 0 := by have := len_pos h; grind
  rw [varR_eq h]
  unfold PS
  generalize ((rs.length : Int) : Rat) = n at *
  grind
theorem var_nn {rs : List Rat} (h : rs ≠ []) : 0 ≤ varR rs := by
  have n0 := len_pos h
  have e := var_PS h
  have p := PS_nn rs
  have nn := Rat.mul_pos n0 n0
  generalize ((rs.length : Int) : Rat) = n at *
  refine Rat.le_of_mul_le_mul_left (c := n * n) ?_ nn
  rw [e]
  have : n * n * (PS rs / (n * n)) = PS rs := by grind
  rw [this]
  grind
/-- prefix sums -/
theorem prefix_sq {as bs : List Rat} (h : as ++ bs ≠ []) :
    (sumR as - ((as.length : Int) : Rat) * meanR (as ++ bs)) * (sumR as - ((as.length : Int) : Rat) * meanR (as ++ bs)) ≤ ((as.length : Int) : Rat) * ((bs.length : Int) : Rat) * varR (as ++ bs) := by
  have n0 := len_pos h
  have e := var_PS h
  have pa := PS_nn as
  have pb := PS_nn bs
  have el : (((as ++ bs).length : Int) : Rat) = ((as.length : Int) : Rat) + ((bs.length : Int) : Rat) := by
    rw [List.length_append, Int.natCast_add, Rat.intCast_add]
  have hk : 0 ≤ ((as.length : Int) : Rat) := Rat.intCast_le_intCast.mpr (show (0 : Int) ≤ (as.length : Int) by omega)
  have hl : 0 ≤ ((bs.length : Int) : Rat) := Rat.intCast_le_intCast.mpr (show (0 : Int) ≤ (bs.length : Int) by omega)
  rw [e]
  unfold meanR
  have eq : sqR (as ++ bs) = sqR as + sqR bs := by unfold sqR; rw [List.map_append, sumR_app]
  clear e
  unfold PS at pa pb ⊢
  rw [eq, sumR_app, el]
  rw [el] at n0
  clear el eq
  generalize ((as.length : Int) : Rat) = k at *
  generalize ((bs.length : Int) : Rat) = l at *
  generalize sumR as = A at *
  generalize sumR bs = B at *
  generalize sqR as = Ta at *
  generalize sqR bs = Tb at *
  have nn := Rat.mul_pos n0 n0
  refine Rat.le_of_mul_le_mul_left (c := (k + l) * (k + l)) ?_ nn
  have e1 : (k + l) * (k + l) * ((A - k * ((A + B) / (k + l))) * (A - k * ((A + B) / (k + l)))) = (l * A - k * B) * (l * A - k * B) := by grind
  have e2 : ∀ d X : Rat, d ≠ 0 → d * (k * l * (X / d)) = k * l * X := fun d X h => by grind
  have dn : (k + l) * (k + l) ≠ 0 := by grind
  rw [e1, e2 _ _ dn]
  have h1 := Rat.mul_nonneg (Rat.mul_nonneg hl (show 0 ≤ k + l by grind)) pa
  have h2 := Rat.mul_nonneg (Rat.mul_nonneg hk (show 0 ≤ k + l by grind)) pb
  have e3 : k * l * ((k + l) * (Ta + Tb) - (A + B) * (A + B)) = (l * A - k * B) * (l * A - k * B) + l * (k + l) * (k * Ta - A * A) + k * (k + l) * (l * Tb - B * B) := by grind
  rw [e3]
  grind
end DL

set_option Elab.async false
set_option linter.all false
set_option maxRecDepth 100000
namespace DL
open PySem PySem.Spec PyProof.Rows L2
abbrev Fall (rs : List Rat) : Prop := rs.Pairwise fun a b => b ≤ a
theorem prefix_nn {as bs : List Rat} (f : Fall (as ++ bs)) : 0 ≤ sumR as - ((as.length : Int) : Rat) * meanR (as ++ bs) := by
  obtain ⟨_, fb, fab⟩ := List.pairwise_append.mp f
  by_cases h : as ++ bs = []
  · obtain ⟨rfl, rfl⟩ := List.append_eq_nil_iff.mp h
    decide +kernel
  have n0 := len_pos h
  have el : (((as ++ bs).length : Int) : Rat) = ((as.length : Int) : Rat) + ((bs.length : Int) : Rat) := by
    rw [List.length_append, Int.natCast_add, Rat.intCast_add]
  have hk : 0 ≤ ((as.length : Int) : Rat) := Rat.intCast_le_intCast.mpr (show (0 : Int) ≤ (as.length : Int) by omega)
  have hl : 0 ≤ ((bs.length : Int) : Rat) := Rat.intCast_le_intCast.mpr (show (0 : Int) ≤ (bs.length : Int) by omega)
  have key : 0 ≤ ((bs.length : Int) : Rat) * sumR as - ((as.length : Int) : Rat) * sumR bs := by
    cases bs with
    | nil =>
      have e0 : (((([] : List Rat).length : Nat) : Int) : Rat) = 0 := rfl
      rw [e0, sumR_nil]; grind
    | cons b bs =>
      have ha : ∀ r ∈ as, b ≤ r := fun r hr => fab r hr b List.mem_cons_self
      have hb : ∀ r ∈ b :: bs, r ≤ b := fun r hr => by
        rcases List.mem_cons.mp hr with z | z
        · rw [z]; exact Rat.le_refl
        · exact (List.pairwise_cons.mp fb).1 r z
      have h1 := Rat.mul_le_mul_of_nonneg_left (le_sum ha) hl
      have h2 := Rat.mul_le_mul_of_nonneg_left (sum_le hb) hk
      grind
  unfold meanR
  rw [sumR_app, el]
  rw [el] at n0
  generalize ((as.length : Int) : Rat) = k at *
  generalize ((bs.length : Int) : Rat) = l at *
  generalize sumR as = A at *
  generalize sumR bs = B at *
  refine Rat.le_of_mul_le_mul_left (c := k + l) ?_ n0
  have e1 : (k + l) * (A - k * ((A + B) / (k + l))) = l * A - k * B := by grind
  rw [e1]
  grind
/-- the first and the last taken off -/
theorem ends_of {rs : List Rat} (h : 2 ≤ rs.length) : ∃ x mid y, rs = x :: (mid ++ [y]) := by
  cases rs with
  | nil => simp at h
  | cons x r =>
    have hr : r ≠ [] := by intro z; subst z; simp at h
    exact ⟨x, r.dropLast, r.getLast hr, by rw [List.dropLast_concat_getLast]⟩
theorem PS_ends (x y : Rat) (mid : List Rat) : PS (x :: (mid ++ [y])) = PS mid + (sumR (mid.map fun z => (z - y) * (z - y)) + sumR (mid.map fun z => (z - x) * (z - x))) + (y - x) * (y - x) := by
  have e1 : PS (mid ++ [y]) = PS (y :: mid) := by
    unfold PS
    have s1 : sumR (mid ++ [y]) = sumR (y :: mid) := by rw [sumR_app, sumR_cons, sumR_cons, sumR_nil]; grind
    have s2 : sqR (mid ++ [y]) = sqR (y :: mid) := by unfold sqR; rw [List.map_append, sumR_app, List.map_cons, List.map_nil, sumR_cons, sumR_nil, List.map_cons, sumR_cons]; grind
    rw [s1, s2]
    simp
  rw [PS_cons, e1, PS_cons, List.map_append, sumR_app, List.map_cons, List.map_nil, sumR_cons, sumR_nil]
  grind
theorem width_hi {rs : List Rat} {x y : Rat} {mid : List Rat} (e : rs = x :: (mid ++ [y])) : (x - y) * (x - y) ≤ 2 * ((rs.length : Int) : Rat) * varR rs := by
  have h : rs ≠ [] := by rw [e]; simp
  have n0 := len_pos h
  have sh := shift_sq (meanR rs) rs
  have ve := varR_eq h
  have hm : meanR rs = sumR rs / ((rs.length : Int) : Rat) := rfl
  have nv : ((rs.length : Int) : Rat) * varR rs = sumR (rs.map fun z => (z - meanR rs) * (z - meanR rs)) := by
    rw [sh, ve, hm]
    generalize ((rs.length : Int) : Rat) = n at *
    have : n ≠ 0 := by grind
    grind
  generalize meanR rs = m at *
  have ex : sumR (rs.map fun z => (z - m) * (z - m)) = (x - m) * (x - m) + sumR (mid.map fun z => (z - m) * (z - m)) + (y - m) * (y - m) := by
    rw [e, List.map_cons, sumR_cons, List.map_append, sumR_app, List.map_cons, List.map_nil, sumR_cons, sumR_nil]; grind
  have mn : 0 ≤ sumR (mid.map fun z => (z - m) * (z - m)) := sum_nn fun r hr => by
    obtain ⟨y, _, rfl⟩ := List.mem_map.mp hr
    exact sq_nn _
  have s := sq_nn ((x - m) + (y - m))
  rw [Rat.mul_assoc, nv, ex]
  grind
/-- a quarter of the square, rounded down -/
def qt : Nat → Nat
  | 0 => 0
  | 1 => 0
  | n + 2 => qt n + n + 1
theorem qt_even : ∀ m : Nat, qt (2 * m) = m * m
  | 0 => rfl
  | m + 1 => by
    show qt (2 * m + 2) = _
    rw [qt, qt_even m]; grind
theorem qt_odd : ∀ m : Nat, qt (2 * m + 1) = m * m + m
  | 0 => rfl
  | m + 1 => by
    show qt (2 * m + 1 + 2) = _
    rw [qt, qt_odd m]; grind
theorem PS_hi : ∀ (n : Nat) {rs : List Rat} {lo hi : Rat}, rs.length = n → Fall rs → (∀ r ∈ rs, lo ≤ r ∧ r ≤ hi) → PS rs ≤ ((qt n : Int) : Rat) * ((hi - lo) * (hi - lo))
  | 0, rs, lo, hi, hl, _, _ => by
    have : rs = [] := List.eq_nil_of_length_eq_zero hl
    subst this
    have e1 : PS [] = 0 := by decide +kernel
    have e2 : (((qt 0 : Nat) : Int) : Rat) = 0 := rfl
    rw [e1, e2]; grind
  | 1, rs, lo, hi, hl, _, _ => by
    match rs, hl with
    | [x], _ =>
      have e2 : (((qt 1 : Nat) : Int) : Rat) = 0 := rfl
      have e3 : PS [x] = 0 := by
        rw [PS_cons]
        have e1 : PS [] = 0 := by decide +kernel
        rw [e1, List.map_nil, sumR_nil]; grind
      rw [e3, e2]; grind
  | n + 2, rs, lo, hi, hl, f, b => by
    obtain ⟨x, mid, y, rfl⟩ := ends_of (rs := rs) (by omega)
    have hm : mid.length = n := by simp at hl; omega
    obtain ⟨fx, fr⟩ := List.pairwise_cons.mp f
    obtain ⟨fm, _, fmy⟩ := List.pairwise_append.mp fr
    have ih := PS_hi n hm fm (lo := lo) (hi := hi) fun r hr => b r (by simp [hr])
    have hx := b x List.mem_cons_self
    have hy := b y (by simp)
    have hxy : y ≤ x := fx y (by simp)
    have w1 : (x - y) * (x - y) ≤ (hi - lo) * (hi - lo) := by
      have a1 := Rat.mul_le_mul_of_nonneg_left (a := x - y) (b := hi - lo) (c := x - y) (by grind) (by grind)
      have a2 := Rat.mul_le_mul_of_nonneg_left (a := x - y) (b := hi - lo) (c := hi - lo) (by grind) (by grind)
      grind
    have ms : sumR (mid.map fun z => (z - y) * (z - y) + (z - x) * (z - x)) ≤ ((n : Int) : Rat) * ((hi - lo) * (hi - lo)) := by
      have := sum_le (rs := mid.map fun z => (z - y) * (z - y) + (z - x) * (z - x)) (c := (hi - lo) * (hi - lo)) fun r hr => by
        obtain ⟨z, hz, rfl⟩ := List.mem_map.mp hr
        have z1 : z ≤ x := fx z (by simp [hz])
        have z2 : y ≤ z := fmy z hz y (by simp)
        have p := Rat.mul_nonneg (a := x - z) (b := z - y) (by grind) (by grind)
        grind
      rw [List.length_map, hm] at this
      exact this
    have sp : sumR (mid.map fun z => (z - y) * (z - y) + (z - x) * (z - x)) = sumR (mid.map fun z => (z - y) * (z - y)) + sumR (mid.map fun z => (z - x) * (z - x)) := by
      clear ms ih fm fmy fr fx f b hl hm
      induction mid with
      | nil => rw [List.map_nil, List.map_nil, List.map_nil, sumR_nil]; grind
      | cons z mid ih => rw [List.map_cons, List.map_cons, List.map_cons, sumR_cons, sumR_cons, sumR_cons, ih]; grind
    rw [PS_ends, ← sp]
    have eq : (((qt (n + 2) : Nat) : Int) : Rat) = ((qt n : Int) : Rat) + ((n : Int) : Rat) + 1 := by
      rw [qt, Int.natCast_add, Int.natCast_add, Rat.intCast_add, Rat.intCast_add] <;> rfl
    rw [eq]
    generalize ((qt n : Int) : Rat) = q at *
    generalize ((n : Int) : Rat) = m at *
    grind
end DL

set_option Elab.async false
set_option linter.all false
set_option maxRecDepth 100000
namespace DL
open PySem PySem.Spec PyProof.Rows L2
/-! ### steps -/
/-- the sum of (j - i)^2 over i < j < n -/
def cq : Nat → Nat
  | 0 => 0
  | n + 1 => cq n + sq1 n
where sq1 : Nat → Nat
  | 0 => 0
  | n + 1 => sq1 n + (n + 1) * (n + 1)
theorem sq1_eq : ∀ n : Nat, 6 * cq.sq1 n = n * (n + 1) * (2 * n + 1)
  | 0 => rfl
  | n + 1 => by
    rw [cq.sq1, Nat.mul_add, sq1_eq n]
    grind
theorem cq_eq : ∀ n : Nat, 12 * (cq n : Int) = (n : Int) * n * ((n : Int) * n - 1)
  | 0 => rfl
  | n + 1 => by
    have h := cq_eq n
    have g := sq1_eq n
    have g' : 6 * (cq.sq1 n : Int) = n * (n + 1) * (2 * n + 1) := by exact_mod_cast g
    rw [cq, Int.natCast_add, Int.natCast_add]
    grind
/-- every step at least s -/
def StepsGe (s : Rat) : List Rat → Prop
  | x :: y :: r => y + s ≤ x ∧ StepsGe s (y :: r)
  | _ => True
def StepsEq (s : Rat) : List Rat → Prop
  | x :: y :: r => y + s = x ∧ StepsEq s (y :: r)
  | _ => True
theorem gaps {s : Rat} (s0 : 0 ≤ s) : ∀ (r : List Rat) (x : Rat) (t : Nat), (∀ y ∈ r.head?, y + ((t + 1 : Nat) : Int) * s ≤ x) → StepsGe s r →
    s * s * (((cq.sq1 (t + r.length) : Int) : Rat) - ((cq.sq1 t : Int) : Rat)) ≤ sumR (r.map fun y => (y - x) * (y - x)) ∧
    (s * s * (((cq.sq1 (t + r.length) : Int) : Rat) - ((cq.sq1 t : Int) : Rat)) = sumR (r.map fun y => (y - x) * (y - x)) → ∀ y ∈ r.head?, y + ((t + 1 : Nat) : Int) * s = x)
  | [], x, t, _, _ => by
    refine ⟨?_, fun _ y hy => by cases hy⟩
    rw [List.map_nil, sumR_nil, List.length_nil, Nat.add_zero]
    grind
  | y :: r, x, t, h, hs => by
    have hy := h y (by simp)
    have hr : ∀ z ∈ r.head?, z + ((t + 1 + 1 : Nat) : Int) * s ≤ x := by
      intro z hz
      cases r with
      | nil => cases hz
      | cons w r =>
        simp at hz
        subst hz
        have := hs.1
        have e : ((((t + 1 + 1 : Nat) : Int)) : Rat) = (((t + 1 : Nat) : Int) : Rat) + 1 := by rw [Int.natCast_add, Rat.intCast_add] <;> rfl
        rw [e]
        grind
    have hs' : StepsGe s r := by
      cases r with
      | nil => trivial
      | cons w r => exact hs.2
    obtain ⟨ih, _⟩ := gaps s0 r x (t + 1) hr hs'
    have el : t + (y :: r).length = t + 1 + r.length := by rw [List.length_cons]; omega
    have eq : ((cq.sq1 (t + 1) : Int) : Rat) = ((cq.sq1 t : Int) : Rat) + (((t + 1 : Nat) : Int) : Rat) * (((t + 1 : Nat) : Int) : Rat) := by
      rw [cq.sq1, Int.natCast_add, Int.natCast_mul, Rat.intCast_add, Rat.intCast_mul]
    rw [el, List.map_cons, sumR_cons]
    rw [eq] at ih
    have k0 : 0 ≤ ((((t + 1 : Nat) : Int)) : Rat) := Rat.intCast_le_intCast.mpr (show (0 : Int) ≤ ((t + 1 : Nat) : Int) by omega)
    generalize ((((t + 1 : Nat) : Int)) : Rat) = k at *
    have ks := Rat.mul_nonneg k0 s0
    have a1 : (k * s) * (k * s) ≤ (x - y) * (x - y) := by
      have b1 := Rat.mul_le_mul_of_nonneg_left (a := k * s) (b := x - y) (c := k * s) (by grind) ks
      have b2 := Rat.mul_le_mul_of_nonneg_left (a := k * s) (b := x - y) (c := x - y) (by grind) (by grind)
      grind
    refine ⟨by grind, fun he z hz => ?_⟩
    simp at hz
    subst hz
    have a2 : (x - y) * (x - y) = (k * s) * (k * s) := by grind
    have a3 : (x - y - k * s) * (x - y + k * s) = 0 := by grind
    rcases Rat.mul_eq_zero.mp a3 with z | z <;> grind
theorem PS_steps {s : Rat} (s0 : 0 ≤ s) : ∀ (rs : List Rat), StepsGe s rs → s * s * ((cq rs.length : Int) : Rat) ≤ PS rs ∧ (s * s * ((cq rs.length : Int) : Rat) = PS rs → StepsEq s rs)
  | [], _ => by
    have e1 : PS [] = 0 := by decide +kernel
    have e2 : (((cq ([] : List Rat).length : Nat) : Int) : Rat) = 0 := rfl
    rw [e1, e2]
    exact ⟨by grind, fun _ => trivial⟩
  | x :: r, h => by
    have hr : StepsGe s r := by
      cases r with
      | nil => trivial
      | cons w r => exact h.2
    have hh : ∀ y ∈ r.head?, y + ((0 + 1 : Nat) : Int) * s ≤ x := by
      intro y hy
      cases r with
      | nil => cases hy
      | cons w r =>
        simp at hy
        subst hy
        have e : ((((0 + 1 : Nat) : Int)) : Rat) = 1 := rfl
        rw [e]
        have := h.1
        grind
    obtain ⟨g1, g2⟩ := gaps s0 r x 0 hh hr
    obtain ⟨p1, p2⟩ := PS_steps s0 r hr
    have z0 : (((cq.sq1 0 : Nat) : Int) : Rat) = 0 := rfl
    rw [z0, Nat.zero_add] at g1 g2
    have eq : (((cq (x :: r).length : Nat) : Int) : Rat) = ((cq r.length : Int) : Rat) + ((cq.sq1 r.length : Int) : Rat) := by
      rw [List.length_cons, cq, Int.natCast_add, Rat.intCast_add]
    rw [PS_cons, eq]
    refine ⟨by grind, fun he => ?_⟩
    have q1 : s * s * ((cq r.length : Int) : Rat) = PS r := by grind
    have q2 := g2 (by grind)
    cases r with
    | nil => trivial
    | cons w r =>
      refine ⟨?_, p2 q1⟩
      have := q2 w (by simp)
      have e : ((((0 + 1 : Nat) : Int)) : Rat) = 1 := rfl
      rw [e] at this
      grind
theorem gaps_eq {s : Rat} : ∀ (r : List Rat) (x : Rat) (t : Nat), (∀ y ∈ r.head?, y + ((t + 1 : Nat) : Int) * s = x) → StepsEq s r →
    sumR (r.map fun y => (y - x) * (y - x)) = s * s * (((cq.sq1 (t + r.length) : Int) : Rat) - ((cq.sq1 t : Int) : Rat))
  | [], x, t, _, _ => by
    rw [List.map_nil, sumR_nil, List.length_nil, Nat.add_zero]
    grind
  | y :: r, x, t, h, hs => by
    have hy := h y (by simp)
    have hr : ∀ z ∈ r.head?, z + ((t + 1 + 1 : Nat) : Int) * s = x := by
      intro z hz
      cases r with
      | nil => cases hz
      | cons w r =>
        simp at hz
        subst hz
        have := hs.1
        have e : ((((t + 1 + 1 : Nat) : Int)) : Rat) = (((t + 1 : Nat) : Int) : Rat) + 1 := by rw [Int.natCast_add, Rat.intCast_add] <;> rfl
        rw [e]
        grind
    have hs' : StepsEq s r := by
      cases r with
      | nil => trivial
      | cons w r => exact hs.2
    have ih := gaps_eq r x (t + 1) hr hs'
    have el : t + (y :: r).length = t + 1 + r.length := by rw [List.length_cons]; omega
    have eq : ((cq.sq1 (t + 1) : Int) : Rat) = ((cq.sq1 t : Int) : Rat) + (((t + 1 : Nat) : Int) : Rat) * (((t + 1 : Nat) : Int) : Rat) := by
      rw [cq.sq1, Int.natCast_add, Int.natCast_mul, Rat.intCast_add, Rat.intCast_mul]
    rw [el, List.map_cons, sumR_cons, ih, eq]
    generalize ((((t + 1 : Nat) : Int)) : Rat) = k at *
    grind
theorem PS_even {s : Rat} : ∀ (rs : List Rat), StepsEq s rs → PS rs = s * s * ((cq rs.length : Int) : Rat)
  | [], _ => by
    have e1 : PS [] = 0 := by decide +kernel
    have e2 : (((cq ([] : List Rat).length : Nat) : Int) : Rat) = 0 := rfl
    rw [e1, e2]
    grind
  | x :: r, h => by
    have hr : StepsEq s r := by
      cases r with
      | nil => trivial
      | cons w r => exact h.2
    have hh : ∀ y ∈ r.head?, y + ((0 + 1 : Nat) : Int) * s = x := by
      intro y hy
      cases r with
      | nil => cases hy
      | cons w r =>
        simp at hy
        subst hy
        have e : ((((0 + 1 : Nat) : Int)) : Rat) = 1 := rfl
        rw [e]
        have := h.1
        grind
    have g := gaps_eq r x 0 hh hr
    have z0 : (((cq.sq1 0 : Nat) : Int) : Rat) = 0 := rfl
    rw [z0, Nat.zero_add] at g
    have eq : (((cq (x :: r).length : Nat) : Int) : Rat) = ((cq r.length : Int) : Rat) + ((cq.sq1 r.length : Int) : Rat) := by
      rw [List.length_cons, cq, Int.natCast_add, Rat.intCast_add]
    rw [PS_cons, eq, PS_even r hr, g]
    grind
end DL

set_option Elab.async false
set_option linter.all false
set_option maxRecDepth 100000
namespace DL
open PySem PySem.Spec PyProof.Rows L2
/-! ### values in bounds -/
structure Gv (k j : Nat) (d : D) : Prop where
  s : d.showable = true
  z : rz d ≤ k
  h : d.depth ≤ j
theorem Gv.ok {k j : Nat} {d : D} (g : Gv k j d) (hk : k ≤ 16000000 := by decide) (hj : j ≤ 60 := by decide) : okR d := ⟨g.s, Nat.le_trans g.z hk, Nat.le_trans g.h hj⟩
theorem Gv.mono {k j k' j' : Nat} {d : D} (g : Gv k j d) (hk : k ≤ k' := by decide) (hj : j ≤ j' := by decide) : Gv k' j' d := ⟨g.s, Nat.le_trans g.z hk, Nat.le_trans g.h hj⟩
theorem Gv.int {k : Nat} {x : Int} (b : Bd k x) (hk : k ≤ 1920 := by decide) : Gv 2000 1 (.int x) := ⟨by simp [PyData.showable, b.shw hk], by simp [rz], by simp [PyData.depth]⟩
theorem Gv.t2 {k j : Nat} {a b : D} (ga : Gv k j a) (gb : Gv k j b) : Gv (k + k + 14) (j + 1) (.tuple [a, b]) := by
  obtain ⟨a1, a2, a3⟩ := ga
  obtain ⟨b1, b2, b3⟩ := gb
  refine ⟨by simp [PyData.showable, PyData.showableAll, a1, b1], by simp [rz, rzAll]; omega, ?_⟩
  simp [PyData.depth, PyData.depthAll]; omega
theorem Gv.l2 {k j : Nat} {a b : D} (ga : Gv k j a) (gb : Gv k j b) : Gv (k + k + 14) (j + 1) (.list [a, b]) := by
  obtain ⟨a1, a2, a3⟩ := ga
  obtain ⟨b1, b2, b3⟩ := gb
  refine ⟨by simp [PyData.showable, PyData.showableAll, a1, b1], by simp [rz, rzAll]; omega, ?_⟩
  simp [PyData.depth, PyData.depthAll]; omega
theorem Gv.t3 {k j : Nat} {a b c : D} (ga : Gv k j a) (gb : Gv k j b) (gc : Gv k j c) : Gv (k + k + k + 16) (j + 1) (.tuple [a, b, c]) := by
  obtain ⟨a1, a2, a3⟩ := ga
  obtain ⟨b1, b2, b3⟩ := gb
  obtain ⟨c1, c2, c3⟩ := gc
  refine ⟨by simp [PyData.showable, PyData.showableAll, a1, b1, c1], by simp [rz, rzAll]; omega, ?_⟩
  simp [PyData.depth, PyData.depthAll]; omega
theorem Gv.t1 {k j : Nat} {a : D} (ga : Gv k j a) : Gv (k + 12) (j + 1) (.tuple [a]) := by
  obtain ⟨a1, a2, a3⟩ := ga
  refine ⟨by simp [PyData.showable, PyData.showableAll, a1], by simp [rz, rzAll]; omega, ?_⟩
  simp [PyData.depth, PyData.depthAll]; omega
theorem Gv.t0 : Gv 10 1 (.tuple []) := ⟨by simp [PyData.showable, PyData.showableAll], by simp [rz, rzAll], by simp [PyData.depth, PyData.depthAll]⟩
theorem Gv.non : Gv 10 1 .none := ⟨by simp [PyData.showable], by simp [rz], by simp [PyData.depth]⟩
theorem Gv.bl {b : Bool} : Gv 10 1 (.bool b) := ⟨by simp [PyData.showable], by simp [rz], by simp [PyData.depth]⟩
theorem Gv.rat {k : Nat} {r : Rat} (b : BR k r) (hk : k ≤ 1920 := by decide) : Gv 4014 2 (rd r) := Gv.t2 (.int b.n hk) (.int b.d hk)
theorem Gv.all {k j : Nat} : ∀ {l : List D}, (∀ d ∈ l, Gv k j d) → PyData.showableAll l = true ∧ rzAll l ≤ (k + 2) * l.length ∧ PyData.depthAll l ≤ j
  | [], _ => by simp [PyData.showableAll, rzAll, PyData.depthAll]
  | d :: l, h => by
    obtain ⟨h1, h2, h3⟩ := Gv.all (l := l) fun e he => h e (List.mem_cons_of_mem _ he)
    obtain ⟨g1, g2, g3⟩ := h d List.mem_cons_self
    refine ⟨by simp [PyData.showableAll, g1, h1], ?_, ?_⟩
    · rw [rzAll, List.length_cons, Nat.mul_succ]; omega
    · rw [PyData.depthAll]; omega
theorem Gv.tup {k j n : Nat} {l : List D} (h : ∀ d ∈ l, Gv k j d) (hl : l.length ≤ n) : Gv ((k + 2) * n + 10) (j + 1) (.tuple l) := by
  obtain ⟨h1, h2, h3⟩ := Gv.all h
  have : (k + 2) * l.length ≤ (k + 2) * n := Nat.mul_le_mul_left _ hl
  exact ⟨by simp [PyData.showable, h1], by simp only [rz]; omega, by simp only [PyData.depth]; omega⟩
theorem Gv.lst {k j n : Nat} {l : List D} (h : ∀ d ∈ l, Gv k j d) (hl : l.length ≤ n) : Gv ((k + 2) * n + 10) (j + 1) (.list l) := by
  obtain ⟨h1, h2, h3⟩ := Gv.all h
  have : (k + 2) * l.length ≤ (k + 2) * n := Nat.mul_le_mul_left _ hl
  exact ⟨by simp [PyData.showable, h1], by simp only [rz]; omega, by simp only [PyData.depth]; omega⟩
theorem Gv.rats {k : Nat} {rs : List Rat} (b : ∀ r ∈ rs, BR k r) (l : rs.length ≤ 12) (hk : k ≤ 1920 := by decide) : Gv 60000 3 (.tuple (rs.map rd)) := by
  have := Gv.tup (k := 4014) (j := 2) (n := 12) (l := rs.map rd) (fun d hd => by obtain ⟨r, hr, rfl⟩ := List.mem_map.mp hd; exact Gv.rat (b r hr) hk) (by simpa using l)
  exact this.mono
end DL

set_option Elab.async false
set_option linter.all false
set_option maxRecDepth 100000
namespace DL
open PySem PySem.Spec PyProof.Rows L2
/-! ### changes of sign -/
def ch (s : Int) : List Int → Nat
  | [] => 0
  | x :: xs => if x = 0 then ch s xs else (if s ≠ 0 ∧ x.sign ≠ s then 1 else 0) + ch x.sign xs
def adj : List Int → Nat
  | a :: b :: r => (if a ≠ b then 1 else 0) + adj (b :: r)
  | _ => 0
def nzs (l : List Int) : List Int := (l.filter fun x => decide (x ≠ 0)).map Int.sign
theorem sign_nz {x : Int} (h : x ≠ 0) : x.sign ≠ 0 := fun z => h (Int.sign_eq_zero_iff_zero.mp z)
theorem adj_ch : ∀ (l : List Int) (s : Int), s ≠ 0 → adj (s :: nzs l) = ch s l
  | [], s, _ => rfl
  | x :: xs, s, hs => by
    unfold ch
    by_cases h : x = 0
    · rw [if_pos h, ← adj_ch xs s hs]
      unfold nzs
      rw [List.filter_cons_of_neg (by simp [h])]
    · rw [if_neg h, ← adj_ch xs x.sign (sign_nz h)]
      unfold nzs
      rw [List.filter_cons_of_pos (by simp [h]), List.map_cons, adj]
      congr 1
      by_cases e : s = x.sign
      · rw [if_neg (by simp [e]), if_neg (by simp [e])]
      · rw [if_pos e, if_pos ⟨hs, Ne.symm e⟩]
theorem adj_ch0 : ∀ (l : List Int), adj (nzs l) = ch 0 l
  | [] => rfl
  | x :: xs => by
    unfold ch
    by_cases h : x = 0
    · rw [if_pos h, ← adj_ch0 xs]
      unfold nzs
      rw [List.filter_cons_of_neg (by simp [h])]
    · rw [if_neg h, ← adj_ch xs x.sign (sign_nz h)]
      unfold nzs
      rw [List.filter_cons_of_pos (by simp [h]), List.map_cons]
      simp
theorem adj_map {f : Int → Int} : ∀ {l : List Int}, (∀ a ∈ l, ∀ b ∈ l, f a = f b → a = b) → adj (l.map f) = adj l
  | [], _ => rfl
  | [a], _ => rfl
  | a :: b :: r, h => by
    rw [List.map_cons, List.map_cons, adj, adj, ← List.map_cons, adj_map fun x hx y hy => h x (List.mem_cons_of_mem _ hx) y (List.mem_cons_of_mem _ hy)]
    congr 1
    by_cases e : a = b
    · simp [e]
    · rw [if_pos e, if_pos fun z => e (h a (by simp) b (by simp) z)]
theorem adj_le : ∀ l : List Int, adj l ≤ l.length - 1
  | [] => by simp [adj]
  | [a] => by simp [adj]
  | a :: b :: r => by
    have := adj_le (b :: r)
    rw [adj]
    simp only [List.length_cons] at this ⊢
    split <;> omega
theorem adj_zip : ∀ l : List Int, ((l.zip (l.drop 1)).filter fun p => decide (p.1 ≠ p.2)).length = adj l
  | [] => rfl
  | [a] => rfl
  | a :: b :: r => by
    have := adj_zip (b :: r)
    rw [adj, ← this]
    simp only [List.drop_succ_cons, List.drop_zero, List.zip_cons_cons]
    by_cases e : a = b
    · rw [List.filter_cons_of_neg (by simp [e])]; simp [e]
    · rw [List.filter_cons_of_pos (by simp [e])]; simp [e]; omega
def cfL (l : List Int) (i : Nat) : Int := l.getD i 0
theorem adj_rng : ∀ l : List Int, ((List.range (l.length - 1)).filter fun j => decide (cfL l (j + 1) ≠ cfL l j)).length = adj l
  | [] => rfl
  | [a] => rfl
  | a :: b :: r => by
    have := adj_rng (b :: r)
    rw [adj, ← this]
    rw [show (a :: b :: r).length - 1 = ((b :: r).length - 1) + 1 by simp, List.range_succ_eq_map, List.filter_cons, List.filter_map]
    have e : (fun j => decide (cfL (b :: r) (j + 1) ≠ cfL (b :: r) j)) = (fun j => decide (cfL (a :: b :: r) (j + 1) ≠ cfL (a :: b :: r) j)) ∘ Nat.succ := by
      funext j; rfl
    rw [← e]
    have e0 : cfL (a :: b :: r) (0 + 1) = b := rfl
    have e1 : cfL (a :: b :: r) 0 = a := rfl
    rw [e0, e1]
    by_cases h : a = b
    · simp [h]
    · rw [if_pos (by simp [Ne.symm h]), if_pos h]
      simp; omega
/-- how often signs change -/
def chg (l : List Int) : Nat := ch 0 l
theorem nzs_len (l : List Int) : (nzs l).length ≤ l.length := by
  unfold nzs
  rw [List.length_map]
  exact List.length_filter_le _ _
theorem chg_le (l : List Int) : chg l ≤ l.length - 1 := by
  unfold chg
  rw [← adj_ch0]
  have := adj_le (nzs l)
  have := nzs_len l
  omega
/-! ### times p + q x -/
def goM (p q : Int) (prev : Int) : List Int → List Int
  | [] => [q * prev]
  | x :: xs => (p * x + q * prev) :: goM p q x xs
def dlt (s t : Int) : Nat := if s = 0 ∨ s = t then 0 else 1
theorem sg_cases (x : Int) : (x = 0 ∧ x.sign = 0) ∨ (0 < x ∧ x.sign = 1) ∨ (x < 0 ∧ x.sign = -1) := by
  rcases Int.lt_trichotomy x 0 with h | h | h
  · exact .inr (.inr ⟨h, Int.sign_eq_neg_one_of_neg h⟩)
  · exact .inl ⟨h, by rw [h]; rfl⟩
  · exact .inr (.inl ⟨h, Int.sign_eq_one_of_pos h⟩)
theorem mul_sg {p x : Int} (hp : 0 ≤ p) : (0 ≤ x → 0 ≤ p * x) ∧ (x ≤ 0 → p * x ≤ 0) := ⟨fun h => Int.mul_nonneg hp h, fun h => Int.mul_nonpos_of_nonneg_of_nonpos hp h⟩
theorem mul_sgp {q x : Int} (hq : 0 < q) : (0 < x → 0 < q * x) ∧ (x < 0 → q * x < 0) := ⟨fun h => Int.mul_pos hq h, fun h => Int.mul_neg_of_pos_of_neg hq h⟩
theorem ch_cons (s x : Int) (xs : List Int) : ch s (x :: xs) = if x = 0 then ch s xs else (if s ≠ 0 ∧ x.sign ≠ s then 1 else 0) + ch x.sign xs := rfl
theorem goM_ch {p q : Int} (hp : 0 ≤ p) (hq : 0 < q) : ∀ (rest : List Int) (s t prev : Int), (s = 0 ∨ s = 1 ∨ s = -1) → (t = 0 ∨ t = 1 ∨ t = -1) → (prev ≠ 0 → prev.sign = t) → (t = 0 → s = 0) →
    ch s (goM p q prev rest) ≤ ch t rest + dlt s t
  | [], s, t, prev, hs, ht, hpr, h0 => by
    have m := mul_sgp (x := prev) hq
    unfold goM
    rw [ch_cons]
    simp only [ch]
    rcases sg_cases prev with ⟨a, b⟩ | ⟨a, b⟩ | ⟨a, b⟩
    · subst a; simp
    · have := hpr (by omega)
      have e := m.1 a
      have e2 : (q * prev).sign = 1 := Int.sign_eq_one_of_pos e
      rw [if_neg (by omega), e2]
      unfold dlt
      rw [b] at this
      subst this
      rcases hs with rfl | rfl | rfl <;> simp
    · have := hpr (by omega)
      have e := m.2 a
      have e2 : (q * prev).sign = -1 := Int.sign_eq_neg_one_of_neg e
      rw [if_neg (by omega), e2]
      unfold dlt
      rw [b] at this
      subst this
      rcases hs with rfl | rfl | rfl <;> simp
  | x :: xs, s, t, prev, hs, ht, hpr, h0 => by
    have ih := goM_ch hp hq xs
    have m := mul_sgp (x := prev) hq
    have n := mul_sg (p := p) (x := x) hp
    have z0 : prev = 0 → q * prev = 0 := fun z => by rw [z, Int.mul_zero]
    have zx : x = 0 → p * x = 0 := fun z => by rw [z, Int.mul_zero]
    unfold goM
    rw [ch_cons, ch_cons]
    generalize q * prev = b at *
    generalize p * x = a at *
    have k := ih (if a + b = 0 then s else (a + b).sign) (if x = 0 then t else x.sign) x ?_ ?_ ?_ ?_
    · clear ih
      have hb : prev = 0 ∨ (prev ≠ 0 ∧ prev.sign = t) := by
        by_cases z : prev = 0
        · exact .inl z
        · exact .inr ⟨z, hpr z⟩
      generalize goM p q x xs = G at *
      clear hpr
      unfold dlt at *
      rcases sg_cases x with ⟨x1, x2⟩ | ⟨x1, x2⟩ | ⟨x1, x2⟩ <;> rcases sg_cases (a + b) with ⟨o1, o2⟩ | ⟨o1, o2⟩ | ⟨o1, o2⟩ <;> rcases sg_cases prev with ⟨p1, p2⟩ | ⟨p1, p2⟩ | ⟨p1, p2⟩ <;> rw [x2] at k ⊢ <;> rw [o2] at k ⊢ <;> rw [p2] at hb <;>
        first
        | (rw [if_pos x1, if_pos o1] at k; rw [if_pos x1, if_pos o1]; rcases hs with rfl | rfl | rfl <;> rcases ht with rfl | rfl | rfl <;> simp at * <;> omega)
        | (rw [if_pos x1, if_neg (by omega)] at k; rw [if_pos x1, if_neg (by omega)]; rcases hs with rfl | rfl | rfl <;> rcases ht with rfl | rfl | rfl <;> simp at * <;> omega)
        | (rw [if_neg (show ¬ x = 0 by omega), if_pos o1] at k; rw [if_neg (show ¬ x = 0 by omega), if_pos o1]; rcases hs with rfl | rfl | rfl <;> rcases ht with rfl | rfl | rfl <;> simp at * <;> omega)
        | (rw [if_neg (show ¬ x = 0 by omega), if_neg (show ¬ a + b = 0 by omega)] at k; rw [if_neg (show ¬ x = 0 by omega), if_neg (show ¬ a + b = 0 by omega)]; rcases hs with rfl | rfl | rfl <;> rcases ht with rfl | rfl | rfl <;> simp at * <;> omega)
    · split
      · exact hs
      · rcases sg_cases (a + b) with ⟨_, h⟩ | ⟨_, h⟩ | ⟨_, h⟩ <;> rw [h] <;> simp
    · split
      · exact ht
      · rcases sg_cases x with ⟨_, h⟩ | ⟨_, h⟩ | ⟨_, h⟩ <;> rw [h] <;> simp
    · intro h; rw [if_neg h]
    · intro h
      by_cases hx : x = 0
      · rw [if_pos hx] at h
        have hp0 : prev = 0 := by
          refine Classical.byContradiction fun z => ?_
          have := hpr z
          exact sign_nz z (this.trans h)
        rw [if_pos (by rw [zx hx, z0 hp0]; rfl)]
        exact h0 h
      · rw [if_neg hx] at h
        exact absurd h (sign_nz hx)
/-! ### less the next one: times 1 - x -/
def goD (prev : Int) : List Int → List Int
  | [] => [-prev]
  | x :: xs => (x - prev) :: goD x xs
theorem goD_ch : ∀ (rest : List Int) (s t prev : Int), (t = 1 ∨ t = -1) → (s = t ∨ s = -t) → (prev = 0 → s = -t) → (prev ≠ 0 → prev.sign = t) →
    ch t rest + (if s = t then 1 else 0) ≤ ch s (goD prev rest)
  | [], s, t, prev, ht, hs, h0, hp => by
    unfold goD
    rw [ch_cons]
    simp only [ch]
    rcases sg_cases prev with ⟨a, b⟩ | ⟨a, b⟩ | ⟨a, b⟩
    · have := h0 a
      subst this
      rw [if_pos (show -prev = 0 by omega)]
      rcases ht with rfl | rfl <;> simp
    · have e := hp (by omega)
      rw [b] at e
      subst e
      rw [if_neg (show ¬ -prev = 0 by omega), Int.sign_eq_neg_one_of_neg (show -prev < 0 by omega)]
      rcases hs with rfl | rfl <;> simp
    · have e := hp (by omega)
      rw [b] at e
      subst e
      rw [if_neg (show ¬ -prev = 0 by omega), Int.sign_eq_one_of_pos (show 0 < -prev by omega)]
      rcases hs with rfl | rfl <;> simp
  | x :: xs, s, t, prev, ht, hs, h0, hp => by
    have ih := goD_ch xs
    unfold goD
    rw [ch_cons, ch_cons]
    have key : ∀ u v : Int, (v = 1 ∨ v = -1) → (u = v ∨ u = -v) → (x = 0 → u = -v) → (x ≠ 0 → x.sign = v) → ch v xs + (if u = v then 1 else 0) ≤ ch u (goD x xs) := fun u v => ih u v x
    clear ih
    generalize goD x xs = G at *
    have k1 := key (if x - prev = 0 then s else (x - prev).sign) (if x = 0 then t else x.sign)
    clear key
    rcases sg_cases x with ⟨x1, x2⟩ | ⟨x1, x2⟩ | ⟨x1, x2⟩ <;> rcases sg_cases (x - prev) with ⟨o1, o2⟩ | ⟨o1, o2⟩ | ⟨o1, o2⟩ <;> rcases sg_cases prev with ⟨p1, p2⟩ | ⟨p1, p2⟩ | ⟨p1, p2⟩ <;> rw [x2] at k1 ⊢ <;> rw [o2] at k1 ⊢ <;> rw [p2] at hp <;>
      first
      | (exfalso; omega)
      | (rw [if_pos x1, if_pos o1] at k1; rw [if_pos x1, if_pos o1]; rcases ht with rfl | rfl <;> rcases hs with rfl | rfl <;> simp [x1, p1] at * <;> omega)
      | (have w : ¬ x - prev = 0 := by omega
         rw [if_pos x1, if_neg w] at k1; rw [if_pos x1, if_neg w]; rcases ht with rfl | rfl <;> rcases hs with rfl | rfl <;> simp [x1] at * <;> omega)
      | (have z : ¬ x = 0 := by omega
         rw [if_neg z, if_pos o1] at k1; rw [if_neg z, if_pos o1]; rcases ht with rfl | rfl <;> rcases hs with rfl | rfl <;> simp [z] at * <;> omega)
      | (have z : ¬ x = 0 := by omega
         have w : ¬ x - prev = 0 := by omega
         rw [if_neg z, if_neg w] at k1; rw [if_neg z, if_neg w]; rcases ht with rfl | rfl <;> rcases hs with rfl | rfl <;> simp [z] at * <;> omega)
theorem goD_chg : ∀ (f : List Int), (∃ x ∈ f, x ≠ 0) → ch 0 f + 1 ≤ ch 0 (goD 0 f)
  | [], h => by obtain ⟨x, hx, _⟩ := h; cases hx
  | x :: xs, h => by
    unfold goD
    rw [ch_cons, ch_cons, Int.sub_zero]
    by_cases hx : x = 0
    · subst hx
      rw [if_pos rfl, if_pos rfl]
      refine goD_chg xs ?_
      obtain ⟨y, hy, hn⟩ := h
      rcases List.mem_cons.mp hy with z | z
      · exact absurd z hn
      · exact ⟨y, z, hn⟩
    · rw [if_neg hx, if_neg hx, if_neg (by simp)]
      have t1 : x.sign = 1 ∨ x.sign = -1 := by rcases sg_cases x with ⟨a, b⟩ | ⟨a, b⟩ | ⟨a, b⟩ <;> simp_all
      have := goD_ch xs x.sign x.sign x t1 (.inl rfl) (fun z => absurd z hx) (fun _ => rfl)
      rw [if_pos rfl] at this
      omega
/-- r times -/
def difr (f : List Int) : Nat → List Int
  | 0 => f
  | r + 1 => goD 0 (difr f r)
theorem ch_pos {s : Int} : ∀ {l : List Int}, 0 < ch s l → ∃ x ∈ l, x ≠ 0
  | [], h => by simp [ch] at h
  | x :: xs, h => by
    by_cases hx : x = 0
    · rw [ch_cons, if_pos hx] at h
      obtain ⟨y, hy, hn⟩ := ch_pos h
      exact ⟨y, List.mem_cons_of_mem _ hy, hn⟩
    · exact ⟨x, List.mem_cons_self, hx⟩
theorem difr_nz {f : List Int} (h : ∃ x ∈ f, x ≠ 0) : ∀ r, (∃ x ∈ difr f r, x ≠ 0) ∧ r ≤ chg (difr f r)
  | 0 => ⟨h, Nat.zero_le _⟩
  | r + 1 => by
    obtain ⟨a, b⟩ := difr_nz h r
    have c := goD_chg _ a
    unfold chg at *
    exact ⟨ch_pos (s := 0) (show 0 < ch 0 (goD 0 (difr f r)) by omega), by show r + 1 ≤ ch 0 (goD 0 (difr f r)); omega⟩
theorem goD_len : ∀ (l : List Int) (a : Int), (goD a l).length = l.length + 1
  | [], _ => rfl
  | x :: xs, _ => by rw [goD, List.length_cons, goD_len, List.length_cons]
theorem goM_len {p q : Int} : ∀ (l : List Int) (a : Int), (goM p q a l).length = l.length + 1
  | [], _ => rfl
  | x :: xs, _ => by rw [goM, List.length_cons, goM_len, List.length_cons]
theorem difr_len (f : List Int) : ∀ r, (difr f r).length = f.length + r
  | 0 => rfl
  | r + 1 => by rw [difr, goD_len, difr_len f r]; omega
theorem goD_goM {p q : Int} : ∀ (f : List Int) (d e : Int), goD (p * d + q * e) (goM p q d f) = goM p q (d - e) (goD d f)
  | [], d, e => by
    simp only [goM, goD]
    congr 1
    · grind
    · congr 1; grind
  | x :: xs, d, e => by
    simp only [goM, goD]
    rw [goD_goM xs x d]
    congr 1
    grind
theorem difr_goM {p q : Int} (f : List Int) : ∀ r, difr (goM p q 0 f) r = goM p q 0 (difr f r)
  | 0 => rfl
  | r + 1 => by
    rw [difr, difr, difr_goM f r]
    have := goD_goM (p := p) (q := q) (difr f r) 0 0
    simpa using this
/-- lined ones with no number below nought -/
def linP (c : Int) : List (Int × Int) → List Int
  | [] => [c]
  | (p, q) :: r => goM p q 0 (linP c r)
theorem linP_chg {c : Int} {r : Nat} : ∀ {ps : List (Int × Int)}, (∀ x ∈ ps, 0 ≤ x.1 ∧ 0 < x.2) → chg (difr (linP c ps) r) ≤ r
  | [], _ => by
    have := chg_le (difr [c] r)
    rw [difr_len] at this
    simpa [linP] using this
  | (p, q) :: ps, h => by
    have ih := linP_chg (c := c) (r := r) fun x hx => h x (List.mem_cons_of_mem _ hx)
    obtain ⟨hp, hq⟩ := h (p, q) List.mem_cons_self
    rw [linP, difr_goM]
    have := goM_ch hp hq (difr (linP c ps) r) 0 0 0 (.inl rfl) (.inl rfl) (fun z => absurd rfl z) (fun _ => rfl)
    unfold dlt at this
    unfold chg at *
    simp at this
    omega
theorem goM_top {p q : Int} : ∀ (f : List Int) (a : Int), f ≠ [] → (goM p q a f).getLast? = f.getLast?.map (q * ·)
  | [x], a, _ => by simp [goM]
  | x :: y :: r, a, _ => by
    have := goM_top (p := p) (q := q) (y :: r) x (by simp)
    rw [goM, List.getLast?_cons_cons]
    rw [goM] at this ⊢
    rw [List.getLast?_cons_cons]
    exact this
theorem goD_zip : ∀ (l : List Int) (a : Int), ((l ++ [0]).zip (a :: l)).map (fun (p : Int × Int) => p.1 - p.2) = goD a l
  | [], a => by simp [goD]
  | x :: xs, a => by
    rw [goD, ← goD_zip xs x]
    simp
theorem cfL_nil (i : Nat) : cfL [] i = 0 := rfl
theorem cfL_0 (x : Int) (xs : List Int) : cfL (x :: xs) 0 = x := rfl
theorem cfL_s (x : Int) (xs : List Int) (i : Nat) : cfL (x :: xs) (i + 1) = cfL xs i := rfl
theorem cfI_L (l : List Int) (i : Int) : cfI l i = if 0 ≤ i then cfL l i.toNat else 0 := rfl
theorem goD_cf : ∀ (l : List Int) (a : Int) (i : Nat), cfL (goD a l) i = cfL l i - (match i with | 0 => a | j + 1 => cfL l j)
  | [], a, 0 => by rw [goD, cfL_0, cfL_nil]; show -a = 0 - a; omega
  | [], a, i + 1 => by rw [goD, cfL_s, cfL_nil]; rfl
  | x :: xs, a, 0 => by rw [goD, cfL_0, cfL_0]
  | x :: xs, a, i + 1 => by
    rw [goD, cfL_s, goD_cf xs x i, cfL_s]
    cases i <;> rfl
theorem goM_cf {p q : Int} : ∀ (l : List Int) (a : Int) (i : Nat), cfL (goM p q a l) i = p * cfL l i + q * (match i with | 0 => a | j + 1 => cfL l j)
  | [], a, 0 => by rw [goM, cfL_0, cfL_nil]; show q * a = p * 0 + q * a; omega
  | [], a, i + 1 => by rw [goM, cfL_s, cfL_nil, cfL_nil]; simp [cfL_nil]
  | x :: xs, a, 0 => by rw [goM, cfL_0, cfL_0]
  | x :: xs, a, i + 1 => by
    rw [goM, cfL_s, goM_cf xs x i, cfL_s]
    cases i <;> rfl
theorem goD_cfI (l : List Int) (k : Int) : cfI (goD 0 l) k = cfI l k - cfI l (k - 1) := by
  rw [cfI_L, cfI_L, cfI_L]
  by_cases h : 0 ≤ k
  · rw [if_pos h, if_pos h, goD_cf]
    obtain ⟨n, rfl⟩ := Int.eq_ofNat_of_zero_le h
    cases n with
    | zero => rw [if_neg (by omega)]; rfl
    | succ n =>
      rw [if_pos (by omega), show (((n + 1 : Nat) : Int)).toNat = n + 1 from rfl, show (((n + 1 : Nat) : Int) - 1).toNat = n by omega]
  · rw [if_neg h, if_neg h, if_neg (by omega)]; rfl
theorem goM_cfI {p q : Int} (l : List Int) (k : Int) : cfI (goM p q 0 l) k = p * cfI l k + q * cfI l (k - 1) := by
  rw [cfI_L, cfI_L, cfI_L]
  by_cases h : 0 ≤ k
  · rw [if_pos h, if_pos h, goM_cf]
    obtain ⟨n, rfl⟩ := Int.eq_ofNat_of_zero_le h
    cases n with
    | zero => rw [if_neg (by omega)]; rfl
    | succ n =>
      rw [if_pos (by omega), show (((n + 1 : Nat) : Int)).toNat = n + 1 from rfl, show (((n + 1 : Nat) : Int) - 1).toNat = n by omega]
  · rw [if_neg h, if_neg h, if_neg (by omega)]; simp
theorem cf_ext {l m : List Int} (h : l.length = m.length) (e : ∀ i : Nat, i < l.length → cfL l i = cfL m i) : l = m := by
  refine List.ext_getElem h fun i h1 h2 => ?_
  have := e i h1
  unfold cfL at this
  rw [List.getD_eq_getElem?_getD, List.getD_eq_getElem?_getD, List.getElem?_eq_getElem h1, List.getElem?_eq_getElem h2] at this
  exact this
/-- the choices as the law reckons them -/
def cho (a : Int) : Nat → Int
  | 0 => 1
  | i + 1 => (cho a i * (a - i)).fdiv (i + 1)
/-- the law's partial sum -/
def psm (f : List Int) (r : Int) (k : Int) : Nat → Int
  | 0 => 0
  | j + 1 => psm f r k j + (1 - 2 * ((j : Int) % 2)) * cho r j * cfI f (k - j)
theorem difr_psm (f : List Int) (k : Int) {r : Nat} (h : r ≤ 6) : cfI (difr f r) k = psm f r k (r + 1) := by
  have e : ∀ (r : Nat) (k : Int), cfI (difr f (r + 1)) k = cfI (difr f r) k - cfI (difr f r) (k - 1) := fun r k => goD_cfI (difr f r) k
  have e0 : ∀ k : Int, cfI (difr f 0) k = cfI f k := fun k => rfl
  have e1 : ∀ k : Int, cfI (difr f 1) k = cfI f k - cfI f (k - 1) := fun k => by rw [e, e0, e0]
  have e2 : ∀ k : Int, cfI (difr f 2) k = cfI f k - 2 * cfI f (k - 1) + cfI f (k - 2) := fun k => by
    rw [e, e1, e1, show k - 1 - 1 = k - 2 by omega]; omega
  have e3 : ∀ k : Int, cfI (difr f 3) k = cfI f k - 3 * cfI f (k - 1) + 3 * cfI f (k - 2) - cfI f (k - 3) := fun k => by
    rw [e, e2, e2, show k - 1 - 1 = k - 2 by omega, show k - 1 - 2 = k - 3 by omega]; omega
  have e4 : ∀ k : Int, cfI (difr f 4) k = cfI f k - 4 * cfI f (k - 1) + 6 * cfI f (k - 2) - 4 * cfI f (k - 3) + cfI f (k - 4) := fun k => by
    rw [e, e3, e3, show k - 1 - 1 = k - 2 by omega, show k - 1 - 2 = k - 3 by omega, show k - 1 - 3 = k - 4 by omega]; omega
  have e5 : ∀ k : Int, cfI (difr f 5) k = cfI f k - 5 * cfI f (k - 1) + 10 * cfI f (k - 2) - 10 * cfI f (k - 3) + 5 * cfI f (k - 4) - cfI f (k - 5) := fun k => by
    rw [e, e4, e4, show k - 1 - 1 = k - 2 by omega, show k - 1 - 2 = k - 3 by omega, show k - 1 - 3 = k - 4 by omega, show k - 1 - 4 = k - 5 by omega]; omega
  have e6 : ∀ k : Int, cfI (difr f 6) k = cfI f k - 6 * cfI f (k - 1) + 15 * cfI f (k - 2) - 20 * cfI f (k - 3) + 15 * cfI f (k - 4) - 6 * cfI f (k - 5) + cfI f (k - 6) := fun k => by
    rw [e, e5, e5, show k - 1 - 1 = k - 2 by omega, show k - 1 - 2 = k - 3 by omega, show k - 1 - 3 = k - 4 by omega, show k - 1 - 4 = k - 5 by omega, show k - 1 - 5 = k - 6 by omega]; omega
  have p : ∀ (r : Int) (j : Nat) (m c : Int), (j : Int) = m → (1 - 2 * ((j : Int) % 2)) * cho r j = c → psm f r k (j + 1) = psm f r k j + c * cfI f (k - m) := fun r j m c e h => by rw [psm, h, e]
  have z : ∀ r : Int, psm f r k 0 = 0 := fun r => rfl
  have s0 : (k - 0) = k := by omega
  rcases (show r = 0 ∨ r = 1 ∨ r = 2 ∨ r = 3 ∨ r = 4 ∨ r = 5 ∨ r = 6 by omega) with rfl | rfl | rfl | rfl | rfl | rfl | rfl
  · rw [e0, p _ 0 0 1 rfl (by decide), z, s0]; omega
  · rw [e1, p _ 1 1 (-1) rfl (by decide), p _ 0 0 1 rfl (by decide), z, s0]; omega
  · rw [e2, p _ 2 2 1 rfl (by decide), p _ 1 1 (-2) rfl (by decide), p _ 0 0 1 rfl (by decide), z, s0]; omega
  · rw [e3, p _ 3 3 (-1) rfl (by decide), p _ 2 2 3 rfl (by decide), p _ 1 1 (-3) rfl (by decide), p _ 0 0 1 rfl (by decide), z, s0]; omega
  · rw [e4, p _ 4 4 1 rfl (by decide), p _ 3 3 (-4) rfl (by decide), p _ 2 2 6 rfl (by decide), p _ 1 1 (-4) rfl (by decide), p _ 0 0 1 rfl (by decide), z, s0]; omega
  · rw [e5, p _ 5 5 (-1) rfl (by decide), p _ 4 4 5 rfl (by decide), p _ 3 3 (-10) rfl (by decide), p _ 2 2 10 rfl (by decide), p _ 1 1 (-5) rfl (by decide), p _ 0 0 1 rfl (by decide), z, s0]; omega
  · rw [e6, p _ 6 6 1 rfl (by decide), p _ 5 5 (-6) rfl (by decide), p _ 4 4 15 rfl (by decide), p _ 3 3 (-20) rfl (by decide), p _ 2 2 15 rfl (by decide), p _ 1 1 (-6) rfl (by decide), p _ 0 0 1 rfl (by decide), z, s0]; omega
/-- the product of two rows -/
def pcv (a b : List Int) (k : Int) : Nat → Int
  | 0 => 0
  | i + 1 => pcv a b k i + cfI a i * cfI b (k - i)
def conv (a b : List Int) : List Int := (List.range (a.length + b.length - 1)).map fun (k : Nat) => pcv a b k a.length
theorem pcv_lin (f : List Int) (p q k : Int) : ∀ i : Nat, pcv f [p, q] k i = (if k < i then p * cfI f k else 0) + (if k - 1 < i then q * cfI f (k - 1) else 0)
  | 0 => by
    rw [pcv]
    by_cases h : k < 0
    · rw [if_pos (by omega), if_pos (by omega), cfI_neg h, cfI_neg (by omega)]; simp
    · rw [if_neg (by omega)]
      by_cases h2 : k = 0
      · subst h2; rw [if_pos (by omega), cfI_neg (by omega)]; simp
      · rw [if_neg (by omega)]; rfl
  | i + 1 => by
    rw [pcv, pcv_lin f p q k i]
    have c0 : cfI [p, q] 0 = p := rfl
    have c1 : cfI [p, q] 1 = q := rfl
    by_cases h1 : k = i
    · subst h1
      rw [Int.sub_self, c0, if_neg (by omega), if_pos (by omega), if_pos (by omega), if_pos (by omega), Int.mul_comm (cfI f i) p]; omega
    · by_cases h2 : k = i + 1
      · have : k - 1 = i := by omega
        rw [show k - i = 1 by omega, c1, if_neg (by omega), if_neg (by omega), if_neg (by omega), if_pos (by omega), this, Int.mul_comm (cfI f i) q]; omega
      · have z : cfI [p, q] (k - i) = 0 := by
          by_cases h3 : k < i
          · exact cfI_neg (by omega)
          · exact cfI_out (by simp; omega)
        rw [z, Int.mul_zero]
        by_cases h3 : k < i
        · rw [if_pos (by omega), if_pos (by omega), if_pos (by omega), if_pos (by omega)]; omega
        · rw [if_neg (by omega), if_neg (by omega), if_neg (by omega), if_neg (by omega)]; rfl
theorem conv_lin {f : List Int} (h : f ≠ []) (p q : Int) : conv f [p, q] = goM p q 0 f := by
  have l : (conv f [p, q]).length = f.length + 1 := by unfold conv; simp
  refine cf_ext (by rw [l, goM_len]) fun i hi => ?_
  rw [l] at hi
  have e1 : cfL (conv f [p, q]) i = pcv f [p, q] i f.length := by
    unfold cfL conv
    rw [List.getD_eq_getElem?_getD, List.getElem?_map, List.getElem?_range (by simp; omega)] <;> rfl
  have e2 : cfL (goM p q 0 f) i = cfI (goM p q 0 f) i := by rw [cfI_L, if_pos (by omega)]; rfl
  rw [e1, e2, goM_cfI, pcv_lin]
  rw [if_pos (show (i : Int) - 1 < f.length by omega)]
  by_cases h3 : (i : Int) < f.length
  · rw [if_pos h3]
  · rw [if_neg h3, cfI_out (F := f) (i := (i : Int)) (by omega)]; simp
end DL

set_option Elab.async false
set_option linter.all false
set_option maxRecDepth 100000
namespace DL
open PySem PySem.Spec PyProof.Rows L2
/-! ### determinants of one, two, three -/
def det2 (a b c d : Int) : Int := a * d - b * c
def det3 (a b c d e f g h i : Int) : Int := a * (e * i - f * h) - b * (d * i - f * g) + c * (d * h - e * g)
/-- sums -/
def sm (F : Nat → Int) : Nat → Int
  | 0 => 0
  | n + 1 => sm F n + F n
theorem sm_add (F G : Nat → Int) : ∀ n, sm (fun m => F m + G m) n = sm F n + sm G n
  | 0 => rfl
  | n + 1 => by rw [sm, sm, sm, sm_add F G n]; omega
theorem sm_mul (c : Int) (F : Nat → Int) : ∀ n, sm (fun m => c * F m) n = c * sm F n
  | 0 => by simp [sm]
  | n + 1 => by rw [sm, sm, sm_mul c F n, Int.mul_add]
theorem sm_congr {F G : Nat → Int} : ∀ n, (∀ m, m < n → F m = G m) → sm F n = sm G n
  | 0, _ => rfl
  | n + 1, h => by rw [sm, sm, sm_congr n fun m hm => h m (by omega), h n (by omega)]
/-- pairs and triples below n -/
def sm2 (F : Nat → Nat → Int) : Nat → Int
  | 0 => 0
  | n + 1 => sm2 F n + sm (fun m => F m n) n
def sm3 (F : Nat → Nat → Nat → Int) : Nat → Int
  | 0 => 0
  | n + 1 => sm3 F n + sm2 (fun m l => F m l n) n
theorem sm2_add (F G : Nat → Nat → Int) : ∀ n, sm2 (fun m l => F m l + G m l) n = sm2 F n + sm2 G n
  | 0 => rfl
  | n + 1 => by rw [sm2, sm2, sm2, sm2_add F G n, sm_add]; omega
theorem sm2_mul (c : Int) (F : Nat → Nat → Int) : ∀ n, sm2 (fun m l => c * F m l) n = c * sm2 F n
  | 0 => by simp [sm2]
  | n + 1 => by rw [sm2, sm2, sm2_mul c F n, sm_mul, Int.mul_add]
theorem sm2_congr {F G : Nat → Nat → Int} : ∀ n, (∀ m l, m < l → l < n → F m l = G m l) → sm2 F n = sm2 G n
  | 0, _ => rfl
  | n + 1, h => by rw [sm2, sm2, sm2_congr n fun m l a b => h m l a (by omega), sm_congr n fun m hm => h m n hm (by omega)]
theorem cb2 (a1 a2 b1 b2 : Nat → Int) : ∀ n, sm2 (fun m l => det2 (a1 m) (a1 l) (a2 m) (a2 l) * det2 (b1 m) (b2 m) (b1 l) (b2 l)) n =
    det2 (sm (fun m => a1 m * b1 m) n) (sm (fun m => a1 m * b2 m) n) (sm (fun m => a2 m * b1 m) n) (sm (fun m => a2 m * b2 m) n)
  | 0 => by simp [sm2, sm, det2]
  | n + 1 => by
    rw [sm2, cb2 a1 a2 b1 b2 n, sm, sm, sm, sm]
    have e : sm (fun m => det2 (a1 m) (a1 n) (a2 m) (a2 n) * det2 (b1 m) (b2 m) (b1 n) (b2 n)) n = a2 n * b2 n * sm (fun m => a1 m * b1 m) n + -(a2 n * b1 n) * sm (fun m => a1 m * b2 m) n + -(a1 n * b2 n) * sm (fun m => a2 m * b1 m) n + a1 n * b1 n * sm (fun m => a2 m * b2 m) n := by
      rw [← sm_mul, ← sm_mul, ← sm_mul, ← sm_mul, ← sm_add, ← sm_add, ← sm_add]
      apply sm_congr
      intro m _
      unfold det2
      grind
    rw [e]
    unfold det2
    grind
theorem cb3 (a1 a2 a3 b1 b2 b3 : Nat → Int) : ∀ n, sm3 (fun m l k => det3 (a1 m) (a1 l) (a1 k) (a2 m) (a2 l) (a2 k) (a3 m) (a3 l) (a3 k) * det3 (b1 m) (b2 m) (b3 m) (b1 l) (b2 l) (b3 l) (b1 k) (b2 k) (b3 k)) n =
    det3 (sm (fun m => a1 m * b1 m) n) (sm (fun m => a1 m * b2 m) n) (sm (fun m => a1 m * b3 m) n) (sm (fun m => a2 m * b1 m) n) (sm (fun m => a2 m * b2 m) n) (sm (fun m => a2 m * b3 m) n) (sm (fun m => a3 m * b1 m) n) (sm (fun m => a3 m * b2 m) n) (sm (fun m => a3 m * b3 m) n)
  | 0 => by simp [sm3, sm, det3]
  | n + 1 => by
    rw [sm3, cb3 a1 a2 a3 b1 b2 b3 n]
    have c11 := cb2 a2 a3 b2 b3 n
    have c12 := cb2 a2 a3 b1 b3 n
    have c13 := cb2 a2 a3 b1 b2 n
    have c21 := cb2 a1 a3 b2 b3 n
    have c22 := cb2 a1 a3 b1 b3 n
    have c23 := cb2 a1 a3 b1 b2 n
    have c31 := cb2 a1 a2 b2 b3 n
    have c32 := cb2 a1 a2 b1 b3 n
    have c33 := cb2 a1 a2 b1 b2 n
    have e : sm2 (fun m l => det3 (a1 m) (a1 l) (a1 n) (a2 m) (a2 l) (a2 n) (a3 m) (a3 l) (a3 n) * det3 (b1 m) (b2 m) (b3 m) (b1 l) (b2 l) (b3 l) (b1 n) (b2 n) (b3 n)) n =
        a1 n * b1 n * sm2 (fun m l => det2 (a2 m) (a2 l) (a3 m) (a3 l) * det2 (b2 m) (b3 m) (b2 l) (b3 l)) n + -(a1 n * b2 n) * sm2 (fun m l => det2 (a2 m) (a2 l) (a3 m) (a3 l) * det2 (b1 m) (b3 m) (b1 l) (b3 l)) n + a1 n * b3 n * sm2 (fun m l => det2 (a2 m) (a2 l) (a3 m) (a3 l) * det2 (b1 m) (b2 m) (b1 l) (b2 l)) n +
        (-(a2 n * b1 n) * sm2 (fun m l => det2 (a1 m) (a1 l) (a3 m) (a3 l) * det2 (b2 m) (b3 m) (b2 l) (b3 l)) n + a2 n * b2 n * sm2 (fun m l => det2 (a1 m) (a1 l) (a3 m) (a3 l) * det2 (b1 m) (b3 m) (b1 l) (b3 l)) n + -(a2 n * b3 n) * sm2 (fun m l => det2 (a1 m) (a1 l) (a3 m) (a3 l) * det2 (b1 m) (b2 m) (b1 l) (b2 l)) n) +
        (a3 n * b1 n * sm2 (fun m l => det2 (a1 m) (a1 l) (a2 m) (a2 l) * det2 (b2 m) (b3 m) (b2 l) (b3 l)) n + -(a3 n * b2 n) * sm2 (fun m l => det2 (a1 m) (a1 l) (a2 m) (a2 l) * det2 (b1 m) (b3 m) (b1 l) (b3 l)) n + a3 n * b3 n * sm2 (fun m l => det2 (a1 m) (a1 l) (a2 m) (a2 l) * det2 (b1 m) (b2 m) (b1 l) (b2 l)) n) := by
      simp only [← sm2_mul, ← sm2_add]
      apply sm2_congr
      intro m l _ _
      have x1 : det3 (a1 m) (a1 l) (a1 n) (a2 m) (a2 l) (a2 n) (a3 m) (a3 l) (a3 n) = a1 n * det2 (a2 m) (a2 l) (a3 m) (a3 l) - a2 n * det2 (a1 m) (a1 l) (a3 m) (a3 l) + a3 n * det2 (a1 m) (a1 l) (a2 m) (a2 l) := by unfold det3 det2; grind
      have x2 : det3 (b1 m) (b2 m) (b3 m) (b1 l) (b2 l) (b3 l) (b1 n) (b2 n) (b3 n) = b1 n * det2 (b2 m) (b3 m) (b2 l) (b3 l) - b2 n * det2 (b1 m) (b3 m) (b1 l) (b3 l) + b3 n * det2 (b1 m) (b2 m) (b1 l) (b2 l) := by unfold det3 det2; grind
      rw [x1, x2]
      generalize det2 (a2 m) (a2 l) (a3 m) (a3 l) = p1
      generalize det2 (a1 m) (a1 l) (a3 m) (a3 l) = p2
      generalize det2 (a1 m) (a1 l) (a2 m) (a2 l) = p3
      generalize det2 (b2 m) (b3 m) (b2 l) (b3 l) = q1
      generalize det2 (b1 m) (b3 m) (b1 l) (b3 l) = q2
      generalize det2 (b1 m) (b2 m) (b1 l) (b2 l) = q3
      grind
    rw [e, c11, c12, c13, c21, c22, c23, c31, c32, c33]
    simp only [sm]
    generalize sm (fun m => a1 m * b1 m) n = m11
    generalize sm (fun m => a1 m * b2 m) n = m12
    generalize sm (fun m => a1 m * b3 m) n = m13
    generalize sm (fun m => a2 m * b1 m) n = m21
    generalize sm (fun m => a2 m * b2 m) n = m22
    generalize sm (fun m => a2 m * b3 m) n = m23
    generalize sm (fun m => a3 m * b1 m) n = m31
    generalize sm (fun m => a3 m * b2 m) n = m32
    generalize sm (fun m => a3 m * b3 m) n = m33
    generalize a1 n = u1
    generalize a2 n = u2
    generalize a3 n = u3
    generalize b1 n = v1
    generalize b2 n = v2
    generalize b3 n = v3
    unfold det2 det3
    grind
end DL

set_option Elab.async false
set_option linter.all false
set_option maxRecDepth 100000
set_option maxHeartbeats 0
namespace K79
open PySem PySem.Spec PyProof.Rows L2 DL
def top (i : Nat) : Stmt := PySem.Challenge.pw_rootsonaline_k79_whole_minors_from_nough.main.body.getD i (.Pass ⟨0, 0, 0, 0⟩)
/-! what the names of the module stand for -/
structure Fx (mg : Str → Option Value) : Prop where
  len : mg "len" = none
  range : mg "range" = none
  zip : mg "zip" = none
  list : mg "list" = none
  min : mg "min" = none
  tuple : mg "tuple" = none
  enumerate : mg "enumerate" = none
  int : mg "int" = none
  max : mg "max" = none
  sorted : mg "sorted" = none
  repr : mg "repr" = none
  abs : mg "abs" = none
abbrev s_number_at : Stmt := top 1
abbrev N_number_at : List Str := ["f", "k"]
theorem sc_number_at : FnScope N_number_at ["f", "k"] (defScope s_number_at) := ⟨rfl, rfl, rfl, by decide +kernel, rfl, by decide +kernel, by decide +kernel⟩
abbrev s_whole_determinant : Stmt := top 3
abbrev N_whole_determinant : List Str := ["rows", "lines", "sign", "below", "k", "some", "first", "top", "i", "row", "x", "y"]
theorem sc_whole_determinant : FnScope N_whole_determinant ["rows"] (defScope s_whole_determinant) := ⟨rfl, rfl, rfl, by decide +kernel, rfl, by decide +kernel, by decide +kernel⟩
abbrev s_band_member : Stmt := top 5
abbrev N_band_member : List Str := ["f", "i", "j"]
theorem sc_band_member : FnScope N_band_member ["f", "i", "j"] (defScope s_band_member) := ⟨rfl, rfl, rfl, by decide +kernel, rfl, by decide +kernel, by decide +kernel⟩
abbrev s_band_minor : Stmt := top 6
abbrev N_band_minor : List Str := ["f", "lines", "columns", "i", "j"]
theorem sc_band_minor : FnScope N_band_minor ["f", "lines", "columns"] (defScope s_band_minor) := ⟨rfl, rfl, rfl, by decide +kernel, rfl, by decide +kernel, by decide +kernel⟩
abbrev s_band_lots : Stmt := top 7
abbrev N_band_lots : List Str := ["size", "k", "found", "lap", "late", "some", "i"]
theorem sc_band_lots : FnScope N_band_lots ["size", "k"] (defScope s_band_lots) := ⟨rfl, rfl, rfl, by decide +kernel, rfl, by decide +kernel, by decide +kernel⟩
abbrev s_least_minor : Stmt := top 8
abbrev N_least_minor : List Str := ["f", "size", "k", "lots", "found", "lines", "columns"]
theorem sc_least_minor : FnScope N_least_minor ["f", "size", "k"] (defScope s_least_minor) := ⟨rfl, rfl, rfl, by decide +kernel, rfl, by decide +kernel, by decide +kernel⟩
abbrev s_two_lines : Stmt := top 9
abbrev N_two_lines : List Str := ["f", "found", "k", "x", "ahead"]
theorem sc_two_lines : FnScope N_two_lines ["f"] (defScope s_two_lines) := ⟨rfl, rfl, rfl, by decide +kernel, rfl, by decide +kernel, by decide +kernel⟩
abbrev s__law_open_cells : Stmt := top 11
abbrev N__law_open_cells : List Str := ["script", "stirred", "cell", "cells"]
theorem sc__law_open_cells : FnScope N__law_open_cells ["script"] (defScope s__law_open_cells) := ⟨rfl, rfl, rfl, by decide +kernel, rfl, by decide +kernel, by decide +kernel⟩
abbrev s__law_pick : Stmt := top 12
abbrev N__law_pick : List Str := ["source", "most", "cells", "others", "lap", "stirred"]
theorem sc__law_pick : FnScope N__law_pick ["source", "most"] (defScope s__law_pick) := ⟨rfl, rfl, rfl, by decide +kernel, rfl, by decide +kernel, by decide +kernel⟩
abbrev s__law_of : Stmt := top 13
abbrev N__law_of : List Str := ["source", "some"]
theorem sc__law_of : FnScope N__law_of ["source", "some"] (defScope s__law_of) := ⟨rfl, rfl, rfl, by decide +kernel, rfl, by decide +kernel, by decide +kernel⟩
abbrev s__law_lowest : Stmt := top 14
abbrev N__law_lowest : List Str := ["p", "q", "a", "b"]
theorem sc__law_lowest : FnScope N__law_lowest ["p", "q"] (defScope s__law_lowest) := ⟨rfl, rfl, rfl, by decide +kernel, rfl, by decide +kernel, by decide +kernel⟩
abbrev s__law_product : Stmt := top 15
abbrev N__law_product : List Str := ["one", "other", "found", "i", "a", "j", "b"]
theorem sc__law_product : FnScope N__law_product ["one", "other"] (defScope s__law_product) := ⟨rfl, rfl, rfl, by decide +kernel, rfl, by decide +kernel, by decide +kernel⟩
abbrev s__law_lined : Stmt := top 16
abbrev N__law_lined : List Str := ["source", "most", "n", "found", "roots", "lap", "q", "p"]
theorem sc__law_lined : FnScope N__law_lined ["source", "most"] (defScope s__law_lined) := ⟨rfl, rfl, rfl, by decide +kernel, rfl, by decide +kernel, by decide +kernel⟩
abbrev s__law_any : Stmt := top 17
abbrev N__law_any : List Str := ["source", "most", "numbers", "k"]
theorem sc__law_any : FnScope N__law_any ["source", "most"] (defScope s__law_any) := ⟨rfl, rfl, rfl, by decide +kernel, rfl, by decide +kernel, by decide +kernel⟩
abbrev s__law_turns : Stmt := top 18
abbrev N__law_turns : List Str := ["rows", "total", "j", "x", "part", "row"]
theorem sc__law_turns : FnScope N__law_turns ["rows"] (defScope s__law_turns) := ⟨rfl, rfl, rfl, by decide +kernel, rfl, by decide +kernel, by decide +kernel⟩
abbrev s__law_some : Stmt := top 19
abbrev N__law_some : List Str := ["n", "k", "found", "i", "some"]
theorem sc__law_some : FnScope N__law_some ["n", "k"] (defScope s__law_some) := ⟨rfl, rfl, rfl, by decide +kernel, rfl, by decide +kernel, by decide +kernel⟩
abbrev s__law_minor : Stmt := top 20
abbrev N__law_minor : List Str := ["f", "lines", "columns", "i", "j"]
theorem sc__law_minor : FnScope N__law_minor ["f", "lines", "columns"] (defScope s__law_minor) := ⟨rfl, rfl, rfl, by decide +kernel, rfl, by decide +kernel, by decide +kernel⟩
abbrev s_law : Stmt := top 21
abbrev N_law : List Str := ["script", "source", "lap", "f", "g", "other", "i", "j", "k", "lots", "lines", "columns", "some", "told", "total", "between", "size", "rows", "due", "late", "k2", "x", "one"]
theorem sc_law : FnScope N_law ["script"] (defScope s_law) := ⟨rfl, rfl, rfl, by decide +kernel, rfl, by decide +kernel, by decide +kernel⟩
section
variable {P : Program} {w : World} {K : PySem.W.Frag} {mg : Str → Option Value} {base : Heap} {k : Nat} {f : Addr}
def w_number_at  : WS := (wSq (wRet (wIte (wB (w2 (cG fun i j => decide (i < j)) (wP 1) (wF lenG (wA (wP 0) wN)))) (w2 ixG (wP 0) (wP 1)) (wC (.int 0))))
    wNx)
theorem bd_number_at  {cdv : Value} {A : Around} {outer : List Env} {s : Shared} {H : Hp} {G : Fm} (fx : Fx mg) (hr : Room k (A.deeper (envOfC "number_at" (defScope s_number_at) s.heap.objs.size f cdv))) (ok : Okx (cxN P w K mg base N_number_at "number_at" (defScope s_number_at) f cdv A outer s H)) :
    PSsD (cxN P w K mg base N_number_at "number_at" (defScope s_number_at) f cdv A outer s H) G (defBody s_number_at) (w_number_at ) :=
  (s_cons (d_ret (d_ite (t_cmp op_lt on_cG mono_cG (d_p (pv 1)) (d_bi cr_len on_len mono_lenG (by rfl) fx.len (by decide +kernel) (a_cons (d_p (pv 0)) a_nil)) (nomark _)) (d_ix (d_p (pv 0)) (d_p (pv 1)) (fun _ _ => rfl)) d_int))
    s_nil)
def w_whole_determinant  : WS := (wSq (wParO [1, 2, 3] (wOw (wLc (wIt (wV 0)) (uN 9) wYes (wF listG (wA (wP 9) wN)) [9]) (wOw (wC (.int 1)) (wOw (wC (.int 1)) wN))))
    (wSq (wFor (wRg (wA (w2 subG (wF lenG (wA (wP 1) wN)) (wC (.int 1))) wN)) (uN 4) (wSq (wSet 5 (wLc (wRg (wA (wP 4) (wA (wF lenG (wA (wP 1) wN)) wN))) (uN 8) (wB (w2 neG (w2 ixG (w2 ixG (wP 1) (wP 8)) (wP 4)) (wC (.int 0)))) (wV 8) [8]))
    (wSq (wIf (wB (w2 eqG (wP 5) (wLst wN))) (wSq (wRet (wC (.int 0)))
    wNx) wNx)
    (wSq (wIf (wB (w2 neG (w2 ixG (wP 5) (wC (.int 0))) (wP 4))) (wSq (wSetPop 6 1 (w2 ixG (wP 5) (wC (.int 0))))
    (wSq (wIns 1 (wS (wV 4) (wS (wV 6) wN)))
    (wSq (wSet 2 (wIte (wB (w2 eqG (w2 modG (w2 subG (w2 ixG (wP 5) (wC (.int 0))) (wP 4)) (wC (.int 2))) (wC (.int 0)))) (wV 2) (w1 negG (wP 2))))
    wNx))) wNx)
    (wSq (wSet 7 (w2 ixG (wP 1) (wP 4)))
    (wSq (wFor (wRg (wA (w2 addG (wP 4) (wC (.int 1))) (wA (wF lenG (wA (wP 1) wN)) wN))) (uN 8) (wSq (wSetI 1 (wP 8) (wLc (wZp (wS (w2 ixG (wP 1) (wP 8)) (wS (wV 7) wN))) (uT (uCons (uN 10) (uCons (uN 11) uNil))) wYes (w2 divG (w2 subG (w2 mulH (wP 10) (w2 ixG (wP 7) (wP 4))) (w2 mulH (w2 ixG (w2 ixG (wP 1) (wP 8)) (wP 4)) (wP 11))) (wP 3)) [10, 11]))
    wNx))
    (wSq (wSet 3 (w2 ixG (wP 7) (wP 4)))
    wNx)))))))
    (wSq (wRet (w2 mulH (wP 2) (w2 ixG (w2 ixG (wP 1) (w1 negG (wC (.int 1)))) (w1 negG (wC (.int 1))))))
    wNx)))
theorem bd_whole_determinant  {cdv : Value} {A : Around} {outer : List Env} {s : Shared} {H : Hp} {G : Fm} (fx : Fx mg) (hr : Room k (A.deeper (envOfC "whole_determinant" (defScope s_whole_determinant) s.heap.objs.size f cdv))) (ok : Okx (cxN P w K mg base N_whole_determinant "whole_determinant" (defScope s_whole_determinant) f cdv A outer s H)) :
    PSsD (cxN P w K mg base N_whole_determinant "whole_determinant" (defScope s_whole_determinant) f cdv A outer s H) G (defBody s_whole_determinant) (w_whole_determinant ) :=
  (s_cons (d_parC3 rfl sc_whole_determinant.nd rfl rfl rfl (.inr rfl) (.inl rfl) (.inr rfl) (ow_cons (d_lc (own := [("row", 9)]) rfl sc_whole_determinant.nd (i_it (d_v (pv 0))) (blkOk_by (by kernel_rfl)) (by decide) (fun _ _ _ _ _ _ => (g_name sc_whole_determinant.nd rfl (.inl rfl))) (fun _ _ _ _ _ _ => ts_nil) (fun _ _ _ _ _ _ => (d_ty cr_list on_list mono_listG (by rfl) fx.list (by decide +kernel) (a_cons (d_p (pv 9)) a_nil)))) fun _ => (ow_cons d_int fun _ => (ow_cons d_int fun _ => ow_nil))))
    (s_cons (d_for PassesOwn.never rfl (i_r1 (by rfl) fx.range (d_op op_sub on_subG mono_subG (d_bi cr_len on_len mono_lenG (by rfl) fx.len (by decide +kernel) (a_cons (d_p (pv 1)) a_nil)) d_int)) (g_name sc_whole_determinant.nd rfl (.inr rfl)) (s_cons (d_setLc (own := [("i", 8)]) rfl sc_whole_determinant.nd rfl rfl (by rfl) (i_r2 (by rfl) fx.range (d_p (pv 4)) (d_bi cr_len on_len mono_lenG (by rfl) fx.len (by decide +kernel) (a_cons (d_p (pv 1)) a_nil))) (blkOk_by (by kernel_rfl)) (by decide) (fun _ _ _ _ _ _ => (g_name sc_whole_determinant.nd rfl (.inl rfl))) (fun _ _ _ _ _ _ => (ts_one (t_cmp (op_neP (okb ok)) on_neG mono_neG (d_ix (d_ix (d_p (pv 1)) (d_p (pv 8)) (fun _ _ => rfl)) (d_p (pv 4)) (fun _ _ => rfl)) d_int (nomark _)))) (fun _ _ _ _ _ _ => (d_v (pv 8))))
    (s_cons (d_if (t_cmp (op_eqP ok) on_eqG mono_eqG (d_p (pv 5)) (d_lst a_nil) (nomark _)) (s_cons (d_ret d_int)
    s_nil) s_nil)
    (s_cons (d_if (t_cmp (op_neP ok) on_neG mono_neG (d_ix (d_p (pv 5)) d_int (fun _ _ => rfl)) (d_p (pv 4)) (nomark _)) (s_cons (d_setPop sc_whole_determinant.nd rfl (.inl rfl) (pv 1) (d_ix (d_p (pv 5)) d_int (fun _ _ => rfl)) (fun h => pe_bm PySem.F.plainAttrs_list PySem.F.slot_list_pop PySem.F.type_list_pop mt_popAt (pv 1) h))
    (s_cons (d_ins (pv 1) (a_s (d_v (pv 4)) (a_s (d_v (pv 6)) a_nil)) (fun h => pe_bm PySem.F.plainAttrs_list PySem.F.slot_list_insert PySem.F.type_list_insert mt_insert (pv 1) h))
    (s_cons (d_set sc_whole_determinant.nd rfl (.inl rfl) (d_ite (t_cmp (op_eqP ok) on_eqG mono_eqG (d_op op_modN on_iG mono_iG (d_op op_sub on_subG mono_subG (d_ix (d_p (pv 5)) d_int (fun _ _ => rfl)) (d_p (pv 4))) d_int) d_int (nomark _)) (d_v (pv 2)) (d_un un_neg on_negG mono_negG (d_p (pv 2)))))
    s_nil))) s_nil)
    (s_cons (d_set sc_whole_determinant.nd rfl (.inr rfl) (d_ix (d_p (pv 1)) (d_p (pv 4)) (fun _ _ => rfl)))
    (s_cons (d_for PassesOwn.never rfl (i_r2 (by rfl) fx.range (d_op op_addA on_addG mono_addG (d_p (pv 4)) d_int) (d_bi cr_len on_len mono_lenG (by rfl) fx.len (by decide +kernel) (a_cons (d_p (pv 1)) a_nil))) (g_name sc_whole_determinant.nd rfl (.inr rfl)) (s_cons (d_setI (pv 1) (d_p (pv 8)) (d_lc (own := [("x", 10), ("y", 11)]) rfl sc_whole_determinant.nd (i_zp (by rfl) fx.zip (a_s (d_ix (d_p (pv 1)) (d_p (pv 8)) (fun _ _ => rfl)) (a_s (d_v (pv 7)) a_nil))) (blkOk_by (by kernel_rfl)) (by decide) (fun _ _ _ _ _ _ => (g_tup rfl (gs_cons (g_name sc_whole_determinant.nd rfl (.inl rfl)) (gs_cons (g_name sc_whole_determinant.nd rfl (.inl rfl)) gs_nil)) (ul_cons (ul_cons ul_nil ux_n) ux_n))) (fun _ _ _ _ _ _ => ts_nil) (fun _ _ _ _ _ _ => (d_op op_div on_iG mono_iG (d_op op_sub on_subG mono_subG (d_op op_mulH on_mulH mono_mulH (d_p (pv 10)) (d_ix (d_p (pv 7)) (d_p (pv 4)) (fun _ _ => rfl))) (d_op op_mulH on_mulH mono_mulH (d_ix (d_ix (d_p (pv 1)) (d_p (pv 8)) (fun _ _ => rfl)) (d_p (pv 4)) (fun _ _ => rfl)) (d_p (pv 11)))) (d_p (pv 3))))))
    s_nil))
    (s_cons (d_set sc_whole_determinant.nd rfl (.inr rfl) (d_ix (d_p (pv 7)) (d_p (pv 4)) (fun _ _ => rfl)))
    s_nil)))))))
    (s_cons (d_ret (d_op op_mulH on_mulH mono_mulH (d_p (pv 2)) (d_ix (d_ix (d_p (pv 1)) (d_un un_neg on_negG mono_negG d_int) (fun _ _ => rfl)) (d_un un_neg on_negG mono_negG d_int) (fun _ _ => rfl))))
    s_nil)))
def w_band_member (m_number_at : MD) : WS := (wSq (wRet (wIte (wB (w2 (cG fun i j => decide (j ≤ i)) (wP 1) (wP 2))) (wCall m_number_at (wS (wV 0) (wS (w2 subG (wP 1) (wP 2)) wN))) (wC (.int 0))))
    wNx)
theorem bd_band_member {m_number_at : MD} {cdv : Value} {A : Around} {outer : List Env} {s : Shared} {H : Hp} {G : Fm} (fx : Fx mg) (hr : Room k (A.deeper (envOfC "band_member" (defScope s_band_member) s.heap.objs.size f cdv))) (ok : Okx (cxN P w K mg base N_band_member "band_member" (defScope s_band_member) f cdv A outer s H)) (mm_number_at : MonoM m_number_at) (c_number_at : Def P w K mg base k "number_at" ["f", "k"] (spN m_number_at)) :
    PSsD (cxN P w K mg base N_band_member "band_member" (defScope s_band_member) f cdv A outer s H) G (defBody s_band_member) (w_band_member m_number_at) :=
  (s_cons (d_ret (d_ite (t_cmp op_ge on_cG mono_cG (d_p (pv 1)) (d_p (pv 2)) (nomark _)) (d_call c_number_at mm_number_at ok hr rfl (a_s (d_v (pv 0)) (a_s (d_op op_sub on_subG mono_subG (d_p (pv 1)) (d_p (pv 2))) a_nil))) d_int))
    s_nil)
def w_band_minor (m_band_member m_whole_determinant : MD) : WS := (wSq (wIf (wB (w2 eqG (wP 1) (wTup wN))) (wSq (wRet (wC (.int 1)))
    wNx) wNx)
    (wSq (wRet (wCall m_whole_determinant (wS (wLc (wIt (wV 1)) (uN 3) wYes (wLc (wIt (wV 2)) (uN 4) wYes (wCall m_band_member (wS (wV 0) (wS (wV 3) (wS (wV 4) wN)))) [4]) [3]) wN)))
    wNx))
theorem bd_band_minor {m_band_member m_whole_determinant : MD} {cdv : Value} {A : Around} {outer : List Env} {s : Shared} {H : Hp} {G : Fm} (fx : Fx mg) (hr : Room k (A.deeper (envOfC "band_minor" (defScope s_band_minor) s.heap.objs.size f cdv))) (ok : Okx (cxN P w K mg base N_band_minor "band_minor" (defScope s_band_minor) f cdv A outer s H)) (mm_band_member : MonoM m_band_member) (c_band_member : Def P w K mg base k "band_member" ["f", "i", "j"] (spN m_band_member)) (mm_whole_determinant : MonoM m_whole_determinant) (c_whole_determinant : Def P w K mg base k "whole_determinant" ["rows"] (spN m_whole_determinant)) :
    PSsD (cxN P w K mg base N_band_minor "band_minor" (defScope s_band_minor) f cdv A outer s H) G (defBody s_band_minor) (w_band_minor m_band_member m_whole_determinant) :=
  (s_cons (d_if (t_cmp (op_eqP ok) on_eqG mono_eqG (d_p (pv 1)) (d_tup a_nil) (nomark _)) (s_cons (d_ret d_int)
    s_nil) s_nil)
    (s_cons (d_ret (d_call c_whole_determinant mm_whole_determinant ok hr rfl (a_s (d_lc (own := [("i", 3)]) rfl sc_band_minor.nd (i_it (d_v (pv 1))) (blkOk_by (by kernel_rfl)) (by decide) (fun _ _ _ _ _ _ => (g_name sc_band_minor.nd rfl (.inr rfl))) (fun _ _ _ _ _ _ => ts_nil) (fun _ _ _ _ _ _ => (d_lc (own := [("j", 4)]) rfl sc_band_minor.nd (i_it (d_v (pv 2))) (blkOk_by (by kernel_rfl)) (by decide) (fun _ _ _ _ _ _ => (g_name sc_band_minor.nd rfl (.inl rfl))) (fun _ _ _ _ _ _ => ts_nil) (fun _ _ _ _ _ _ => (d_call c_band_member mm_band_member (okb (okb ok)) hr rfl (a_s (d_v (pv 0)) (a_s (d_v (pv 3)) (a_s (d_v (pv 4)) a_nil)))))))) a_nil)))
    s_nil))
def w_band_lots  : WS := (wSq (wSet 2 (wLst (wS (wTup wN) wN)))
    (wSq (wFor (wRg (wA (wP 1) wN)) (uN 3) (wSq (wSet 4 (wLst wN))
    (wSq (wFor (wIt (wV 2)) (uN 5) (wSq (wExt 4 (wLc (wRg (wA (wIte (wB (w2 neG (wP 5) (wTup wN))) (w2 addG (w2 ixG (wP 5) (w1 negG (wC (.int 1)))) (wC (.int 1))) (wC (.int 0))) (wA (wP 0) wN))) (uN 6) wYes (wTup (wX (wP 5) (wS (wV 6) wN))) [6]))
    wNx))
    (wSq (wSet 2 (wF listG (wA (wP 4) wN)))
    wNx))))
    (wSq (wRet (wV 2))
    wNx)))
theorem bd_band_lots  {cdv : Value} {A : Around} {outer : List Env} {s : Shared} {H : Hp} {G : Fm} (fx : Fx mg) (hr : Room k (A.deeper (envOfC "band_lots" (defScope s_band_lots) s.heap.objs.size f cdv))) (ok : Okx (cxN P w K mg base N_band_lots "band_lots" (defScope s_band_lots) f cdv A outer s H)) :
    PSsD (cxN P w K mg base N_band_lots "band_lots" (defScope s_band_lots) f cdv A outer s H) G (defBody s_band_lots) (w_band_lots ) :=
  (s_cons (d_set sc_band_lots.nd rfl (.inl rfl) (d_lst (a_s (d_tup a_nil) a_nil)))
    (s_cons (d_for PassesOwn.never rfl (i_r1 (by rfl) fx.range (d_p (pv 1))) (g_name sc_band_lots.nd rfl (.inl rfl)) (s_cons (d_set sc_band_lots.nd rfl (.inl rfl) (d_lst a_nil))
    (s_cons (d_for PassesOwn.never rfl (i_it (d_v (pv 2))) (g_name sc_band_lots.nd rfl (.inr rfl)) (s_cons (d_ext (pv 4) (d_lc (own := [("i", 6)]) rfl sc_band_lots.nd (i_r2 (by rfl) fx.range (d_ite (t_cmp (op_neP ok) on_neG mono_neG (d_p (pv 5)) (d_tup a_nil) (nomark _)) (d_op op_addA on_addG mono_addG (d_ix (d_p (pv 5)) (d_un un_neg on_negG mono_negG d_int) (fun _ _ => rfl)) d_int) d_int) (d_p (pv 0))) (blkOk_by (by kernel_rfl)) (by decide) (fun _ _ _ _ _ _ => (g_name sc_band_lots.nd rfl (.inl rfl))) (fun _ _ _ _ _ _ => ts_nil) (fun _ _ _ _ _ _ => (d_tup (a_x (d_p (pv 5)) (a_s (d_v (pv 6)) a_nil))))) (fun h => pe_bm PySem.F.plainAttrs_list PySem.F.slot_list_extend PySem.F.type_list_extend mt_extend (pv 4) h))
    s_nil))
    (s_cons (d_set sc_band_lots.nd rfl (.inl rfl) (d_ty cr_list on_list mono_listG (by rfl) fx.list (by decide +kernel) (a_cons (d_p (pv 4)) a_nil)))
    s_nil))))
    (s_cons (d_ret (d_v (pv 2)))
    s_nil)))
def w_least_minor (m_band_minor m_band_lots : MD) : WS := (wSq (wSet 3 (wCall m_band_lots (wS (wV 1) (wS (wV 2) wN))))
    (wSq (wSet 4 (wLst wN))
    (wSq (wFor (wIt (wV 3)) (uN 5) (wSq (wApp 4 (wF (maxG fun y m => m ≤ y) (wA (wLc (wIt (wV 3)) (uN 6) wYes (wCall m_band_minor (wS (wV 0) (wS (wV 5) (wS (wV 6) wN)))) [6]) wN)))
    wNx))
    (wSq (wRet (wF (maxG fun y m => m ≤ y) (wA (wP 4) wN)))
    wNx))))
theorem bd_least_minor {m_band_minor m_band_lots : MD} {cdv : Value} {A : Around} {outer : List Env} {s : Shared} {H : Hp} {G : Fm} (fx : Fx mg) (hr : Room k (A.deeper (envOfC "least_minor" (defScope s_least_minor) s.heap.objs.size f cdv))) (ok : Okx (cxN P w K mg base N_least_minor "least_minor" (defScope s_least_minor) f cdv A outer s H)) (mm_band_minor : MonoM m_band_minor) (c_band_minor : Def P w K mg base k "band_minor" ["f", "lines", "columns"] (spN m_band_minor)) (mm_band_lots : MonoM m_band_lots) (c_band_lots : Def P w K mg base k "band_lots" ["size", "k"] (spN m_band_lots)) :
    PSsD (cxN P w K mg base N_least_minor "least_minor" (defScope s_least_minor) f cdv A outer s H) G (defBody s_least_minor) (w_least_minor m_band_minor m_band_lots) :=
  (s_cons (d_set sc_least_minor.nd rfl (.inl rfl) (d_call c_band_lots mm_band_lots ok hr rfl (a_s (d_v (pv 1)) (a_s (d_v (pv 2)) a_nil))))
    (s_cons (d_set sc_least_minor.nd rfl (.inl rfl) (d_lst a_nil))
    (s_cons (d_for PassesOwn.never rfl (i_it (d_v (pv 3))) (g_name sc_least_minor.nd rfl (.inr rfl)) (s_cons (d_app (pv 4) (d_bi (cr_min rfl) on_minL mono_maxG (by rfl) fx.min (by decide +kernel) (a_cons (d_lc (own := [("columns", 6)]) rfl sc_least_minor.nd (i_it (d_v (pv 3))) (blkOk_by (by kernel_rfl)) (by decide) (fun _ _ _ _ _ _ => (g_name sc_least_minor.nd rfl (.inl rfl))) (fun _ _ _ _ _ _ => ts_nil) (fun _ _ _ _ _ _ => (d_call c_band_minor mm_band_minor (okb ok) hr rfl (a_s (d_v (pv 0)) (a_s (d_v (pv 5)) (a_s (d_v (pv 6)) a_nil)))))) a_nil)) (fun h => pe_bm PySem.F.plainAttrs_list PySem.F.slot_list_append PySem.F.type_list_append mt_append (pv 4) h))
    s_nil))
    (s_cons (d_ret (d_bi (cr_min rfl) on_minL mono_maxG (by rfl) fx.min (by decide +kernel) (a_cons (d_p (pv 4)) a_nil)))
    s_nil))))
def w_two_lines (m_number_at : MD) : WS := (wSq (wSet 1 (wLst wN))
    (wSq (wFor (wEn (wS (wV 0) wN)) (uT (uCons (uN 2) (uCons (uN 3) uNil))) (wSq (wSet 4 (wIte (wB (w2 (cG fun i j => decide (j < i)) (wP 2) (wC (.int 0)))) (w2 ixG (wP 0) (w2 subG (wP 2) (wC (.int 1)))) (wC (.int 0))))
    (wSq (wApp 1 (w2 subG (w2 mulH (wP 3) (wP 3)) (w2 mulH (wP 4) (wCall m_number_at (wS (wV 0) (wS (w2 addG (wP 2) (wC (.int 1))) wN))))))
    wNx)))
    (wSq (wRet (wF tupleG (wA (wP 1) wN)))
    wNx)))
theorem bd_two_lines {m_number_at : MD} {cdv : Value} {A : Around} {outer : List Env} {s : Shared} {H : Hp} {G : Fm} (fx : Fx mg) (hr : Room k (A.deeper (envOfC "two_lines" (defScope s_two_lines) s.heap.objs.size f cdv))) (ok : Okx (cxN P w K mg base N_two_lines "two_lines" (defScope s_two_lines) f cdv A outer s H)) (mm_number_at : MonoM m_number_at) (c_number_at : Def P w K mg base k "number_at" ["f", "k"] (spN m_number_at)) :
    PSsD (cxN P w K mg base N_two_lines "two_lines" (defScope s_two_lines) f cdv A outer s H) G (defBody s_two_lines) (w_two_lines m_number_at) :=
  (s_cons (d_set sc_two_lines.nd rfl (.inl rfl) (d_lst a_nil))
    (s_cons (d_for PassesOwn.never rfl (i_en (by rfl) fx.enumerate (a_s (d_v (pv 0)) a_nil)) (g_tup rfl (gs_cons (g_name sc_two_lines.nd rfl (.inl rfl)) (gs_cons (g_name sc_two_lines.nd rfl (.inl rfl)) gs_nil)) (ul_cons (ul_cons ul_nil ux_n) ux_n)) (s_cons (d_set sc_two_lines.nd rfl (.inl rfl) (d_ite (t_cmp op_gt on_cG mono_cG (d_p (pv 2)) d_int (nomark _)) (d_ix (d_p (pv 0)) (d_op op_sub on_subG mono_subG (d_p (pv 2)) d_int) (fun _ _ => rfl)) d_int))
    (s_cons (d_app (pv 1) (d_op op_sub on_subG mono_subG (d_op op_mulH on_mulH mono_mulH (d_p (pv 3)) (d_p (pv 3))) (d_op op_mulH on_mulH mono_mulH (d_p (pv 4)) (d_call c_number_at mm_number_at ok hr rfl (a_s (d_v (pv 0)) (a_s (d_op op_addA on_addG mono_addG (d_p (pv 2)) d_int) a_nil))))) (fun h => pe_bm PySem.F.plainAttrs_list PySem.F.slot_list_append PySem.F.type_list_append mt_append (pv 1) h))
    s_nil)))
    (s_cons (d_ret (d_ty cr_tuple on_tuple mono_tupleG (by rfl) fx.tuple (by decide +kernel) (a_cons (d_p (pv 1)) a_nil)))
    s_nil)))
def w__law_of (m__law_pick : MD) : WS := (wSq (wRet (w2 ixG (wP 1) (wCallS m__law_pick (wS (wV 0) (wS (wF lenG (wA (wP 1) wN)) wN)))))
    wNx)
theorem bd__law_of {m__law_pick : MD} {cdv : Value} {A : Around} {outer : List Env} {s : Shared} {H : Hp} {G : Fm} (fx : Fx mg) (hr : Room k (A.deeper (envOfC "_law_of" (defScope s__law_of) s.heap.objs.size f cdv))) (ok : Okx (cxN P w K mg base N__law_of "_law_of" (defScope s__law_of) f cdv A outer s H)) (mm__law_pick : MonoM m__law_pick) (c__law_pick : Def P w K mg base k "_law_pick" ["source", "most"] (spS m__law_pick)) :
    PSsD (cxN P w K mg base N__law_of "_law_of" (defScope s__law_of) f cdv A outer s H) G (defBody s__law_of) (w__law_of m__law_pick) :=
  (s_cons (d_ret (d_ix (d_p (pv 1)) (d_callS c__law_pick mm__law_pick ok hr rfl (a_s (d_v (pv 0)) (a_s (d_bi cr_len on_len mono_lenG (by rfl) fx.len (by decide +kernel) (a_cons (d_p (pv 1)) a_nil)) a_nil))) (fun _ _ => rfl)))
    s_nil)
def w__law_lowest  : WS := (wSq (wPar [2, 3] (wS (wF (i2G maxF) (wA (wP 0) (wA (w2 subG (wC (.int 0)) (wP 0)) wN))) (wS (wV 1) wN)))
    (wSq (wWh (wB (w2 (cG fun i j => decide (j < i)) (wP 3) (wC (.int 0)))) (wSq (wPar [2, 3] (wS (wV 3) (wS (w2 modG (wF intG (wA (wP 2) wN)) (wP 3)) wN)))
    wNx))
    (wSq (wRet (wTup (wS (w2 divG (wP 0) (wP 2)) (wS (w2 divG (wP 1) (wP 2)) wN))))
    wNx)))
theorem bd__law_lowest  {cdv : Value} {A : Around} {outer : List Env} {s : Shared} {H : Hp} {G : Fm} (fx : Fx mg) (hr : Room k (A.deeper (envOfC "_law_lowest" (defScope s__law_lowest) s.heap.objs.size f cdv))) (ok : Okx (cxN P w K mg base N__law_lowest "_law_lowest" (defScope s__law_lowest) f cdv A outer s H)) :
    PSsD (cxN P w K mg base N__law_lowest "_law_lowest" (defScope s__law_lowest) f cdv A outer s H) G (defBody s__law_lowest) (w__law_lowest ) :=
  (s_cons (d_par rfl sc__law_lowest.nd rfl rfl (by decide) rfl rfl (a_s (d_bi (call_max2 rfl) on_max mono_i2G (by rfl) fx.max (by decide +kernel) (a_cons (d_p (pv 0)) (a_cons (d_op op_sub on_subG mono_subG d_int (d_p (pv 0))) a_nil))) (a_s (d_v (pv 1)) a_nil)) (by rfl))
    (s_cons (d_wh PassesOwn.never (t_cmp op_gt on_cG mono_cG (d_p (pv 3)) d_int (nomark _)) (s_cons (d_par rfl sc__law_lowest.nd rfl rfl (by decide) rfl rfl (a_s (d_v (pv 3)) (a_s (d_op op_modN on_iG mono_iG (d_ty call_int1 on_int mono_intG (by rfl) fx.int (by decide +kernel) (a_cons (d_p (pv 2)) a_nil)) (d_p (pv 3))) a_nil)) (by rfl))
    s_nil))
    (s_cons (d_ret (d_tup (a_s (d_op op_div on_iG mono_iG (d_p (pv 0)) (d_p (pv 2))) (a_s (d_op op_div on_iG mono_iG (d_p (pv 1)) (d_p (pv 2))) a_nil))))
    s_nil)))
def w__law_product  : WS := (wSq (wSet 2 (w2 mulH (wLst (wS (wC (.int 0)) wN)) (w2 subG (w2 addG (wF lenG (wA (wP 0) wN)) (wF lenG (wA (wP 1) wN))) (wC (.int 1)))))
    (wSq (wFor (wEn (wS (wV 0) wN)) (uT (uCons (uN 3) (uCons (uN 4) uNil))) (wSq (wFor (wEn (wS (wV 1) wN)) (uT (uCons (uN 5) (uCons (uN 6) uNil))) (wSq (wSetI 2 (w2 addG (wP 3) (wP 5)) (w2 addG (w2 ixG (wP 2) (w2 addG (wP 3) (wP 5))) (w2 mulH (wP 4) (wP 6))))
    wNx))
    wNx))
    (wSq (wRet (wF tupleG (wA (wP 2) wN)))
    wNx)))
theorem bd__law_product  {cdv : Value} {A : Around} {outer : List Env} {s : Shared} {H : Hp} {G : Fm} (fx : Fx mg) (hr : Room k (A.deeper (envOfC "_law_product" (defScope s__law_product) s.heap.objs.size f cdv))) (ok : Okx (cxN P w K mg base N__law_product "_law_product" (defScope s__law_product) f cdv A outer s H)) :
    PSsD (cxN P w K mg base N__law_product "_law_product" (defScope s__law_product) f cdv A outer s H) G (defBody s__law_product) (w__law_product ) :=
  (s_cons (d_set sc__law_product.nd rfl (.inl rfl) (d_op op_mulH on_mulH mono_mulH (d_lst (a_s d_int a_nil)) (d_op op_sub on_subG mono_subG (d_op op_addA on_addG mono_addG (d_bi cr_len on_len mono_lenG (by rfl) fx.len (by decide +kernel) (a_cons (d_p (pv 0)) a_nil)) (d_bi cr_len on_len mono_lenG (by rfl) fx.len (by decide +kernel) (a_cons (d_p (pv 1)) a_nil))) d_int)))
    (s_cons (d_for PassesOwn.never rfl (i_en (by rfl) fx.enumerate (a_s (d_v (pv 0)) a_nil)) (g_tup rfl (gs_cons (g_name sc__law_product.nd rfl (.inl rfl)) (gs_cons (g_name sc__law_product.nd rfl (.inl rfl)) gs_nil)) (ul_cons (ul_cons ul_nil ux_n) ux_n)) (s_cons (d_for PassesOwn.never rfl (i_en (by rfl) fx.enumerate (a_s (d_v (pv 1)) a_nil)) (g_tup rfl (gs_cons (g_name sc__law_product.nd rfl (.inl rfl)) (gs_cons (g_name sc__law_product.nd rfl (.inl rfl)) gs_nil)) (ul_cons (ul_cons ul_nil ux_n) ux_n)) (s_cons (d_setI (pv 2) (d_op op_addA on_addG mono_addG (d_p (pv 3)) (d_p (pv 5))) (d_op op_addA on_addG mono_addG (d_ix (d_p (pv 2)) (d_op op_addA on_addG mono_addG (d_p (pv 3)) (d_p (pv 5))) (fun _ _ => rfl)) (d_op op_mulH on_mulH mono_mulH (d_p (pv 4)) (d_p (pv 6)))))
    s_nil))
    s_nil))
    (s_cons (d_ret (d_ty cr_tuple on_tuple mono_tupleG (by rfl) fx.tuple (by decide +kernel) (a_cons (d_p (pv 2)) a_nil)))
    s_nil)))
def w__law_lined (m__law_lowest m__law_product m__law_pick : MD) : WS := (wSq (wParO [2, 3, 4] (wOw (wCallS m__law_pick (wS (wV 0) (wS (w2 addG (wP 1) (wC (.int 1))) wN))) (wOw (wTup (wS (w2 addG (wC (.int 1)) (wCallS m__law_pick (wS (wV 0) (wS (wC (.int 3)) wN)))) wN)) (wOw (wLst wN) wN))))
    (wSq (wFor (wRg (wA (wP 2) wN)) (uN 5) (wSq (wPar [6, 7] (wS (w2 addG (wC (.int 1)) (wCallS m__law_pick (wS (wV 0) (wS (wC (.int 2)) wN)))) (wS (wCallS m__law_pick (wS (wV 0) (wS (wC (.int 6)) wN))) wN)))
    (wSq (wSet 3 (wCall m__law_product (wS (wV 3) (wS (wTup (wS (wV 7) (wS (wV 6) wN))) wN))))
    (wSq (wApp 4 (wCall m__law_lowest (wS (wV 7) (wS (wV 6) wN))))
    wNx))))
    (wSq (wRet (wTup (wS (wV 3) (wS (wV 4) wN))))
    wNx)))
theorem bd__law_lined {m__law_lowest m__law_product m__law_pick : MD} {cdv : Value} {A : Around} {outer : List Env} {s : Shared} {H : Hp} {G : Fm} (fx : Fx mg) (hr : Room k (A.deeper (envOfC "_law_lined" (defScope s__law_lined) s.heap.objs.size f cdv))) (ok : Okx (cxN P w K mg base N__law_lined "_law_lined" (defScope s__law_lined) f cdv A outer s H)) (mm__law_lowest : MonoM m__law_lowest) (c__law_lowest : Def P w K mg base k "_law_lowest" ["p", "q"] (spN m__law_lowest)) (mm__law_product : MonoM m__law_product) (c__law_product : Def P w K mg base k "_law_product" ["one", "other"] (spN m__law_product)) (mm__law_pick : MonoM m__law_pick) (c__law_pick : Def P w K mg base k "_law_pick" ["source", "most"] (spS m__law_pick)) :
    PSsD (cxN P w K mg base N__law_lined "_law_lined" (defScope s__law_lined) f cdv A outer s H) G (defBody s__law_lined) (w__law_lined m__law_lowest m__law_product m__law_pick) :=
  (s_cons (d_par3O rfl sc__law_lined.nd rfl rfl rfl (by decide) (by decide) (by decide) rfl rfl rfl (ow_cons (d_callS c__law_pick mm__law_pick ok hr rfl (a_s (d_v (pv 0)) (a_s (d_op op_addA on_addG mono_addG (d_p (pv 1)) d_int) a_nil))) fun _ => (ow_cons (d_tup (a_s (d_op op_addA on_addG mono_addG d_int (d_callS c__law_pick mm__law_pick ok hr rfl (a_s (d_v (pv 0)) (a_s d_int a_nil)))) a_nil)) fun _ => (ow_cons (d_lst a_nil) fun _ => ow_nil))) (by rfl))
    (s_cons (d_for PassesOwn.never rfl (i_r1 (by rfl) fx.range (d_p (pv 2))) (g_name sc__law_lined.nd rfl (.inl rfl)) (s_cons (d_par rfl sc__law_lined.nd rfl rfl (by decide) rfl rfl (a_s (d_op op_addA on_addG mono_addG d_int (d_callS c__law_pick mm__law_pick ok hr rfl (a_s (d_v (pv 0)) (a_s d_int a_nil)))) (a_s (d_callS c__law_pick mm__law_pick ok hr rfl (a_s (d_v (pv 0)) (a_s d_int a_nil))) a_nil)) (by rfl))
    (s_cons (d_set sc__law_lined.nd rfl (.inl rfl) (d_call c__law_product mm__law_product ok hr rfl (a_s (d_v (pv 3)) (a_s (d_tup (a_s (d_v (pv 7)) (a_s (d_v (pv 6)) a_nil))) a_nil))))
    (s_cons (d_app (pv 4) (d_call c__law_lowest mm__law_lowest ok hr rfl (a_s (d_v (pv 7)) (a_s (d_v (pv 6)) a_nil))) (fun h => pe_bm PySem.F.plainAttrs_list PySem.F.slot_list_append PySem.F.type_list_append mt_append (pv 4) h))
    s_nil))))
    (s_cons (d_ret (d_tup (a_s (d_v (pv 3)) (a_s (d_v (pv 4)) a_nil))))
    s_nil)))
def w__law_any (m__law_pick m__law_of : MD) : WS := (wSq (wSet 2 (wLc (wRg (wA (wCallS m__law_pick (wS (wV 0) (wS (w2 addG (wP 1) (wC (.int 1))) wN))) wN)) (uN 3) wYes (wCallS m__law_of (wS (wV 0) (wS (wLst (wS (wC (.int 0)) (wS (wC (.int 1)) (wS (wC (.int 1)) (wS (wC (.int 2)) (wS (wC (.int 3)) (wS (wC (.int 6)) wN))))))) wN))) [3]))
    (wSq (wRet (w2 addG (wF tupleG (wA (wP 2) wN)) (wTup (wS (w2 addG (wC (.int 1)) (wCallS m__law_pick (wS (wV 0) (wS (wC (.int 3)) wN)))) wN))))
    wNx))
theorem bd__law_any {m__law_pick m__law_of : MD} {cdv : Value} {A : Around} {outer : List Env} {s : Shared} {H : Hp} {G : Fm} (fx : Fx mg) (hr : Room k (A.deeper (envOfC "_law_any" (defScope s__law_any) s.heap.objs.size f cdv))) (ok : Okx (cxN P w K mg base N__law_any "_law_any" (defScope s__law_any) f cdv A outer s H)) (mm__law_pick : MonoM m__law_pick) (c__law_pick : Def P w K mg base k "_law_pick" ["source", "most"] (spS m__law_pick)) (mm__law_of : MonoM m__law_of) (c__law_of : Def P w K mg base k "_law_of" ["source", "some"] (spS m__law_of)) :
    PSsD (cxN P w K mg base N__law_any "_law_any" (defScope s__law_any) f cdv A outer s H) G (defBody s__law_any) (w__law_any m__law_pick m__law_of) :=
  (s_cons (d_setLc (own := [("k", 3)]) rfl sc__law_any.nd rfl rfl (by rfl) (i_r1 (by rfl) fx.range (d_callS c__law_pick mm__law_pick ok hr rfl (a_s (d_v (pv 0)) (a_s (d_op op_addA on_addG mono_addG (d_p (pv 1)) d_int) a_nil)))) (blkOk_by (by kernel_rfl)) (by decide) (fun _ _ _ _ _ _ => (g_name sc__law_any.nd rfl (.inl rfl))) (fun _ _ _ _ _ _ => ts_nil) (fun _ _ _ _ _ _ => (d_callS c__law_of mm__law_of (okb ok) hr rfl (a_s (d_v (pv 0)) (a_s (d_lst (a_s d_int (a_s d_int (a_s d_int (a_s d_int (a_s d_int (a_s d_int a_nil))))))) a_nil)))))
    (s_cons (d_ret (d_op op_addA on_addG mono_addG (d_ty cr_tuple on_tuple mono_tupleG (by rfl) fx.tuple (by decide +kernel) (a_cons (d_p (pv 2)) a_nil)) (d_tup (a_s (d_op op_addA on_addG mono_addG d_int (d_callS c__law_pick mm__law_pick ok hr rfl (a_s (d_v (pv 0)) (a_s d_int a_nil)))) a_nil))))
    s_nil))
def w__law_turns (m__law_turns : MD) : WS := (wSq (wIf (wB (w2 eqG (wP 0) (wLst wN))) (wSq (wRet (wC (.int 1)))
    wNx) wNx)
    (wSq (wSet 1 (wC (.int 0)))
    (wSq (wFor (wEn (wS (w2 ixG (wP 0) (wC (.int 0))) wN)) (uT (uCons (uN 2) (uCons (uN 3) uNil))) (wSq (wSet 4 (wIte (wB (w2 neG (wP 3) (wC (.int 0)))) (wCall m__law_turns (wS (wLc (wIt (wSl (wP 0) (wO1 (wC (.int 1))) wO0)) (uN 5) wYes (w2 addG (wSl (wP 5) wO0 (wO1 (wP 2))) (wSl (wP 5) (wO1 (w2 addG (wP 2) (wC (.int 1)))) wO0)) [5]) wN)) (wC (.int 0))))
    (wSq (wSet 1 (w2 addG (wP 1) (wIte (wB (w2 eqG (w2 modG (wF intG (wA (wP 2) wN)) (wC (.int 2))) (wC (.int 0)))) (w2 mulH (wP 3) (wP 4)) (w2 subG (wC (.int 0)) (w2 mulH (wP 3) (wP 4))))))
    wNx)))
    (wSq (wRet (wV 1))
    wNx))))
theorem bd__law_turns {m__law_turns : MD} {cdv : Value} {A : Around} {outer : List Env} {s : Shared} {H : Hp} {G : Fm} (fx : Fx mg) (hr : Room k (A.deeper (envOfC "_law_turns" (defScope s__law_turns) s.heap.objs.size f cdv))) (ok : Okx (cxN P w K mg base N__law_turns "_law_turns" (defScope s__law_turns) f cdv A outer s H)) (mm__law_turns : MonoM m__law_turns) (c__law_turns : Def P w K mg base k "_law_turns" ["rows"] (spN m__law_turns)) :
    PSsD (cxN P w K mg base N__law_turns "_law_turns" (defScope s__law_turns) f cdv A outer s H) G (defBody s__law_turns) (w__law_turns m__law_turns) :=
  (s_cons (d_if (t_cmp (op_eqP ok) on_eqG mono_eqG (d_p (pv 0)) (d_lst a_nil) (nomark _)) (s_cons (d_ret d_int)
    s_nil) s_nil)
    (s_cons (d_set sc__law_turns.nd rfl (.inl rfl) d_int)
    (s_cons (d_for PassesOwn.never rfl (i_en (by rfl) fx.enumerate (a_s (d_ix (d_p (pv 0)) d_int (fun _ _ => rfl)) a_nil)) (g_tup rfl (gs_cons (g_name sc__law_turns.nd rfl (.inr rfl)) (gs_cons (g_name sc__law_turns.nd rfl (.inl rfl)) gs_nil)) (ul_cons (ul_cons ul_nil ux_n) ux_n)) (s_cons (d_set sc__law_turns.nd rfl (.inl rfl) (d_ite (t_cmp (op_neP ok) on_neG mono_neG (d_p (pv 3)) d_int (nomark _)) (d_call c__law_turns mm__law_turns ok hr rfl (a_s (d_lc (own := [("row", 5)]) rfl sc__law_turns.nd (i_it (d_sl (d_p (pv 0)) (o_some d_int) o_none)) (blkOk_by (by kernel_rfl)) (by decide) (fun _ _ _ _ _ _ => (g_name sc__law_turns.nd rfl (.inl rfl))) (fun _ _ _ _ _ _ => ts_nil) (fun _ _ _ _ _ _ => (d_op op_addA on_addG mono_addG (d_sl (d_p (pv 5)) o_none (o_some (d_p (pv 2)))) (d_sl (d_p (pv 5)) (o_some (d_op op_addA on_addG mono_addG (d_p (pv 2)) d_int)) o_none)))) a_nil)) d_int))
    (s_cons (d_set sc__law_turns.nd rfl (.inl rfl) (d_op op_addA on_addG mono_addG (d_p (pv 1)) (d_ite (t_cmp (op_eqP ok) on_eqG mono_eqG (d_op op_modN on_iG mono_iG (d_ty call_int1 on_int mono_intG (by rfl) fx.int (by decide +kernel) (a_cons (d_p (pv 2)) a_nil)) d_int) d_int (nomark _)) (d_op op_mulH on_mulH mono_mulH (d_p (pv 3)) (d_p (pv 4))) (d_op op_sub on_subG mono_subG d_int (d_op op_mulH on_mulH mono_mulH (d_p (pv 3)) (d_p (pv 4)))))))
    s_nil)))
    (s_cons (d_ret (d_v (pv 1)))
    s_nil))))
def w__law_some  : WS := (wSq (wSet 2 (wLst (wS (wTup wN) wN)))
    (wSq (wFor (wRg (wA (wP 0) wN)) (uN 3) (wSq (wSet 2 (w2 addG (wP 2) (wLc (wIt (wV 2)) (uN 4) (wB (w2 (cG fun i j => decide (i < j)) (wF lenG (wA (wP 4) wN)) (wP 1))) (w2 addG (wP 4) (wTup (wS (wV 3) wN))) [4])))
    wNx))
    (wSq (wRet (wF sortTG (wA (wLc (wIt (wV 2)) (uN 4) (wB (w2 eqG (wF lenG (wA (wP 4) wN)) (wP 1))) (wV 4) [4]) wN)))
    wNx)))
theorem bd__law_some  {cdv : Value} {A : Around} {outer : List Env} {s : Shared} {H : Hp} {G : Fm} (fx : Fx mg) (hr : Room k (A.deeper (envOfC "_law_some" (defScope s__law_some) s.heap.objs.size f cdv))) (ok : Okx (cxN P w K mg base N__law_some "_law_some" (defScope s__law_some) f cdv A outer s H)) :
    PSsD (cxN P w K mg base N__law_some "_law_some" (defScope s__law_some) f cdv A outer s H) G (defBody s__law_some) (w__law_some ) :=
  (s_cons (d_set sc__law_some.nd rfl (.inl rfl) (d_lst (a_s (d_tup a_nil) a_nil)))
    (s_cons (d_for PassesOwn.never rfl (i_r1 (by rfl) fx.range (d_p (pv 0))) (g_name sc__law_some.nd rfl (.inr rfl)) (s_cons (d_set sc__law_some.nd rfl (.inl rfl) (d_op op_addA on_addG mono_addG (d_p (pv 2)) (d_lc (own := [("some", 4)]) rfl sc__law_some.nd (i_it (d_v (pv 2))) (blkOk_by (by kernel_rfl)) (by decide) (fun _ _ _ _ _ _ => (g_name sc__law_some.nd rfl (.inl rfl))) (fun _ _ _ _ _ _ => (ts_one (t_cmp op_lt on_cG mono_cG (d_bi cr_len on_len mono_lenG (by rfl) fx.len (by decide +kernel) (a_cons (d_p (pv 4)) a_nil)) (d_p (pv 1)) (nomark _)))) (fun _ _ _ _ _ _ => (d_op op_addA on_addG mono_addG (d_p (pv 4)) (d_tup (a_s (d_v (pv 3)) a_nil)))))))
    s_nil))
    (s_cons (d_ret (d_bi cr_sortE on_sortTG mono_sortTG (by rfl) fx.sorted (by decide +kernel) (a_cons (d_lc (own := [("some", 4)]) rfl sc__law_some.nd (i_it (d_v (pv 2))) (blkOk_by (by kernel_rfl)) (by decide) (fun _ _ _ _ _ _ => (g_name sc__law_some.nd rfl (.inl rfl))) (fun _ _ _ _ _ _ => (ts_one (t_cmp (op_eqP (okb ok)) on_eqG mono_eqG (d_bi cr_len on_len mono_lenG (by rfl) fx.len (by decide +kernel) (a_cons (d_p (pv 4)) a_nil)) (d_p (pv 1)) (nomark _)))) (fun _ _ _ _ _ _ => (d_v (pv 4)))) a_nil)))
    s_nil)))
def w__law_minor (m__law_turns : MD) : WS := (wSq (wRet (wCall m__law_turns (wS (wLc (wIt (wV 1)) (uN 3) wYes (wLc (wIt (wV 2)) (uN 4) wYes (wIte (wB (w3 (cG fun i j => decide (i ≤ j)) (cG fun i j => decide (i < j)) (wC (.int 0)) (w2 subG (wP 3) (wP 4)) (wF lenG (wA (wP 0) wN)))) (w2 ixG (wP 0) (w2 subG (wP 3) (wP 4))) (wC (.int 0))) [4]) [3]) wN)))
    wNx)
theorem bd__law_minor {m__law_turns : MD} {cdv : Value} {A : Around} {outer : List Env} {s : Shared} {H : Hp} {G : Fm} (fx : Fx mg) (hr : Room k (A.deeper (envOfC "_law_minor" (defScope s__law_minor) s.heap.objs.size f cdv))) (ok : Okx (cxN P w K mg base N__law_minor "_law_minor" (defScope s__law_minor) f cdv A outer s H)) (mm__law_turns : MonoM m__law_turns) (c__law_turns : Def P w K mg base k "_law_turns" ["rows"] (spN m__law_turns)) :
    PSsD (cxN P w K mg base N__law_minor "_law_minor" (defScope s__law_minor) f cdv A outer s H) G (defBody s__law_minor) (w__law_minor m__law_turns) :=
  (s_cons (d_ret (d_call c__law_turns mm__law_turns ok hr rfl (a_s (d_lc (own := [("i", 3)]) rfl sc__law_minor.nd (i_it (d_v (pv 1))) (blkOk_by (by kernel_rfl)) (by decide) (fun _ _ _ _ _ _ => (g_name sc__law_minor.nd rfl (.inr rfl))) (fun _ _ _ _ _ _ => ts_nil) (fun _ _ _ _ _ _ => (d_lc (own := [("j", 4)]) rfl sc__law_minor.nd (i_it (d_v (pv 2))) (blkOk_by (by kernel_rfl)) (by decide) (fun _ _ _ _ _ _ => (g_name sc__law_minor.nd rfl (.inl rfl))) (fun _ _ _ _ _ _ => ts_nil) (fun _ _ _ _ _ _ => (d_ite (t_chain op_le op_lt flat_cG on_cG mono_cG mono_cG d_int (d_op op_sub on_subG mono_subG (d_p (pv 3)) (d_p (pv 4))) (d_bi cr_len on_len mono_lenG (by rfl) fx.len (by decide +kernel) (a_cons (d_p (pv 0)) a_nil))) (d_ix (d_p (pv 0)) (d_op op_sub on_subG mono_subG (d_p (pv 3)) (d_p (pv 4))) (fun _ _ => rfl)) d_int))))) a_nil)))
    s_nil)
def w_law (m_band_minor m_least_minor m_two_lines m__law_minor m__law_some m__law_pick m__law_product m__law_of m_band_member m__law_any m__law_lined : MD) : WS := (wSq (wFor (wRg (wA (wC (.int 3)) wN)) (uN 2) (wSq (wPar [3, 4, 5] (wS (w2 ixG (wCallS m__law_lined (wS (wV 1) (wS (wC (.int 4)) wN))) (wC (.int 0))) (wS (w2 ixG (wCallS m__law_lined (wS (wV 1) (wS (wC (.int 3)) wN))) (wC (.int 0))) (wS (wCallS m__law_any (wS (wV 1) (wS (wC (.int 4)) wN))) wN))))
    (wSq (wPar [6, 7] (wS (w2 subG (wCallS m__law_pick (wS (wV 1) (wS (wC (.int 9)) wN))) (wC (.int 2))) (wS (w2 subG (wCallS m__law_pick (wS (wV 1) (wS (wC (.int 9)) wN))) (wC (.int 2))) wN)))
    (wSq (wIf (wB (w2 neG (wF reprG (wA (wCall m_band_member (wS (wV 5) (wS (wV 6) (wS (wV 7) wN)))) wN)) (wF reprG (wA (wIte (wB (w3 (cG fun i j => decide (i ≤ j)) (cG fun i j => decide (i < j)) (wC (.int 0)) (w2 subG (wP 6) (wP 7)) (wF lenG (wA (wP 5) wN)))) (w2 ixG (wP 5) (w2 subG (wP 6) (wP 7))) (wC (.int 0))) wN)))) (wSq (wRet (wC (.bool false)))
    wNx) wNx)
    (wSq (wSet 8 (wCallS m__law_pick (wS (wV 1) (wS (wC (.int 4)) wN))))
    (wSq (wSet 9 (wCall m__law_some (wS (wC (.int 7)) (wS (wV 8) wN))))
    (wSq (wPar [10, 11] (wS (wCallS m__law_of (wS (wV 1) (wS (wV 9) wN))) (wS (wCallS m__law_of (wS (wV 1) (wS (wV 9) wN))) wN)))
    (wSq (wFor (wIt (wTup (wS (wV 3) (wS (wV 5) wN)))) (uN 12) (wSq (wSet 13 (wCall m_band_minor (wS (wV 12) (wS (wV 10) (wS (wV 11) wN)))))
    (wSq (wIf (wOr (wB (w2 neG (wF reprG (wA (wP 13) wN)) (wF reprG (wA (wCall m__law_minor (wS (wV 12) (wS (wV 10) (wS (wV 11) wN)))) wN)))) (wAnd (wB (w2 eqG (wP 12) (wP 3))) (wB (w2 (cG fun i j => decide (i < j)) (wP 13) (wC (.int 0)))))) (wSq (wRet (wC (.bool false)))
    wNx) wNx)
    wNx)))
    (wSq (wSet 14 (wC (.int 0)))
    (wSq (wFor (wIt (wV 9)) (uN 15) (wSq (wSet 14 (w2 addG (wP 14) (w2 mulH (wCall m_band_minor (wS (wV 3) (wS (wV 10) (wS (wV 15) wN)))) (wCall m_band_minor (wS (wV 4) (wS (wV 15) (wS (wV 11) wN)))))))
    wNx))
    (wSq (wIf (wB (w2 neG (wCall m_band_minor (wS (wCall m__law_product (wS (wV 3) (wS (wV 4) wN))) (wS (wV 10) (wS (wV 11) wN)))) (wP 14))) (wSq (wRet (wC (.bool false)))
    wNx) wNx)
    (wSq (wPar [16, 8] (wS (w2 addG (wC (.int 2)) (wCallS m__law_pick (wS (wV 1) (wS (wC (.int 3)) wN)))) (wS (w2 addG (wC (.int 1)) (wCallS m__law_pick (wS (wV 1) (wS (wC (.int 2)) wN)))) wN)))
    (wSq (wFor (wIt (wTup (wS (wV 3) (wS (wV 5) wN)))) (uN 12) (wSq (wSet 17 (wCall m__law_some (wS (wV 16) (wS (wV 8) wN))))
    (wSq (wSet 18 (wCall m__law_minor (wS (wV 12) (wS (w2 ixG (wP 17) (wC (.int 0))) (wS (w2 ixG (wP 17) (wC (.int 0))) wN)))))
    (wSq (wFor (wIt (wV 17)) (uN 19) (wSq (wSet 18 (wF (maxG fun y m => m ≤ y) (wA (w2 addG (wLst (wS (wV 18) wN)) (wLc (wIt (wV 17)) (uN 22) wYes (wCall m__law_minor (wS (wV 12) (wS (wV 22) (wS (wV 19) wN)))) [22])) wN)))
    wNx))
    (wSq (wIf (wOr (wB (w2 neG (wF reprG (wA (wCall m_least_minor (wS (wV 12) (wS (wV 16) (wS (wV 8) wN)))) wN)) (wF reprG (wA (wP 18) wN)))) (wAnd (wB (w2 eqG (wP 12) (wP 3))) (wB (w2 (cG fun i j => decide (i < j)) (wP 18) (wC (.int 0)))))) (wSq (wRet (wC (.bool false)))
    wNx) wNx)
    (wSq (wSet 18 (wLst wN))
    (wSq (wFor (wEn (wS (wV 12) wN)) (uT (uCons (uN 20) (uCons (uN 21) uNil))) (wSq (wApp 18 (w2 subG (w2 mulH (wP 21) (wP 21)) (w2 mulH (wIte (wB (w2 (cG fun i j => decide (j < i)) (wP 20) (wC (.int 0)))) (w2 ixG (wP 12) (w2 subG (wP 20) (wC (.int 1)))) (wC (.int 0))) (wIte (wB (w2 (cG fun i j => decide (i < j)) (w2 addG (wP 20) (wC (.int 1))) (wF lenG (wA (wP 12) wN)))) (w2 ixG (wP 12) (w2 addG (wP 20) (wC (.int 1)))) (wC (.int 0))))))
    wNx))
    (wSq (wIf (wOr (wB (w2 neG (wF reprG (wA (wCall m_two_lines (wS (wV 12) wN)) wN)) (wF reprG (wA (wF tupleG (wA (wP 18) wN)) wN)))) (wAnd (wB (w2 eqG (wP 12) (wP 3))) (wB (w2 (cG fun i j => decide (i < j)) (wF (maxG fun y m => m ≤ y) (wA (wP 18) wN)) (wC (.int 0)))))) (wSq (wRet (wC (.bool false)))
    wNx) wNx)
    wNx))))))))
    wNx)))))))))))))
    (wSq (wRet (wAndV (w2 eqG (wCall m_least_minor (wS (wTup (wS (wC (.int 1)) (wS (wC (.int 1)) (wS (wC (.int 1)) wN)))) (wS (wC (.int 4)) (wS (wC (.int 3)) wN)))) (w1 negG (wC (.int 1)))) (w2 eqG (wCall m_band_minor (wS (wTup (wS (wC (.int 1)) (wS (wC (.int 2)) (wS (wC (.int 1)) wN)))) (wS (wTup (wS (wC (.int 1)) (wS (wC (.int 2)) wN))) (wS (wTup (wS (wC (.int 0)) (wS (wC (.int 1)) wN))) wN)))) (wC (.int 3)))))
    wNx))
theorem bd_law {m_band_minor m_least_minor m_two_lines m__law_minor m__law_some m__law_pick m__law_product m__law_of m_band_member m__law_any m__law_lined : MD} {cdv : Value} {A : Around} {outer : List Env} {s : Shared} {H : Hp} {G : Fm} (fx : Fx mg) (hr : Room k (A.deeper (envOfC "law" (defScope s_law) s.heap.objs.size f cdv))) (ok : Okx (cxN P w K mg base N_law "law" (defScope s_law) f cdv A outer s H)) (mm_band_minor : MonoM m_band_minor) (c_band_minor : Def P w K mg base k "band_minor" ["f", "lines", "columns"] (spN m_band_minor)) (mm_least_minor : MonoM m_least_minor) (c_least_minor : Def P w K mg base k "least_minor" ["f", "size", "k"] (spN m_least_minor)) (mm_two_lines : MonoM m_two_lines) (c_two_lines : Def P w K mg base k "two_lines" ["f"] (spN m_two_lines)) (mm__law_minor : MonoM m__law_minor) (c__law_minor : Def P w K mg base k "_law_minor" ["f", "lines", "columns"] (spN m__law_minor)) (mm__law_some : MonoM m__law_some) (c__law_some : Def P w K mg base k "_law_some" ["n", "k"] (spN m__law_some)) (mm__law_pick : MonoM m__law_pick) (c__law_pick : Def P w K mg base k "_law_pick" ["source", "most"] (spS m__law_pick)) (mm__law_product : MonoM m__law_product) (c__law_product : Def P w K mg base k "_law_product" ["one", "other"] (spN m__law_product)) (mm__law_of : MonoM m__law_of) (c__law_of : Def P w K mg base k "_law_of" ["source", "some"] (spS m__law_of)) (mm_band_member : MonoM m_band_member) (c_band_member : Def P w K mg base k "band_member" ["f", "i", "j"] (spN m_band_member)) (mm__law_any : MonoM m__law_any) (c__law_any : Def P w K mg base k "_law_any" ["source", "most"] (spS m__law_any)) (mm__law_lined : MonoM m__law_lined) (c__law_lined : Def P w K mg base k "_law_lined" ["source", "most"] (spS m__law_lined)) :
    PSsD (cxN P w K mg base N_law "law" (defScope s_law) f cdv A outer s H) G (defBody s_law).tail (w_law m_band_minor m_least_minor m_two_lines m__law_minor m__law_some m__law_pick m__law_product m__law_of m_band_member m__law_any m__law_lined) :=
  (s_cons (d_for PassesOwn.never rfl (i_r1 (by rfl) fx.range d_int) (g_name sc_law.nd rfl (.inl rfl)) (s_cons (d_par3 rfl sc_law.nd rfl rfl rfl (by decide) (by decide) (by decide) rfl rfl rfl (a_s (d_ix (d_callS c__law_lined mm__law_lined ok hr rfl (a_s (d_v (pv 1)) (a_s d_int a_nil))) d_int (fun _ _ => rfl)) (a_s (d_ix (d_callS c__law_lined mm__law_lined ok hr rfl (a_s (d_v (pv 1)) (a_s d_int a_nil))) d_int (fun _ _ => rfl)) (a_s (d_callS c__law_any mm__law_any ok hr rfl (a_s (d_v (pv 1)) (a_s d_int a_nil))) a_nil))) (by rfl))
    (s_cons (d_par rfl sc_law.nd rfl rfl (by decide) rfl rfl (a_s (d_op op_sub on_subG mono_subG (d_callS c__law_pick mm__law_pick ok hr rfl (a_s (d_v (pv 1)) (a_s d_int a_nil))) d_int) (a_s (d_op op_sub on_subG mono_subG (d_callS c__law_pick mm__law_pick ok hr rfl (a_s (d_v (pv 1)) (a_s d_int a_nil))) d_int) a_nil)) (by rfl))
    (s_cons (d_if (t_cmp (op_neP ok) on_neG mono_neG (d_bi (cr_repr ok) on_repr mono_reprG (by rfl) fx.repr (by decide +kernel) (a_cons (d_call c_band_member mm_band_member ok hr rfl (a_s (d_v (pv 5)) (a_s (d_v (pv 6)) (a_s (d_v (pv 7)) a_nil)))) a_nil)) (d_bi (cr_repr ok) on_repr mono_reprG (by rfl) fx.repr (by decide +kernel) (a_cons (d_ite (t_chain op_le op_lt flat_cG on_cG mono_cG mono_cG d_int (d_op op_sub on_subG mono_subG (d_p (pv 6)) (d_p (pv 7))) (d_bi cr_len on_len mono_lenG (by rfl) fx.len (by decide +kernel) (a_cons (d_p (pv 5)) a_nil))) (d_ix (d_p (pv 5)) (d_op op_sub on_subG mono_subG (d_p (pv 6)) (d_p (pv 7))) (fun _ _ => rfl)) d_int) a_nil)) (nomark _)) (s_cons (d_ret d_bl)
    s_nil) s_nil)
    (s_cons (d_set sc_law.nd rfl (.inl rfl) (d_callS c__law_pick mm__law_pick ok hr rfl (a_s (d_v (pv 1)) (a_s d_int a_nil))))
    (s_cons (d_set sc_law.nd rfl (.inl rfl) (d_call c__law_some mm__law_some ok hr rfl (a_s d_int (a_s (d_v (pv 8)) a_nil))))
    (s_cons (d_par rfl sc_law.nd rfl rfl (by decide) rfl rfl (a_s (d_callS c__law_of mm__law_of ok hr rfl (a_s (d_v (pv 1)) (a_s (d_v (pv 9)) a_nil))) (a_s (d_callS c__law_of mm__law_of ok hr rfl (a_s (d_v (pv 1)) (a_s (d_v (pv 9)) a_nil))) a_nil)) (by rfl))
    (s_cons (d_for PassesOwn.never rfl (i_it (d_tup (a_s (d_v (pv 3)) (a_s (d_v (pv 5)) a_nil)))) (g_name sc_law.nd rfl (.inr rfl)) (s_cons (d_set sc_law.nd rfl (.inl rfl) (d_call c_band_minor mm_band_minor ok hr rfl (a_s (d_v (pv 12)) (a_s (d_v (pv 10)) (a_s (d_v (pv 11)) a_nil)))))
    (s_cons (d_if (t_w (tw_or (t_cmp (op_neP ok) on_neG mono_neG (d_bi (cr_repr ok) on_repr mono_reprG (by rfl) fx.repr (by decide +kernel) (a_cons (d_p (pv 13)) a_nil)) (d_bi (cr_repr ok) on_repr mono_reprG (by rfl) fx.repr (by decide +kernel) (a_cons (d_call c__law_minor mm__law_minor ok hr rfl (a_s (d_v (pv 12)) (a_s (d_v (pv 10)) (a_s (d_v (pv 11)) a_nil)))) a_nil)) (nomark _)) (tw_or1 (t_w (tw_and (t_cmp (op_eqP ok) on_eqG mono_eqG (d_p (pv 12)) (d_p (pv 3)) (nomark _)) (tw_and1 (t_cmp op_lt on_cG mono_cG (d_p (pv 13)) d_int (nomark _)))))))) (s_cons (d_ret d_bl)
    s_nil) s_nil)
    s_nil)))
    (s_cons (d_set sc_law.nd rfl (.inl rfl) d_int)
    (s_cons (d_for PassesOwn.never rfl (i_it (d_v (pv 9))) (g_name sc_law.nd rfl (.inl rfl)) (s_cons (d_set sc_law.nd rfl (.inl rfl) (d_op op_addA on_addG mono_addG (d_p (pv 14)) (d_op op_mulH on_mulH mono_mulH (d_call c_band_minor mm_band_minor ok hr rfl (a_s (d_v (pv 3)) (a_s (d_v (pv 10)) (a_s (d_v (pv 15)) a_nil)))) (d_call c_band_minor mm_band_minor ok hr rfl (a_s (d_v (pv 4)) (a_s (d_v (pv 15)) (a_s (d_v (pv 11)) a_nil)))))))
    s_nil))
    (s_cons (d_if (t_cmp (op_neP ok) on_neG mono_neG (d_call c_band_minor mm_band_minor ok hr rfl (a_s (d_call c__law_product mm__law_product ok hr rfl (a_s (d_v (pv 3)) (a_s (d_v (pv 4)) a_nil))) (a_s (d_v (pv 10)) (a_s (d_v (pv 11)) a_nil)))) (d_p (pv 14)) (nomark _)) (s_cons (d_ret d_bl)
    s_nil) s_nil)
    (s_cons (d_par rfl sc_law.nd rfl rfl (by decide) rfl rfl (a_s (d_op op_addA on_addG mono_addG d_int (d_callS c__law_pick mm__law_pick ok hr rfl (a_s (d_v (pv 1)) (a_s d_int a_nil)))) (a_s (d_op op_addA on_addG mono_addG d_int (d_callS c__law_pick mm__law_pick ok hr rfl (a_s (d_v (pv 1)) (a_s d_int a_nil)))) a_nil)) (by rfl))
    (s_cons (d_for PassesOwn.never rfl (i_it (d_tup (a_s (d_v (pv 3)) (a_s (d_v (pv 5)) a_nil)))) (g_name sc_law.nd rfl (.inr rfl)) (s_cons (d_set sc_law.nd rfl (.inl rfl) (d_call c__law_some mm__law_some ok hr rfl (a_s (d_v (pv 16)) (a_s (d_v (pv 8)) a_nil))))
    (s_cons (d_set sc_law.nd rfl (.inl rfl) (d_call c__law_minor mm__law_minor ok hr rfl (a_s (d_v (pv 12)) (a_s (d_ix (d_p (pv 17)) d_int (fun _ _ => rfl)) (a_s (d_ix (d_p (pv 17)) d_int (fun _ _ => rfl)) a_nil)))))
    (s_cons (d_for PassesOwn.never rfl (i_it (d_v (pv 17))) (g_name sc_law.nd rfl (.inr rfl)) (s_cons (d_set sc_law.nd rfl (.inl rfl) (d_bi (cr_min rfl) on_minL mono_maxG (by rfl) fx.min (by decide +kernel) (a_cons (d_op op_addA on_addG mono_addG (d_lst (a_s (d_v (pv 18)) a_nil)) (d_lc (own := [("one", 22)]) rfl sc_law.nd (i_it (d_v (pv 17))) (blkOk_by (by kernel_rfl)) (by decide) (fun _ _ _ _ _ _ => (g_name sc_law.nd rfl (.inl rfl))) (fun _ _ _ _ _ _ => ts_nil) (fun _ _ _ _ _ _ => (d_call c__law_minor mm__law_minor (okb ok) hr rfl (a_s (d_v (pv 12)) (a_s (d_v (pv 22)) (a_s (d_v (pv 19)) a_nil))))))) a_nil)))
    s_nil))
    (s_cons (d_if (t_w (tw_or (t_cmp (op_neP ok) on_neG mono_neG (d_bi (cr_repr ok) on_repr mono_reprG (by rfl) fx.repr (by decide +kernel) (a_cons (d_call c_least_minor mm_least_minor ok hr rfl (a_s (d_v (pv 12)) (a_s (d_v (pv 16)) (a_s (d_v (pv 8)) a_nil)))) a_nil)) (d_bi (cr_repr ok) on_repr mono_reprG (by rfl) fx.repr (by decide +kernel) (a_cons (d_p (pv 18)) a_nil)) (nomark _)) (tw_or1 (t_w (tw_and (t_cmp (op_eqP ok) on_eqG mono_eqG (d_p (pv 12)) (d_p (pv 3)) (nomark _)) (tw_and1 (t_cmp op_lt on_cG mono_cG (d_p (pv 18)) d_int (nomark _)))))))) (s_cons (d_ret d_bl)
    s_nil) s_nil)
    (s_cons (d_set sc_law.nd rfl (.inl rfl) (d_lst a_nil))
    (s_cons (d_for PassesOwn.never rfl (i_en (by rfl) fx.enumerate (a_s (d_v (pv 12)) a_nil)) (g_tup rfl (gs_cons (g_name sc_law.nd rfl (.inl rfl)) (gs_cons (g_name sc_law.nd rfl (.inl rfl)) gs_nil)) (ul_cons (ul_cons ul_nil ux_n) ux_n)) (s_cons (d_app (pv 18) (d_op op_sub on_subG mono_subG (d_op op_mulH on_mulH mono_mulH (d_p (pv 21)) (d_p (pv 21))) (d_op op_mulH on_mulH mono_mulH (d_ite (t_cmp op_gt on_cG mono_cG (d_p (pv 20)) d_int (nomark _)) (d_ix (d_p (pv 12)) (d_op op_sub on_subG mono_subG (d_p (pv 20)) d_int) (fun _ _ => rfl)) d_int) (d_ite (t_cmp op_lt on_cG mono_cG (d_op op_addA on_addG mono_addG (d_p (pv 20)) d_int) (d_bi cr_len on_len mono_lenG (by rfl) fx.len (by decide +kernel) (a_cons (d_p (pv 12)) a_nil)) (nomark _)) (d_ix (d_p (pv 12)) (d_op op_addA on_addG mono_addG (d_p (pv 20)) d_int) (fun _ _ => rfl)) d_int))) (fun h => pe_bm PySem.F.plainAttrs_list PySem.F.slot_list_append PySem.F.type_list_append mt_append (pv 18) h))
    s_nil))
    (s_cons (d_if (t_w (tw_or (t_cmp (op_neP ok) on_neG mono_neG (d_bi (cr_repr ok) on_repr mono_reprG (by rfl) fx.repr (by decide +kernel) (a_cons (d_call c_two_lines mm_two_lines ok hr rfl (a_s (d_v (pv 12)) a_nil)) a_nil)) (d_bi (cr_repr ok) on_repr mono_reprG (by rfl) fx.repr (by decide +kernel) (a_cons (d_ty cr_tuple on_tuple mono_tupleG (by rfl) fx.tuple (by decide +kernel) (a_cons (d_p (pv 18)) a_nil)) a_nil)) (nomark _)) (tw_or1 (t_w (tw_and (t_cmp (op_eqP ok) on_eqG mono_eqG (d_p (pv 12)) (d_p (pv 3)) (nomark _)) (tw_and1 (t_cmp op_lt on_cG mono_cG (d_bi (cr_min rfl) on_minL mono_maxG (by rfl) fx.min (by decide +kernel) (a_cons (d_p (pv 18)) a_nil)) d_int (nomark _)))))))) (s_cons (d_ret d_bl)
    s_nil) s_nil)
    s_nil))))))))
    s_nil)))))))))))))
    (s_cons (d_ret (d_and (d_cmp (op_eqP ok) on_eqG mono_eqG (d_call c_least_minor mm_least_minor ok hr rfl (a_s (d_tup (a_s d_int (a_s d_int (a_s d_int a_nil)))) (a_s d_int (a_s d_int a_nil)))) (d_un un_neg on_negG mono_negG d_int) (nomark _)) (d_one (d_cmp (op_eqP ok) on_eqG mono_eqG (d_call c_band_minor mm_band_minor ok hr rfl (a_s (d_tup (a_s d_int (a_s d_int (a_s d_int a_nil)))) (a_s (d_tup (a_s d_int (a_s d_int a_nil))) (a_s (d_tup (a_s d_int (a_s d_int a_nil))) a_nil)))) d_int (nomark _)))))
    s_nil))
theorem bd__law_open_cells {cdv : Value} {A : Around} {outer : List Env} {s : Shared} {H : Hp} (fx : Fx mg) (hr : Room k (A.deeper (envOfC "_law_open_cells" (defScope s__law_open_cells) s.heap.objs.size f cdv))) :
    PSs (cxN P w K mg base N__law_open_cells "_law_open_cells" (defScope s__law_open_cells) f cdv A outer s H) (defBody s__law_open_cells) (tSrc K) :=
  pss_cons (ps_set sc__law_open_cells.nd rfl (.inl rfl) pe_int) (pss_cons (ps_for PassesOwn.never rfl (pi_list (pv 0)) (pg_name sc__law_open_cells.nd rfl (.inl rfl))
    (pss_one (ps_set sc__law_open_cells.nd rfl (.inl rfl) (pe_op op_mod (pe_callTy call_int1 (by rfl) fx.int (by decide +kernel) (pa_cons (pe_op op_add (pe_op op_add (pe_op op_mul (pv 1) pe_int) (pe_op op_mul (pv 2) pe_int)) pe_int) pa_nil)) pe_int))))
    (pss_cons (ps_setLc (own := [("cell", 2)]) rfl sc__law_open_cells.nd rfl rfl (by rfl) (pi_list (pv 0)) (blkOk_by (by kernel_rfl)) (fun _ _ _ _ _ => pg_name sc__law_open_cells.nd rfl (.inl rfl)) (fun _ _ _ _ _ => pts_nil) (fun _ _ _ _ _ => pe_callB call_abs (by rfl) fx.abs (by decide +kernel) (pa_cons (pv 2) pa_nil)))
    (pss_one (ps_ret (pe_disp (pps_cons pe_str (pe_revL (pv 3)) (pps_cons pe_str pe_int (pps_cons pe_str (pv 1) (pps_cons pe_str pe_int pps_nil)))) rfl rfl (by simp) (by decide))))))
theorem bd__law_pick {cdv : Value} {A : Around} {outer : List Env} {s : Shared} {H : Hp} (fx : Fx mg) (hr : Room k (A.deeper (envOfC "_law_pick" (defScope s__law_pick) s.heap.objs.size f cdv))) :
    PSs (cxN P w K mg base N__law_pick "_law_pick" (defScope s__law_pick) f cdv A outer s H) (defBody s__law_pick) (tPick K) :=
  have hu : (A.deeper (envOfC "_law_pick" (defScope s__law_pick) s.heap.objs.size f cdv)).units + 1 < cLine := by have := hr.un; omega
  pss_cons (ps_if (pt_cmp (pc_lt (pv 1) pe_int)) (pss_one (ps_ret pe_int)) pss_nil) (pss_cons (ps_set sc__law_pick.nd rfl (.inl rfl) (pe_dget hu (pv 0) pe_str (fun _ _ => rfl)))
    (pss_cons (ps_while PassesOwn.never (PW.pt (pw_and (pt_cmp (pc_lt (pe_dget hu (pv 0) pe_str (fun _ _ => rfl)) pe_int)) (pw_and1 (pt_cmp (pc_gt (pe_callB call_len (by rfl) fx.len boot_len (pa_cons (pv 2) pa_nil)) pe_int)))))
      (pss_one (ps_dput hu (pv 0) pe_str (pe_bm0 PySem.F.plainAttrs_list PySem.F.slot_list_pop PySem.F.type_list_pop mt_pop (pv 2)) (by rfl))))
    (pss_cons (ps_set sc__law_pick.nd rfl (.inl rfl) (pe_dget hu (pv 0) pe_str (fun _ _ => rfl)))
    (pss_cons (ps_if (pt_cmp (pc_gt (pv 3) pe_int)) (pss_cons (ps_dput hu (pv 0) pe_str (pe_op op_fdiv (pv 3) (pv 1)) (by rfl)) (pss_one (ps_ret (pe_op op_mod (pe_callTy call_int1 (by rfl) fx.int (by decide +kernel) (pa_cons (pv 3) pa_nil)) (pv 1))))) pss_nil)
    (pss_cons (ps_dput hu (pv 0) pe_str (pe_op op_add (pe_dget hu (pv 0) pe_str (fun _ _ => rfl)) pe_int) (by rfl))
    (pss_cons (ps_set sc__law_pick.nd rfl (.inl rfl) (pe_dget hu (pv 0) pe_str (fun _ _ => rfl)))
    (pss_cons (ps_set sc__law_pick.nd rfl (.inl rfl) (pe_op op_mod (pe_callTy call_int1 (by rfl) fx.int (by decide +kernel) (pa_cons (pe_op op_add (pe_dget hu (pv 0) pe_str (fun _ _ => rfl)) (pe_op op_mul (pv 4) pe_int)) pa_nil)) pe_int))
    (pss_cons (ps_set sc__law_pick.nd rfl (.inl rfl) (pe_op op_mod (pe_callTy call_int1 (by rfl) fx.int (by decide +kernel) (pa_cons (pe_op op_add (pe_op op_mul (pv 5) (pv 5)) (pe_op op_mul (pv 4) pe_int)) pa_nil)) pe_int))
    (pss_one (ps_ret (pe_op op_mod (pe_callTy call_int1 (by rfl) fx.int (by decide +kernel) (pa_cons (pe_op op_fdiv (pv 5) pe_int) pa_nil)) (pv 1)))))))))))) 
end
end K79

set_option Elab.async false
set_option linter.all false
set_option maxRecDepth 100000
namespace K79
open PySem PySem.Spec PyProof.Rows L2 DL
abbrev m__law_pick := mPick
theorem mm__law_pick : MonoM m__law_pick := mono_mPick
theorem pick_i {n : Int} {Q : D → Prop} (h : n < 536870912) (k : ∀ r : Int, 0 ≤ r → (r < n ∨ (n < 2 ∧ r = 0)) → Q (.int r)) : mPick [.int n] Q := ⟨n, rfl, h, k⟩
def rowI (l : List Int) (d : D) : Prop := d = .tuple (l.map .int) ∨ d = .list (l.map .int)
def tldB (l : List Int) (r : Nat) : Bool := (List.range (r + 1)).all fun k => decide (chg (difr l k) = k)
def m__law_of : MD := fun ds Q => ∃ xs : List D, ds = [.list xs] ∧ xs ≠ [] ∧ xs.length ≤ 1000 ∧ ∀ x ∈ xs, Q x
theorem mm__law_of : MonoM m__law_of := fun ds Q Q' h ⟨x, e, a, b, k⟩ => ⟨x, e, a, b, fun y hy => h _ (k y hy)⟩
theorem len__law_of : ∀ ds Q, m__law_of ds Q → ds.length + 1 = 2 := fun ds Q ⟨x, e, k⟩ => by rw [e]; rfl
theorem hm__law_of : ∀ ds Q, m__law_of ds Q → w__law_of m__law_pick { nx := fun _ => Q .none, rt := Q } (rho0 N__law_of (.src :: ds.map Sl.im)) := by
  rintro _ Q ⟨xs, rfl, n, l, k⟩
  have := List.length_pos_iff.mpr n
  unfold w__law_of
  simp -implicitDefEqProofs [rho0]
  refine pick_i (by omega) fun r r0 r1 => ?_
  have hr : r.toNat < xs.length := by omega
  have e : atI xs r = some xs[r.toNat] := by
    unfold atI ixN
    rw [if_pos r0, if_pos (by omega)]
    exact List.getElem?_eq_getElem _
  show got (atI xs r) _
  rw [e]
  exact k _ (List.getElem_mem _)
end K79

set_option Elab.async false
set_option linter.all false
set_option maxRecDepth 100000
namespace K79
open PySem PySem.Spec PyProof.Rows L2 DL
def mLowP : MD := fun ds Q => ∃ p q, ds = [.int p, .int q] ∧ 0 < q ∧ Bd 8000 q ∧ Q (frD (low p q))
abbrev m__law_lowest : MD := mLowP
theorem mm__law_lowest : MonoM m__law_lowest := fun ds Q Q' h ⟨a, b, e, n, c, k⟩ => ⟨a, b, e, n, c, h _ k⟩
theorem len__law_lowest : ∀ ds Q, m__law_lowest ds Q → ds.length = 2 := fun ds Q ⟨xs, b, e, _⟩ => by rw [e]; rfl
theorem max_abs (p : Int) : (if p < 0 - p then 0 - p else p) = (p.natAbs : Int) := by split <;> omega
theorem hm__law_lowest : ∀ ds Q, m__law_lowest ds Q → w__law_lowest { nx := fun _ => Q .none, rt := Q } (rho0 N__law_lowest (ds.map Sl.im)) := by
  rintro _ Q ⟨p, q, rfl, q0, bq, k⟩
  unfold w__law_lowest
  refine sq_k fun N hN => ?_
  simp -implicitDefEqProofs [rho0, maxF]
  have em : (if p < -p then -p else p) = (p.natAbs : Int) := by split <;> omega
  rw [em]
  refine hN _ ?_
  clear hN
  refine sq_k fun N hN => ?_
  obtain ⟨m, rfl⟩ := Int.eq_ofNat_of_zero_le (Int.le_of_lt q0)
  refine wh_ind (fun n ρ => ∃ c : Nat, ρ = [.im (.int p), .im (.int (m : Int)), .im (.int c), .im (.int n)] ∧ Nat.gcd c n = Nat.gcd p.natAbs m) ?_ m _ ⟨p.natAbs, rfl, rfl⟩
  rintro n _ K ⟨c, rfl, g⟩ hK
  simp -implicitDefEqProofs
  refine ite_p (fun h => ?_) fun h => ?_
  · refine ⟨by omega, hK (c % n) _ (Nat.mod_lt _ h) ⟨n, ?_, ?_⟩⟩
    · rw [Int.fmod_eq_emod_of_nonneg _ (by omega), Int.natCast_emod]
    · rw [Nat.gcd_comm, ← Nat.gcd_rec, Nat.gcd_comm]; exact g
  · have : n = 0 := by omega
    subst this
    rw [Nat.gcd_zero_right] at g
    refine hN _ ?_
    have hb := (by_B (p := p) bq (show (m : Int) ≠ 0 by omega)).div (by_ne (show (m : Int) ≠ 0 by omega))
    have eb : byF p (m : Int) = (c : Int) := by
      unfold byF gcdF
      rw [if_pos q0, g]
      rfl
    unfold low at k
    rw [eb] at k hb
    simp -implicitDefEqProofs
    exact ⟨hb, k⟩
/-- the row behind i numbers of a, and j of b -/
def pcj (a b : List Int) (k : Int) (i j : Nat) : Int := pcv a b k i + (if k - i < j then cfI a i * cfI b (k - i) else 0)
def m__law_product : MD := fun ds Q => ∃ a b : List Int, ds = [.tuple (a.map .int), .tuple (b.map .int)] ∧ 0 < a.length ∧ a.length ≤ 100 ∧ 0 < b.length ∧ b.length ≤ 100 ∧ (∀ x ∈ a, Bd 100 x) ∧ (∀ x ∈ b, Bd 100 x) ∧ Q (.tuple ((conv a b).map .int))
theorem mm__law_product : MonoM m__law_product := fun ds Q Q' h ⟨a, b, e, n, c, o, p, q, r, k⟩ => ⟨a, b, e, n, c, o, p, q, r, h _ k⟩
theorem len__law_product : ∀ ds Q, m__law_product ds Q → ds.length = 2 := fun ds Q ⟨xs, b, e, _⟩ => by rw [e]; rfl
theorem hm__law_product : ∀ ds Q, m__law_product ds Q → w__law_product { nx := fun _ => Q .none, rt := Q } (rho0 N__law_product (ds.map Sl.im)) := by
  rintro _ Q ⟨a, b, rfl, a0, a1, b0, b1, ha, hb, k⟩
  unfold w__law_product
  refine sq_k fun N hN => ?_
  simp -implicitDefEqProofs [rho0]
  refine ⟨by omega, by omega, by omega, hN _ ?_⟩
  clear hN
  refine sq_k fun N hN => ?_
  simp -implicitDefEqProofs
  have e0 : List.replicate ((↑a.length + ↑b.length : Int).toNat - 1) (PyData.int 0) = (List.range (a.length + b.length - 1)).map fun (k : Nat) => PyData.int (pcv a b k 0) := by
    rw [show (↑a.length + ↑b.length : Int).toNat - 1 = a.length + b.length - 1 by omega]
    show _ = (List.range (a.length + b.length - 1)).map fun (k : Nat) => PyData.int 0
    rw [List.map_const', List.length_range]
  rw [e0]
  refine loop_en (fun i ρ => ∃ s3 s4 s5 s6, ρ = [.im (.tuple (a.map .int)), .im (.tuple (b.map .int)), .ow ((List.range (a.length + b.length - 1)).map fun (k : Nat) => PyData.int (pcv a b k i)), s3, s4, s5, s6]) ⟨_, _, _, _, rfl⟩ ?_ ?_
  · rintro _ ⟨s3, s4, s5, s6, rfl⟩
    refine hN _ ?_
    clear hN
    have e : (List.range (a.length + b.length - 1)).map (fun (k : Nat) => PyData.int (pcv a b k a.length)) = (conv a b).map .int := by
      unfold conv
      rw [List.map_map]; rfl
    rw [e]
    simp -implicitDefEqProofs
    exact k
  · clear hN
    rintro i x hx _ K ⟨s3, s4, s5, s6, rfl⟩ hK
    obtain ⟨hi, ex⟩ := List.getElem?_eq_some_iff.mp hx
    have bx := ha x (List.mem_of_getElem? hx)
    simp -implicitDefEqProofs
    have e1 : (List.range (a.length + b.length - 1)).map (fun (k : Nat) => PyData.int (pcv a b k i)) = (List.range (a.length + b.length - 1)).map fun (k : Nat) => PyData.int (pcj a b k i 0) := by
      apply List.map_congr_left
      intro k hk
      unfold pcj
      by_cases h : (k : Int) - i < 0
      · rw [if_pos (by omega), cfI_neg h]; simp
      · rw [if_neg (by omega)]; simp
    rw [e1]
    refine loop_en (fun j ρ => ∃ s5 s6, ρ = [.im (.tuple (a.map .int)), .im (.tuple (b.map .int)), .ow ((List.range (a.length + b.length - 1)).map fun (k : Nat) => PyData.int (pcj a b k i j)), .im (.int i), .im (.int x), s5, s6]) ⟨_, _, rfl⟩ ?_ ?_
    · rintro _ ⟨s5, s6, rfl⟩
      simp -implicitDefEqProofs
      have e2 : (List.range (a.length + b.length - 1)).map (fun (k : Nat) => PyData.int (pcj a b k i b.length)) = (List.range (a.length + b.length - 1)).map fun (k : Nat) => PyData.int (pcv a b k (i + 1)) := by
        apply List.map_congr_left
        intro k hk
        unfold pcj
        rw [pcv]
        by_cases h : (k : Int) - i < b.length
        · rw [if_pos (by omega)]
        · rw [if_neg (by omega), cfI_out (F := b) (i := (k : Int) - i) (by omega)]; simp
      rw [e2]
      exact hK _ ⟨_, _, _, _, rfl⟩
    · rintro j y hy _ K2 ⟨s5, s6, rfl⟩ hK2
      obtain ⟨hj, ey⟩ := List.getElem?_eq_some_iff.mp hy
      have by' := hb y (List.mem_of_getElem? hy)
      have a1 := rng_at (n := a.length + b.length - 1) (f := fun k : Nat => pcj a b k i j) (i := (i : Int) + j) (by omega) (by omega)
      have i1 := ixN_in (n := a.length + b.length - 1) (i := (i : Int) + j) (by omega) (by omega)
      simp -implicitDefEqProofs only [x_uT, x_uCons, x_uNil, x_uN, x_put5, x_put6]
      simp -implicitDefEqProofs [a1]
      refine ⟨bx.ok by', ?_⟩
      rw [i1, got_some, rng_set]
      have ez : ((0 : Int) + (j : Int)) = j := by omega
      have e3 : (List.range (a.length + b.length - 1)).map (fun (z : Nat) => if z = ((i : Int) + j).toNat then PyData.int (pcj a b (max ((i : Int) + j) 0) i j + x * y) else PyData.int (pcj a b z i j)) = (List.range (a.length + b.length - 1)).map fun (z : Nat) => PyData.int (pcj a b z i (j + 1)) := by
        apply List.map_congr_left
        intro z hz
        have x1 : cfI a i = x := by unfold cfI; rw [if_pos (by omega), Int.toNat_natCast, List.getD_eq_getElem?_getD, hx] <;> rfl
        have y1 : cfI b j = y := by unfold cfI; rw [if_pos (by omega), Int.toNat_natCast, List.getD_eq_getElem?_getD, hy] <;> rfl
        by_cases h : z = ((i : Int) + j).toNat
        · rw [if_pos h]
          have : (z : Int) = (i : Int) + j := by omega
          unfold pcj
          rw [this, show max ((i : Int) + j) 0 = (i : Int) + j by omega, show (i : Int) + j - i = j by omega, if_neg (by omega), if_pos (by omega), x1, y1]
          simp
        · rw [if_neg h]
          unfold pcj
          by_cases h2 : (z : Int) - i < j
          · rw [if_pos h2, if_pos (by omega)]
          · rw [if_neg h2, if_neg (by omega)]
      rw [e3]
      exact hK2 _ ⟨_, _, rfl⟩
end K79

set_option Elab.async false
set_option linter.all false
set_option maxRecDepth 100000
namespace K79
open PySem PySem.Spec PyProof.Rows L2 DL
def PsOk (ps : List (Int × Int)) : Prop := ∀ x ∈ ps, (0 ≤ x.1 ∧ x.1 ≤ 5) ∧ 1 ≤ x.2 ∧ x.2 ≤ 2
theorem linP_ne {c : Int} : ∀ ps : List (Int × Int), linP c ps ≠ []
  | [] => by simp [linP]
  | (p, q) :: r => by
    rw [linP]
    intro z
    have := goM_len (p := p) (q := q) (linP c r) 0
    rw [z] at this
    simp at this
theorem linP_len {c : Int} : ∀ ps : List (Int × Int), (linP c ps).length = ps.length + 1
  | [] => rfl
  | (p, q) :: r => by rw [linP, goM_len, linP_len r]; rfl
theorem goM_Bd {p q : Int} {k : Nat} (hp : Bd 3 p) (hq : Bd 3 q) : ∀ {l : List Int} {a : Int}, Bd k a → (∀ x ∈ l, Bd k x) → ∀ x ∈ goM p q a l, Bd (k + 4) x
  | [], a, ha, _, x, hx => by
    rw [goM, List.mem_singleton] at hx
    subst hx
    exact (hq.mul ha).mono (by omega)
  | y :: ys, a, ha, hl, x, hx => by
    rw [goM] at hx
    rcases List.mem_cons.mp hx with z | z
    · subst z
      have h1 := hp.mul (hl y List.mem_cons_self)
      have h2 := hq.mul ha
      exact (h1.add h2).mono (by omega)
    · exact goM_Bd hp hq (hl y List.mem_cons_self) (fun x hx => hl x (List.mem_cons_of_mem _ hx)) x z
theorem linP_Bd {c : Int} (hc : 1 ≤ c ∧ c ≤ 3) : ∀ {ps : List (Int × Int)}, PsOk ps → ∀ x ∈ linP c ps, Bd (3 + 4 * ps.length) x
  | [], _, x, hx => by
    rw [linP, List.mem_singleton] at hx
    subst hx
    unfold Bd; simp; omega
  | (p, q) :: r, h, x, hx => by
    obtain ⟨h1, h2⟩ := h (p, q) List.mem_cons_self
    have ih := linP_Bd hc (ps := r) fun x hx => h x (List.mem_cons_of_mem _ hx)
    rw [linP] at hx
    have := goM_Bd (k := 3 + 4 * r.length) (show Bd 3 p by unfold Bd; simp at h1; omega) (show Bd 3 q by unfold Bd; simp at h2; omega) (show Bd (3 + 4 * r.length) 0 by unfold Bd; simp; exact Nat.pow_pos (by decide)) ih x hx
    rw [List.length_cons]
    exact this.mono (by omega)
def m__law_lined : MD := fun ds Q => ∃ n, ds = [.int n] ∧ 0 ≤ n ∧ n ≤ 7 ∧ ∀ (c : Int) (ps : List (Int × Int)) (xs : List D), 1 ≤ c ∧ c ≤ 3 → PsOk ps → (ps.length : Int) ≤ n → Q (.tuple [.tuple ((linP c ps).map .int), .list xs])
theorem mm__law_lined : MonoM m__law_lined := fun ds Q Q' h ⟨n, e, a, b, k⟩ => ⟨n, e, a, b, fun c ps xs h1 h2 h3 => h _ (k c ps xs h1 h2 h3)⟩
theorem len__law_lined : ∀ ds Q, m__law_lined ds Q → ds.length + 1 = 2 := fun ds Q ⟨x, e, k⟩ => by rw [e]; rfl
theorem hm__law_lined : ∀ ds Q, m__law_lined ds Q → w__law_lined m__law_lowest m__law_product m__law_pick { nx := fun _ => Q .none, rt := Q } (rho0 N__law_lined (.src :: ds.map Sl.im)) := by
  rintro _ Q ⟨n, rfl, n0, n7, k⟩
  unfold w__law_lined
  refine sq_k fun N hN => ?_
  simp -implicitDefEqProofs [rho0]
  refine pick_i (by omega) fun m m0 m1 => pick_i (by omega) fun c c0 c1 => ?_
  simp -implicitDefEqProofs
  refine hN _ ?_
  clear hN
  have hc : 1 ≤ 1 + c ∧ 1 + c ≤ 3 := by omega
  generalize 1 + c = c at *
  refine sq_k fun N hN => ?_
  simp -implicitDefEqProofs
  refine ⟨⟨by omega, by omega⟩, loop_rg (fun j ρ => ∃ (ps : List (Int × Int)) (xs : List D) (s5 s6 s7 : Sl), ps.length = j ∧ PsOk ps ∧ xs.length = j ∧ ρ = [.src, .im (.int n), .im (.int m), .im (.tuple ((linP c ps).map .int)), .ow xs, s5, s6, s7]) ⟨[], [], _, _, _, rfl, (fun x h => by cases h), rfl, rfl⟩ ?_ ?_⟩
  · rintro _ ⟨ps, xs, s5, s6, s7, hl, ho, hx, rfl⟩
    refine hN _ ?_
    clear hN
    simp -implicitDefEqProofs
    exact k c ps xs hc ho (by omega)
  · clear hN
    rintro j hj _ K ⟨ps, xs, s5, s6, s7, hl, ho, hx, rfl⟩ hK
    simp -implicitDefEqProofs only [x_uN, x_put5]
    refine sq_k fun N hN => ?_
    simp -implicitDefEqProofs
    refine pick_i (by omega) fun q q0 q1 => ?_
    simp -implicitDefEqProofs
    refine pick_i (by omega) fun p p0 p1 => ?_
    refine hN _ ?_
    clear hN
    have hq : 1 ≤ 1 + q ∧ 1 + q ≤ 2 := by omega
    generalize 1 + q = q at *
    refine sq_k fun N hN => ?_
    simp -implicitDefEqProofs
    have bl := linP_Bd hc ho
    have ll := linP_len (c := c) ps
    have e2 : [PyData.int p, PyData.int q] = [p, q].map .int := rfl
    rw [e2]
    refine ⟨linP c ps, [p, q], rfl, by omega, by omega, by simp, by simp, fun x hx => (bl x hx).mono (by omega), fun x hx => ?_, ?_⟩
    · simp at hx
      rcases hx with rfl | rfl <;> (unfold Bd; omega)
    rw [conv_lin (linP_ne ps)]
    have e3 : goM p q 0 (linP c ps) = linP c ((p, q) :: ps) := rfl
    rw [e3]
    refine hN _ ?_
    clear hN
    simp -implicitDefEqProofs
    refine ⟨p, q, rfl, by omega, by unfold Bd; omega, ?_⟩
    refine ⟨by omega, hK _ ⟨(p, q) :: ps, _, _, _, _, by simp [hl], fun x hx => ?_, by simp [hx], rfl⟩⟩
    rcases List.mem_cons.mp hx with z | z
    · subst z; exact ⟨⟨p0, by omega⟩, hq⟩
    · exact ho x z
def AnyOk (n : Int) (l : List Int) : Prop := (l.length : Int) ≤ n + 1 ∧ (∀ x ∈ l, 0 ≤ x ∧ x ≤ 6) ∧ ∃ x ∈ l, x ≠ 0
def m__law_any : MD := fun ds Q => ∃ n, ds = [.int n] ∧ 0 ≤ n ∧ n ≤ 7 ∧ ∀ l : List Int, AnyOk n l → Q (.tuple (l.map .int))
theorem mm__law_any : MonoM m__law_any := fun ds Q Q' h ⟨n, e, a, b, k⟩ => ⟨n, e, a, b, fun l h1 => h _ (k l h1)⟩
theorem len__law_any : ∀ ds Q, m__law_any ds Q → ds.length + 1 = 2 := fun ds Q ⟨x, e, k⟩ => by rw [e]; rfl
theorem hm__law_any : ∀ ds Q, m__law_any ds Q → w__law_any m__law_pick m__law_of { nx := fun _ => Q .none, rt := Q } (rho0 N__law_any (.src :: ds.map Sl.im)) := by
  rintro _ Q ⟨n, rfl, n0, n7, k⟩
  unfold w__law_any
  refine sq_k fun N hN => ?_
  simp -implicitDefEqProofs [rho0]
  refine pick_i (by omega) fun m m0 m1 => ?_
  simp -implicitDefEqProofs
  refine ⟨⟨by omega, by omega⟩, ?_⟩
  rw [rgD_map]
  refine comp_each (fun ρ => ρ = [.src, .im (.int n), .no, .no]) (h := PyData.int) (fun x => 0 ≤ x ∧ x ≤ 6) rfl (by simp; omega) ?_ ?_
  · rintro ws _ hl hw rfl
    refine hN _ ?_
    clear hN
    simp -implicitDefEqProofs
    refine pick_i (by omega) fun c c0 c1 => ?_
    simp -implicitDefEqProofs
    have e : List.map PyData.int ws ++ [PyData.int (1 + c)] = (ws ++ [1 + c]).map .int := by simp
    have hl2 : (ws.length : Int) ≤ n := by simp at hl; omega
    rw [e]
    refine ⟨by omega, k _ ⟨by simp; omega, fun x hx => ?_, ⟨1 + c, by simp, by omega⟩⟩⟩
    rcases List.mem_append.mp hx with z | z
    · exact hw x z
    · rw [List.mem_singleton.mp z]; omega
  · rintro j hj _ rfl K E hK
    simp -implicitDefEqProofs
    refine ⟨_, rfl, by simp, by simp, fun x hx => ?_⟩
    have : ∃ i : Int, x = .int i ∧ 0 ≤ i ∧ i ≤ 6 := by
      simp at hx
      rcases hx with rfl | rfl | rfl | rfl | rfl <;> exact ⟨_, rfl, by decide, by decide⟩
    obtain ⟨i, rfl, i0, i1⟩ := this
    exact hK i ⟨i0, i1⟩ _ rfl
def pos01 (l : List Int) : List Int := (l.filter fun x => decide (x ≠ 0)).map fun x => if 0 < x then 1 else 0
theorem pos_adj (l : List Int) : adj (pos01 l) = chg l := by
  unfold chg
  rw [← adj_ch0]
  have e : pos01 l = (nzs l).map fun x => if 0 < x then 1 else 0 := by
    unfold pos01 nzs
    rw [List.map_map]
    apply List.map_congr_left
    intro x hx
    show _ = if 0 < x.sign then 1 else 0
    rcases sg_cases x with ⟨a, b⟩ | ⟨a, b⟩ | ⟨a, b⟩ <;> rw [b]
    · rw [if_neg (by omega), if_neg (by omega)]
    · rw [if_pos a, if_pos (by decide)]
    · rw [if_neg (by omega), if_neg (by decide)]
  rw [e]
  refine adj_map fun a ha b hb h => ?_
  have key : ∀ z ∈ nzs l, z = 1 ∨ z = -1 := fun z hz => by
    unfold nzs at hz
    obtain ⟨x, hx, rfl⟩ := List.mem_map.mp hz
    have hx := (List.mem_filter.mp hx).2
    rcases sg_cases x with ⟨a, b⟩ | ⟨a, b⟩ | ⟨a, b⟩
    · subst a; simp at hx
    · exact .inl b
    · exact .inr b
  rcases key a ha with rfl | rfl <;> rcases key b hb with rfl | rfl <;> simp at h ⊢
theorem cho_B : ∀ a : Nat, a ≤ 6 → ∀ i : Nat, i ≤ 6 → (cho (a : Int) i).natAbs < 2 ^ 10 := by decide
end K79



set_option Elab.async false
set_option linter.all false
set_option maxRecDepth 100000
namespace K79
open PySem PySem.Spec PyProof.Rows L2 DL
theorem comp_consP {g : TGD} {tt : WT} {te : WE} {vs : List Nat} {x : D} {xs acc : List D} {ρ : List Sl} {Q : List D → List Sl → Prop} : compD g tt te vs (x :: xs) acc ρ Q =
    wipeP vs (fun ρ0 => g x ρ0 fun ρ1 => tt ρ1 fun b ρ2 => if b = true then te ρ2 fun y ρ3 => got y.shd? fun d => acc.length ≤ 100000 ∧ restP vs (fun ρ4 => compD g tt te vs xs (acc ++ [d]) ρ4 Q) ρ ρ3 else restP vs (fun ρ4 => compD g tt te vs xs acc ρ4 Q) ρ ρ2) ρ := id rfl
abbrev wdBody : WS := (wSq (wSet 5 (wLc (wRg (wA (wP 4) (wA (wF lenG (wA (wP 1) wN)) wN))) (uN 8) (wB (w2 neG (w2 ixG (w2 ixG (wP 1) (wP 8)) (wP 4)) (wC (.int 0)))) (wV 8) [8]))
    (wSq (wIf (wB (w2 eqG (wP 5) (wLst wN))) (wSq (wRet (wC (.int 0)))
    wNx) wNx)
    (wSq (wIf (wB (w2 neG (w2 ixG (wP 5) (wC (.int 0))) (wP 4))) (wSq (wSetPop 6 1 (w2 ixG (wP 5) (wC (.int 0))))
    (wSq (wIns 1 (wS (wV 4) (wS (wV 6) wN)))
    (wSq (wSet 2 (wIte (wB (w2 eqG (w2 modG (w2 subG (w2 ixG (wP 5) (wC (.int 0))) (wP 4)) (wC (.int 2))) (wC (.int 0)))) (wV 2) (w1 negG (wP 2))))
    wNx))) wNx)
    (wSq (wSet 7 (w2 ixG (wP 1) (wP 4)))
    (wSq (wFor (wRg (wA (w2 addG (wP 4) (wC (.int 1))) (wA (wF lenG (wA (wP 1) wN)) wN))) (uN 8) (wSq (wSetI 1 (wP 8) (wLc (wZp (wS (w2 ixG (wP 1) (wP 8)) (wS (wV 7) wN))) (uT (uCons (uN 10) (uCons (uN 11) uNil))) wYes (w2 divG (w2 subG (w2 mulH (wP 10) (w2 ixG (wP 7) (wP 4))) (w2 mulH (w2 ixG (w2 ixG (wP 1) (wP 8)) (wP 4)) (wP 11))) (wP 3)) [10, 11]))
    wNx))
    (wSq (wSet 3 (w2 ixG (wP 7) (wP 4)))
    wNx))))))
theorem at32 {x y z : D} {K : D → Prop} : got (atI [x, y, z] 2) K = K z := id rfl
theorem at3m {x y z : D} {K : D → Prop} : got (atI [x, y, z] (-1)) K = K z := id rfl
theorem at2m {x y : D} {K : D → Prop} : got (atI [x, y] (-1)) K = K y := id rfl
theorem at1m {x : D} {K : D → Prop} : got (atI [x] (-1)) K = K x := id rfl
def iD (l : List Int) : D := .list (l.map .int)
abbrev wdT : WS := (wSq (wSet 7 (w2 ixG (wP 1) (wP 4)))
    (wSq (wFor (wRg (wA (w2 addG (wP 4) (wC (.int 1))) (wA (wF lenG (wA (wP 1) wN)) wN))) (uN 8) (wSq (wSetI 1 (wP 8) (wLc (wZp (wS (w2 ixG (wP 1) (wP 8)) (wS (wV 7) wN))) (uT (uCons (uN 10) (uCons (uN 11) uNil))) wYes (w2 divG (w2 subG (w2 mulH (wP 10) (w2 ixG (wP 7) (wP 4))) (w2 mulH (w2 ixG (w2 ixG (wP 1) (wP 8)) (wP 4)) (wP 11))) (wP 3)) [10, 11]))
    wNx))
    (wSq (wSet 3 (w2 ixG (wP 7) (wP 4)))
    wNx)))
abbrev st12 (rows : D) (L : List D) (s bl k : Int) (s5 s6 s7 s8 : Sl) : List Sl := [Sl.im rows, Sl.ow L, Sl.im (.int s), Sl.im (.int bl), Sl.im (.int k), s5, s6, s7, s8, Sl.no, Sl.no, Sl.no]
theorem A30 {rows : D} {a b c d e f g h i s bl : Int} {s5 s6 s7 s8 : Sl} {D0 : DE} (hz : a = 0 → d = 0 → g = 0 → D0.rt (.int 0))
    (h0 : a ≠ 0 → ∀ s5 s6 s8, wdT D0 (st12 rows [iD [a, b, c], iD [d, e, f], iD [g, h, i]] s bl 0 s5 s6 s7 s8))
    (h1 : a = 0 → d ≠ 0 → ∀ s5 s6 s8, wdT D0 (st12 rows [iD [d, e, f], iD [a, b, c], iD [g, h, i]] (-s) bl 0 s5 s6 s7 s8))
    (h2 : a = 0 → d = 0 → g ≠ 0 → ∀ s5 s6 s8, wdT D0 (st12 rows [iD [g, h, i], iD [a, b, c], iD [d, e, f]] s bl 0 s5 s6 s7 s8)) :
    wdBody D0 (st12 rows [iD [a, b, c], iD [d, e, f], iD [g, h, i]] s bl 0 s5 s6 s7 s8) := by
  have o0 : okRg 0 := ⟨by decide, by decide⟩
  have o3 : okRg 3 := ⟨by decide, by decide⟩
  have m1 : (1 : Int).fmod 2 = 1 := rfl
  have m2 : (2 : Int).fmod 2 = 0 := rfl
  refine sq_k fun N hN => ?_
  simp -implicitDefEqProofs [rgD, comp_consP, comp_nil, PyData.eqv, PyData.depth, iD, at32]
  have fin : ∀ (w : Int) (ws : List D) (s8 : Sl), ((w = 0 ∧ a ≠ 0) ∨ (w = 1 ∧ a = 0 ∧ d ≠ 0) ∨ (w = 2 ∧ a = 0 ∧ d = 0 ∧ g ≠ 0)) → N (st12 rows [iD [a, b, c], iD [d, e, f], iD [g, h, i]] s bl 0 (.ow (.int w :: ws)) s6 s7 s8) := by
    intro w ws s8 hw
    refine hN _ ?_
    clear hN
    refine sq_k fun N hN => ?_
    simp -implicitDefEqProofs [PyData.eqv, PyData.eqvAll, PyData.depth, PyData.depthAll]
    refine hN _ ?_
    clear hN
    refine sq_k fun N hN => ?_
    simp -implicitDefEqProofs [PyData.eqv, PyData.eqvAll, PyData.depth, PyData.depthAll]
    rcases hw with ⟨rfl, h⟩ | ⟨rfl, h, h'⟩ | ⟨rfl, h, h', h''⟩
    · simp -implicitDefEqProofs
      exact hN _ (h0 h _ _ _)
    · simp -implicitDefEqProofs [owAt, popK, insK, m1, PyData.eqv]
      exact ⟨.inl (by decide), hN _ (h1 h h' _ _ _)⟩
    · simp -implicitDefEqProofs [owAt, popK, insK, m2, PyData.eqv]
      exact ⟨by decide, hN _ (h2 h h' h'' _ _ _)⟩
  have nil : a = 0 → d = 0 → g = 0 → ∀ s8, N (st12 rows [iD [a, b, c], iD [d, e, f], iD [g, h, i]] s bl 0 (.ow []) s6 s7 s8) := by
    intro ha hd hg s8
    refine hN _ ?_
    simp -implicitDefEqProofs [PyData.eqv, PyData.eqvAll, PyData.depth, PyData.depthAll]
    exact hz ha hd hg
  clear hN h0 h1 h2 hz
  by_cases ha : a = 0 <;> by_cases hd : d = 0 <;> by_cases hg : g = 0
  · subst ha hd hg
    simp -implicitDefEqProofs
    exact ⟨o0, o3, nil rfl rfl rfl _⟩
  · subst ha hd
    simp -implicitDefEqProofs [hg]
    exact ⟨o0, o3, fin 2 _ _ (.inr (.inr ⟨rfl, rfl, rfl, hg⟩))⟩
  · subst ha hg
    simp -implicitDefEqProofs [hd]
    exact ⟨o0, o3, fin 1 _ _ (.inr (.inl ⟨rfl, rfl, hd⟩))⟩
  · subst ha
    simp -implicitDefEqProofs [hd, hg]
    exact ⟨o0, o3, fin 1 _ _ (.inr (.inl ⟨rfl, rfl, hd⟩))⟩
  · subst hd hg
    simp -implicitDefEqProofs [ha]
    exact ⟨o0, o3, fin 0 _ _ (.inl ⟨rfl, ha⟩)⟩
  · subst hd
    simp -implicitDefEqProofs [ha, hg]
    exact ⟨o0, o3, fin 0 _ _ (.inl ⟨rfl, ha⟩)⟩
  · subst hg
    simp -implicitDefEqProofs [ha, hd]
    exact ⟨o0, o3, fin 0 _ _ (.inl ⟨rfl, ha⟩)⟩
  · simp -implicitDefEqProofs [ha, hd, hg]
    exact ⟨o0, o3, fin 0 _ _ (.inl ⟨rfl, ha⟩)⟩
theorem A31 {rows : D} {R0 : D} {x e f y h i s bl : Int} {s5 s6 s7 s8 : Sl} {D0 : DE} (hz : e = 0 → h = 0 → D0.rt (.int 0))
    (h0 : e ≠ 0 → ∀ s5 s6 s8, wdT D0 (st12 rows [R0, iD [x, e, f], iD [y, h, i]] s bl 1 s5 s6 s7 s8))
    (h1 : e = 0 → h ≠ 0 → ∀ s5 s6 s8, wdT D0 (st12 rows [R0, iD [y, h, i], iD [x, e, f]] (-s) bl 1 s5 s6 s7 s8)) :
    wdBody D0 (st12 rows [R0, iD [x, e, f], iD [y, h, i]] s bl 1 s5 s6 s7 s8) := by
  have o1 : okRg 1 := ⟨by decide, by decide⟩
  have o3 : okRg 3 := ⟨by decide, by decide⟩
  have m1 : (1 : Int).fmod 2 = 1 := rfl
  refine sq_k fun N hN => ?_
  simp -implicitDefEqProofs [rgD, comp_consP, comp_nil, PyData.eqv, PyData.depth, iD, at32]
  have fin : ∀ (w : Int) (ws : List D) (s8 : Sl), ((w = 1 ∧ e ≠ 0) ∨ (w = 2 ∧ e = 0 ∧ h ≠ 0)) → N (st12 rows [R0, iD [x, e, f], iD [y, h, i]] s bl 1 (.ow (.int w :: ws)) s6 s7 s8) := by
    intro w ws s8 hw
    refine hN _ ?_
    clear hN
    refine sq_k fun N hN => ?_
    simp -implicitDefEqProofs [PyData.eqv, PyData.eqvAll, PyData.depth, PyData.depthAll]
    refine hN _ ?_
    clear hN
    refine sq_k fun N hN => ?_
    simp -implicitDefEqProofs [PyData.eqv, PyData.eqvAll, PyData.depth, PyData.depthAll]
    rcases hw with ⟨rfl, h⟩ | ⟨rfl, h, h'⟩
    · simp -implicitDefEqProofs
      exact hN _ (h0 h _ _ _)
    · simp -implicitDefEqProofs [owAt, popK, insK, m1, PyData.eqv]
      exact ⟨.inl (by decide), hN _ (h1 h h' _ _ _)⟩
  have nil : e = 0 → h = 0 → ∀ s8, N (st12 rows [R0, iD [x, e, f], iD [y, h, i]] s bl 1 (.ow []) s6 s7 s8) := by
    intro ha hd s8
    refine hN _ ?_
    simp -implicitDefEqProofs [PyData.eqv, PyData.eqvAll, PyData.depth, PyData.depthAll]
    exact hz ha hd
  clear hN h0 h1 hz
  by_cases ha : e = 0 <;> by_cases hd : h = 0
  · subst ha hd
    simp -implicitDefEqProofs
    exact ⟨o1, o3, nil rfl rfl _⟩
  · subst ha
    simp -implicitDefEqProofs [hd]
    exact ⟨o1, o3, fin 2 _ _ (.inr ⟨rfl, rfl, hd⟩)⟩
  · subst hd
    simp -implicitDefEqProofs [ha]
    exact ⟨o1, o3, fin 1 _ _ (.inl ⟨rfl, ha⟩)⟩
  · simp -implicitDefEqProofs [ha, hd]
    exact ⟨o1, o3, fin 1 _ _ (.inl ⟨rfl, ha⟩)⟩
theorem A20 {rows : D} {a b c d s bl : Int} {s5 s6 s7 s8 : Sl} {D0 : DE} (hz : a = 0 → c = 0 → D0.rt (.int 0))
    (h0 : a ≠ 0 → ∀ s5 s6 s8, wdT D0 (st12 rows [iD [a, b], iD [c, d]] s bl 0 s5 s6 s7 s8))
    (h1 : a = 0 → c ≠ 0 → ∀ s5 s6 s8, wdT D0 (st12 rows [iD [c, d], iD [a, b]] (-s) bl 0 s5 s6 s7 s8)) :
    wdBody D0 (st12 rows [iD [a, b], iD [c, d]] s bl 0 s5 s6 s7 s8) := by
  have o1 : okRg 0 := ⟨by decide, by decide⟩
  have o3 : okRg 2 := ⟨by decide, by decide⟩
  have m1 : (1 : Int).fmod 2 = 1 := rfl
  refine sq_k fun N hN => ?_
  simp -implicitDefEqProofs [rgD, comp_consP, comp_nil, PyData.eqv, PyData.depth, iD, at32]
  have fin : ∀ (w : Int) (ws : List D) (s8 : Sl), ((w = 0 ∧ a ≠ 0) ∨ (w = 1 ∧ a = 0 ∧ c ≠ 0)) → N (st12 rows [iD [a, b], iD [c, d]] s bl 0 (.ow (.int w :: ws)) s6 s7 s8) := by
    intro w ws s8 hw
    refine hN _ ?_
    clear hN
    refine sq_k fun N hN => ?_
    simp -implicitDefEqProofs [PyData.eqv, PyData.eqvAll, PyData.depth, PyData.depthAll]
    refine hN _ ?_
    clear hN
    refine sq_k fun N hN => ?_
    simp -implicitDefEqProofs [PyData.eqv, PyData.eqvAll, PyData.depth, PyData.depthAll]
    rcases hw with ⟨rfl, h⟩ | ⟨rfl, h, h'⟩
    · simp -implicitDefEqProofs
      exact hN _ (h0 h _ _ _)
    · simp -implicitDefEqProofs [owAt, popK, insK, m1, PyData.eqv]
      exact ⟨.inl (by decide), hN _ (h1 h h' _ _ _)⟩
  have nil : a = 0 → c = 0 → ∀ s8, N (st12 rows [iD [a, b], iD [c, d]] s bl 0 (.ow []) s6 s7 s8) := by
    intro ha hd s8
    refine hN _ ?_
    simp -implicitDefEqProofs [PyData.eqv, PyData.eqvAll, PyData.depth, PyData.depthAll]
    exact hz ha hd
  clear hN h0 h1 hz
  by_cases ha : a = 0 <;> by_cases hd : c = 0
  · subst ha hd
    simp -implicitDefEqProofs
    exact ⟨o1, o3, nil rfl rfl _⟩
  · subst ha
    simp -implicitDefEqProofs [hd]
    exact ⟨o1, o3, fin 1 _ _ (.inr ⟨rfl, rfl, hd⟩)⟩
  · subst hd
    simp -implicitDefEqProofs [ha]
    exact ⟨o1, o3, fin 0 _ _ (.inl ⟨rfl, ha⟩)⟩
  · simp -implicitDefEqProofs [ha, hd]
    exact ⟨o1, o3, fin 0 _ _ (.inl ⟨rfl, ha⟩)⟩
theorem fdiv1 (x : Int) : x.fdiv 1 = x := Int.fdiv_one x
theorem B20 {rows : D} {a b c d s : Int} {s5 s6 s7 s8 : Sl} {D0 : DE} (ba : Bd 60 a) (bb : Bd 60 b) (bc : Bd 60 c) (bd : Bd 60 d)
    (h : ∀ s5 s6 s7 s8 bl, D0.nx (st12 rows [iD [a, b], iD [0, d * a - c * b]] s bl 0 s5 s6 s7 s8)) :
    wdT D0 (st12 rows [iD [a, b], iD [c, d]] s 1 0 s5 s6 s7 s8) := by
  refine sq_k fun N hN => ?_
  simp -implicitDefEqProofs [iD]
  refine hN _ ?_
  clear hN
  refine sq_k fun N hN => ?_
  have o1 : okRg 1 := ⟨by decide, by decide⟩
  have o2 : okRg 2 := ⟨by decide, by decide⟩
  have d1 : okDiv 1 := ⟨by decide, by decide⟩
  simp -implicitDefEqProofs [rgD, loop_cons, loop_nil, comp_consP, comp_nil, zpD, fdiv1, setK]
  refine ⟨o1, o2, bc.ok ba, d1, bd.ok ba, bc.ok bb, d1, ?_⟩
  rw [show ixN 2 1 = some 1 by rfl, got_some]
  refine hN _ ?_
  clear hN
  simp -implicitDefEqProofs
  exact h _ _ _ _ _
theorem B30 {rows : D} {a b c d e f g h i s : Int} {s5 s6 s7 s8 : Sl} {D0 : DE} (ba : Bd 60 a) (bb : Bd 60 b) (bc : Bd 60 c) (bd : Bd 60 d) (be : Bd 60 e) (bf : Bd 60 f) (bg : Bd 60 g) (bh : Bd 60 h) (bi : Bd 60 i)
    (hn : ∀ s5 s6 s7 s8, D0.nx (st12 rows [iD [a, b, c], iD [0, e * a - d * b, f * a - d * c], iD [0, h * a - g * b, i * a - g * c]] s a 0 s5 s6 s7 s8)) :
    wdT D0 (st12 rows [iD [a, b, c], iD [d, e, f], iD [g, h, i]] s 1 0 s5 s6 s7 s8) := by
  refine sq_k fun N hN => ?_
  simp -implicitDefEqProofs [iD]
  refine hN _ ?_
  clear hN
  refine sq_k fun N hN => ?_
  have o1 : okRg 1 := ⟨by decide, by decide⟩
  have o2 : okRg 3 := ⟨by decide, by decide⟩
  have d1 : okDiv 1 := ⟨by decide, by decide⟩
  simp -implicitDefEqProofs [rgD, loop_cons, loop_nil, comp_consP, comp_nil, zpD, fdiv1, setK, at32]
  refine ⟨o1, o2, bd.ok ba, d1, be.ok ba, bd.ok bb, d1, bf.ok ba, bd.ok bc, d1, ?_⟩
  rw [show ixN 3 1 = some 1 by rfl, got_some]
  simp -implicitDefEqProofs [rgD, loop_cons, loop_nil, comp_consP, comp_nil, zpD, fdiv1, setK, at32]
  refine ⟨bg.ok ba, d1, bh.ok ba, bg.ok bb, d1, bi.ok ba, bg.ok bc, d1, ?_⟩
  rw [show ixN 3 2 = some 2 by rfl, got_some]
  refine hN _ ?_
  clear hN
  simp -implicitDefEqProofs
  exact hn _ _ _ _
theorem B31 {rows R0 : D} {a x e f y h i s : Int} {s5 s6 s7 s8 : Sl} {D0 : DE} (a0 : a ≠ 0) (ba : Bd 200 a) (bx : Bd 200 x) (be : Bd 200 e) (bf : Bd 200 f) (bg : Bd 200 y) (bh : Bd 200 h) (bi : Bd 200 i)
    (hn : ∀ s5 s6 s7 s8 u v, D0.nx (st12 rows [R0, iD [x, e, f], iD [u, v, (i * e - h * f).fdiv a]] s e 1 s5 s6 s7 s8)) :
    wdT D0 (st12 rows [R0, iD [x, e, f], iD [y, h, i]] s a 1 s5 s6 s7 s8) := by
  refine sq_k fun N hN => ?_
  simp -implicitDefEqProofs [iD]
  refine hN _ ?_
  clear hN
  refine sq_k fun N hN => ?_
  have o1 : okRg 2 := ⟨by decide, by decide⟩
  have o2 : okRg 3 := ⟨by decide, by decide⟩
  have d1 : okDiv a := ba.div a0
  simp -implicitDefEqProofs [rgD, loop_cons, loop_nil, comp_consP, comp_nil, zpD, setK, at32]
  refine ⟨o1, o2, bg.ok be, bh.ok bx, d1, bh.ok be, d1, bi.ok be, bh.ok bf, d1, ?_⟩
  rw [show ixN 3 2 = some 2 by rfl, got_some]
  refine hN _ ?_
  clear hN
  simp -implicitDefEqProofs
  exact hn _ _ _ _ _ _
theorem fin_div {a D x : Int} (a0 : a ≠ 0) (h : x = a * D) : x.fdiv a = D := by rw [h]; exact Int.mul_fdiv_cancel_left D a0
theorem wd1 {a : Int} {Q : D → Prop} (k : Q (.int a)) (ba : Bd 60 a) : w_whole_determinant { nx := fun _ => Q .none, rt := Q } (rho0 N_whole_determinant ([.list [.list [.int a]]].map Sl.im)) := by
  unfold w_whole_determinant
  refine sq_k fun N hN => ?_
  simp -implicitDefEqProofs [rho0, comp_cons1, comp_nil]
  refine hN _ ?_
  clear hN
  refine sq_k fun N hN => ?_
  simp -implicitDefEqProofs [rgD, loop_nil]
  refine ⟨⟨by decide, by decide⟩, hN _ ?_⟩
  simp -implicitDefEqProofs [at1m]
  exact ⟨(Bd.lit (k := 2) (x := 1)).ok ba, k⟩
theorem wd2 {a b c d : Int} {Q : D → Prop} (k : Q (.int (det2 a b c d))) (ba : Bd 60 a) (bb : Bd 60 b) (bc : Bd 60 c) (bd : Bd 60 d) : w_whole_determinant { nx := fun _ => Q .none, rt := Q } (rho0 N_whole_determinant ([.list [.list [.int a, .int b], .list [.int c, .int d]]].map Sl.im)) := by
  unfold w_whole_determinant
  refine sq_k fun N hN => ?_
  simp -implicitDefEqProofs [rho0, comp_cons1, comp_nil]
  refine hN _ ?_
  clear hN
  refine sq_k fun N hN => ?_
  simp -implicitDefEqProofs
  refine ⟨⟨by decide, by decide⟩, ?_⟩
  rw [show rgD 0 1 1 = [.int 0] by rfl, loop_cons]
  have last : ∀ (s x : Int) (r : D) (s4 s5 s6 s7 s8 : Sl) (bl : Int), Bd 3 s → Bd 130 x → Q (.int (s * x)) → N (st12 (.list [.list [.int a, .int b], .list [.int c, .int d]]) [r, iD [0, x]] s bl 0 s5 s6 s7 s8) := by
    intro s x r s4 s5 s6 s7 s8 bl bs bx q
    refine hN _ ?_
    simp -implicitDefEqProofs [at2m, iD]
    exact ⟨bs.ok bx, q⟩
  clear hN
  refine A20 (fun ha hc => ?_) (fun ha s5 s6 s8 => B20 ba bb bc bd fun s5 s6 s7 s8 bl => ?_) (fun ha hc s5 s6 s8 => B20 bc bd ba bb fun s5 s6 s7 s8 bl => ?_)
  · subst ha hc
    unfold det2 at k
    simpa using k
  · have e : (1 : Int) * (d * a - c * b) = det2 a b c d := by unfold det2; grind
    exact last _ _ _ .no _ _ _ _ _ (.lit) (((bd.mul ba).sub (bc.mul bb)).mono (by decide)) (by rw [e]; exact k)
  · have e : (-1 : Int) * (b * c - a * d) = det2 a b c d := by unfold det2; grind
    exact last _ _ _ .no _ _ _ _ _ (.lit) (((bb.mul bc).sub (ba.mul bd)).mono (by decide)) (by rw [e]; exact k)
theorem wd3 {a b c d e f g h i : Int} {Q : D → Prop} (k : Q (.int (det3 a b c d e f g h i))) (ba : Bd 60 a) (bb : Bd 60 b) (bc : Bd 60 c) (bd : Bd 60 d) (be : Bd 60 e) (bf : Bd 60 f) (bg : Bd 60 g) (bh : Bd 60 h) (bi : Bd 60 i) :
    w_whole_determinant { nx := fun _ => Q .none, rt := Q } (rho0 N_whole_determinant ([.list [.list [.int a, .int b, .int c], .list [.int d, .int e, .int f], .list [.int g, .int h, .int i]]].map Sl.im)) := by
  unfold w_whole_determinant
  refine sq_k fun N hN => ?_
  simp -implicitDefEqProofs [rho0, comp_cons1, comp_nil]
  refine hN _ ?_
  clear hN
  refine sq_k fun N hN => ?_
  simp -implicitDefEqProofs
  refine ⟨⟨by decide, by decide⟩, ?_⟩
  rw [show rgD 0 1 2 = [.int 0, .int 1] by rfl, loop_cons]
  have last : ∀ (s x : Int) (r r1 : D) (u v : Int) (s5 s6 s7 s8 : Sl) (bl : Int), Bd 3 s → Bd 400 x → Q (.int (s * x)) → N (st12 (.list [.list [.int a, .int b, .int c], .list [.int d, .int e, .int f], .list [.int g, .int h, .int i]]) [r, r1, iD [u, v, x]] s bl 1 s5 s6 s7 s8) := by
    intro s x r r1 u v s5 s6 s7 s8 bl bs bx q
    refine hN _ ?_
    simp -implicitDefEqProofs [at3m, iD]
    exact ⟨bs.ok bx, q⟩
  clear hN
  -- behind the first step: the pivot row p, the two others
  have step : ∀ (p q r p2 q2 r2 p3 q3 r3 s : Int) (D0 : DE) (s5 s6 s7 s8 : Sl), (∀ ρ, uN 4 (.int 1) ρ (fun ρ1 => wdBody { nx := N, rt := Q, ct := N, bk := N } ρ1) → D0.nx ρ) → p ≠ 0 → Bd 60 p → Bd 60 q → Bd 60 r → Bd 60 p2 → Bd 60 q2 → Bd 60 r2 → Bd 60 p3 → Bd 60 q3 → Bd 60 r3 → (s = 1 ∨ s = -1) → Q (.int (s * det3 p q r p2 q2 r2 p3 q3 r3)) →
      wdT D0 (st12 (.list [.list [.int a, .int b, .int c], .list [.int d, .int e, .int f], .list [.int g, .int h, .int i]]) [iD [p, q, r], iD [p2, q2, r2], iD [p3, q3, r3]] s 1 0 s5 s6 s7 s8) := by
    intro p q r p2 q2 r2 p3 q3 r3 s D0 s5 s6 s7 s8 hD p0 bp bq br bp2 bq2 br2 bp3 bq3 br3 hs k
    refine B30 bp bq br bp2 bq2 br2 bp3 bq3 br3 fun s5 s6 s7 s8 => hD _ ?_
    clear hD
    have e1 := ((bq2.mul bp).sub (bp2.mul bq)).mono (k := 200) (by decide)
    have f1 := ((br2.mul bp).sub (bp2.mul br)).mono (k := 200) (by decide)
    have h1 := ((bq3.mul bp).sub (bp3.mul bq)).mono (k := 200) (by decide)
    have i1 := ((br3.mul bp).sub (bp3.mul br)).mono (k := 200) (by decide)
    have z0 : Bd 200 0 := .lit
    have dd : ∀ x y z : Int, Bd 60 x → Bd 60 y → Bd 60 z → Bd 200 (x * (y * z)) := fun x y z hx hy hz => (hx.mul (hy.mul hz)).mono (by decide)
    have bD : Bd 400 (det3 p q r p2 q2 r2 p3 q3 r3) := by
      have c1 := bp.mul ((bq2.mul br3).sub (br2.mul bq3))
      have c2 := bq.mul ((bp2.mul br3).sub (br2.mul bp3))
      have c3 := br.mul ((bp2.mul bq3).sub (bq2.mul bp3))
      exact ((c1.sub c2).add c3).mono (by decide)
    have bs : Bd 3 s := by rcases hs with rfl | rfl <;> exact .lit
    have bs2 : Bd 3 (-s) := bs.neg
    have alg : (r3 * p - p3 * r) * (q2 * p - p2 * q) - (q3 * p - p3 * q) * (r2 * p - p2 * r) = p * det3 p q r p2 q2 r2 p3 q3 r3 := by unfold det3; grind
    have alg2 : (r2 * p - p2 * r) * (q3 * p - p3 * q) - (q2 * p - p2 * q) * (r3 * p - p3 * r) = p * -det3 p q r p2 q2 r2 p3 q3 r3 := by unfold det3; grind
    generalize q2 * p - p2 * q = e at *
    generalize r2 * p - p2 * r = f at *
    generalize q3 * p - p3 * q = h at *
    generalize r3 * p - p3 * r = i at *
    generalize det3 p q r p2 q2 r2 p3 q3 r3 = Dt at *
    have bp' := bp.mono (k := 200) (by decide)
    refine A31 (fun he hh => ?_) (fun he s5 s6 s8 => B31 p0 bp' z0 e1 f1 z0 h1 i1 fun s5 s6 s7 s8 u v => ?_) (fun he hh s5 s6 s8 => B31 p0 bp' z0 h1 i1 z0 e1 f1 fun s5 s6 s7 s8 u v => ?_)
    · subst he hh
      have : p * Dt = 0 := by rw [← alg]; simp
      rcases Int.mul_eq_zero.mp this with z | z
      · exact absurd z p0
      · rw [z, Int.mul_zero] at k
        exact k
    · rw [fin_div p0 alg]
      exact last _ _ _ _ _ _ _ _ _ _ _ bs bD k
    · rw [fin_div p0 alg2]
      refine last _ _ _ _ _ _ _ _ _ _ _ bs2 bD.neg ?_
      rw [Int.neg_mul_neg]
      exact k
  refine A30 (fun ha hd hg => ?_) (fun ha s5 s6 s8 => step _ _ _ _ _ _ _ _ _ _ _ _ _ _ _ (fun ρ h => h) ha ba bb bc bd be bf bg bh bi (.inl rfl) ?_) (fun ha hd s5 s6 s8 => step _ _ _ _ _ _ _ _ _ _ _ _ _ _ _ (fun ρ h => h) hd bd be bf ba bb bc bg bh bi (.inr rfl) ?_) (fun ha hd hg s5 s6 s8 => step _ _ _ _ _ _ _ _ _ _ _ _ _ _ _ (fun ρ h => h) hg bg bh bi ba bb bc bd be bf (.inl rfl) ?_)
  · subst ha hd hg
    unfold det3 at k
    simpa using k
  · rw [Int.one_mul]; exact k
  · have e1 : -1 * det3 d e f a b c g h i = det3 a b c d e f g h i := by unfold det3; grind
    rw [e1]; exact k
  · have e1 : 1 * det3 g h i a b c d e f = det3 a b c d e f g h i := by unfold det3; grind
    rw [e1]; exact k
end K79

set_option Elab.async false
set_option linter.all false
set_option maxRecDepth 100000
namespace K79
open PySem PySem.Spec PyProof.Rows L2 DL
theorem atG {F : List Int} {i : Int} (h : 0 ≤ i) (h2 : i < F.length) : atI (F.map PyData.int) i = some (.int (cfI F i)) := by
  unfold atI cfI
  rw [ixN_in h (by rw [List.length_map]; exact h2), if_pos h]
  show (F.map PyData.int)[i.toNat]? = _
  rw [List.getElem?_map, List.getD_eq_getElem?_getD, List.getElem?_eq_getElem (show i.toNat < F.length by omega)]
  rfl
def m_number_at : MD := fun ds Q => ∃ f k, ds = [.tuple (f.map .int), .int k] ∧ 0 ≤ k ∧ Q (.int (cfI f k))
theorem mm_number_at : MonoM m_number_at := fun ds Q Q' h ⟨a, b, e, n, k⟩ => ⟨a, b, e, n, h _ k⟩
theorem len_number_at : ∀ ds Q, m_number_at ds Q → ds.length = 2 := fun ds Q ⟨xs, b, e, _⟩ => by rw [e]; rfl
theorem hm_number_at : ∀ ds Q, m_number_at ds Q → w_number_at { nx := fun _ => Q .none, rt := Q } (rho0 N_number_at (ds.map Sl.im)) := by
  rintro _ Q ⟨f, k, rfl, k0, q⟩
  unfold w_number_at
  simp -implicitDefEqProofs [rho0]
  refine ite_p (fun h => ?_) fun h => ?_
  · rw [atG k0 h]; exact q
  · rw [cfI_out (show (f.length : Int) ≤ k by omega)] at q; exact q
def m_band_member : MD := fun ds Q => ∃ f i j, ds = [.tuple (f.map .int), .int i, .int j] ∧ Q (.int (cfI f (i - j)))
theorem mm_band_member : MonoM m_band_member := fun ds Q Q' h ⟨a, b, c, e, k⟩ => ⟨a, b, c, e, h _ k⟩
theorem len_band_member : ∀ ds Q, m_band_member ds Q → ds.length = 3 := fun ds Q ⟨xs, b, c, e, _⟩ => by rw [e]; rfl
theorem hm_band_member : ∀ ds Q, m_band_member ds Q → w_band_member m_number_at { nx := fun _ => Q .none, rt := Q } (rho0 N_band_member (ds.map Sl.im)) := by
  rintro _ Q ⟨f, i, j, rfl, q⟩
  unfold w_band_member
  simp -implicitDefEqProofs [rho0]
  refine ite_p (fun h => ⟨f, i - j, rfl, by omega, q⟩) fun h => ?_
  rw [cfI_neg (by omega)] at q
  exact q
def dM : List (List Int) → Int
  | [] => 1
  | [[a]] => a
  | [[a, b], [c, d]] => det2 a b c d
  | [[a, b, c], [d, e, f], [g, h, i]] => det3 a b c d e f g h i
  | _ => 0
def Sqr (n : Nat) (M : List (List Int)) : Prop := M.length = n ∧ (∀ r ∈ M, r.length = n) ∧ ∀ r ∈ M, ∀ x ∈ r, Bd 60 x
theorem sqr1 {M : List (List Int)} (h : Sqr 1 M) : ∃ a, M = [[a]] ∧ Bd 60 a := by
  obtain ⟨h1, h2, h3⟩ := h
  match M, h1 with
  | [r], _ =>
    match r, h2 r (by simp) with
    | [a], _ => exact ⟨a, rfl, h3 [a] (by simp) a (by simp)⟩
theorem sqr2 {M : List (List Int)} (h : Sqr 2 M) : ∃ a b c d, M = [[a, b], [c, d]] ∧ Bd 60 a ∧ Bd 60 b ∧ Bd 60 c ∧ Bd 60 d := by
  obtain ⟨h1, h2, h3⟩ := h
  match M, h1 with
  | [r, s], _ =>
    match r, s, h2 r (by simp), h2 s (by simp) with
    | [a, b], [c, d], _, _ => exact ⟨a, b, c, d, rfl, h3 [a, b] (by simp) a (by simp), h3 [a, b] (by simp) b (by simp), h3 [c, d] (by simp) c (by simp), h3 [c, d] (by simp) d (by simp)⟩
theorem sqr3 {M : List (List Int)} (h : Sqr 3 M) : ∃ a b c d e f g h i, M = [[a, b, c], [d, e, f], [g, h, i]] ∧ Bd 60 a ∧ Bd 60 b ∧ Bd 60 c ∧ Bd 60 d ∧ Bd 60 e ∧ Bd 60 f ∧ Bd 60 g ∧ Bd 60 h ∧ Bd 60 i := by
  obtain ⟨h1, h2, h3⟩ := h
  match M, h1 with
  | [r, s, t], _ =>
    match r, s, t, h2 r (by simp), h2 s (by simp), h2 t (by simp) with
    | [a, b, c], [d, e, f], [g, h, i], _, _, _ => exact ⟨a, b, c, d, e, f, g, h, i, rfl, h3 [a, b, c] (by simp) a (by simp), h3 [a, b, c] (by simp) b (by simp), h3 [a, b, c] (by simp) c (by simp), h3 [d, e, f] (by simp) d (by simp), h3 [d, e, f] (by simp) e (by simp), h3 [d, e, f] (by simp) f (by simp), h3 [g, h, i] (by simp) g (by simp), h3 [g, h, i] (by simp) h (by simp), h3 [g, h, i] (by simp) i (by simp)⟩
def m_whole_determinant : MD := fun ds Q => ∃ M n, ds = [.list (M.map iD)] ∧ 1 ≤ n ∧ n ≤ 3 ∧ Sqr n M ∧ Q (.int (dM M))
theorem mm_whole_determinant : MonoM m_whole_determinant := fun ds Q Q' h ⟨a, b, e, c, d, f, k⟩ => ⟨a, b, e, c, d, f, h _ k⟩
theorem len_whole_determinant : ∀ ds Q, m_whole_determinant ds Q → ds.length = 1 := fun ds Q ⟨xs, b, e, _⟩ => by rw [e]; rfl
theorem hm_whole_determinant : ∀ ds Q, m_whole_determinant ds Q → w_whole_determinant { nx := fun _ => Q .none, rt := Q } (rho0 N_whole_determinant (ds.map Sl.im)) := by
  rintro _ Q ⟨M, n, rfl, n1, n3, h, q⟩
  rcases (show n = 1 ∨ n = 2 ∨ n = 3 by omega) with rfl | rfl | rfl
  · obtain ⟨a, rfl, b1⟩ := sqr1 h
    exact wd1 q b1
  · obtain ⟨a, b, c, d, rfl, b1, b2, b3, b4⟩ := sqr2 h
    exact wd2 q b1 b2 b3 b4
  · obtain ⟨a, b, c, d, e, f, g, h, i, rfl, b1, b2, b3, b4, b5, b6, b7, b8, b9⟩ := sqr3 h
    exact wd3 q b1 b2 b3 b4 b5 b6 b7 b8 b9
def bmt (f : List Int) (ls cs : List Int) : List (List Int) := ls.map fun i => cs.map fun j => cfI f (i - j)
def bmin (f ls cs : List Int) : Int := dM (bmt f ls cs)
theorem bmt_sqr {f ls cs : List Int} {n : Nat} (hl : ls.length = n) (hc : cs.length = n) (hb : ∀ x ∈ f, Bd 60 x) : Sqr n (bmt f ls cs) := by
  unfold bmt
  refine ⟨by simpa using hl, fun r hr => ?_, fun r hr x hx => ?_⟩
  · obtain ⟨i, _, rfl⟩ := List.mem_map.mp hr
    simpa using hc
  · obtain ⟨i, _, rfl⟩ := List.mem_map.mp hr
    obtain ⟨j, _, rfl⟩ := List.mem_map.mp hx
    exact Bd_cfI hb _
theorem eqv_nil : ∀ xs : List D, PyData.eqvAll xs [] = xs.isEmpty
  | [] => by simp [PyData.eqvAll]
  | _ :: _ => by simp [PyData.eqvAll]
def m_band_minor : MD := fun ds Q => ∃ f ls cs, ds = [.tuple (f.map .int), .tuple (ls.map .int), .tuple (cs.map .int)] ∧ ls.length = cs.length ∧ ls.length ≤ 3 ∧ (∀ x ∈ f, Bd 60 x) ∧ Q (.int (bmin f ls cs))
theorem mm_band_minor : MonoM m_band_minor := fun ds Q Q' h ⟨a, b, c, e, d, f, g, k⟩ => ⟨a, b, c, e, d, f, g, h _ k⟩
theorem len_band_minor : ∀ ds Q, m_band_minor ds Q → ds.length = 3 := fun ds Q ⟨xs, b, c, e, _⟩ => by rw [e]; rfl
theorem hm_band_minor : ∀ ds Q, m_band_minor ds Q → w_band_minor m_band_member m_whole_determinant { nx := fun _ => Q .none, rt := Q } (rho0 N_band_minor (ds.map Sl.im)) := by
  rintro _ Q ⟨f, ls, cs, rfl, hl, h3, hb, q⟩
  unfold w_band_minor
  refine sq_k fun N hN => ?_
  simp -implicitDefEqProofs [rho0, PyData.eqv, PyData.depth, PyData.depthAll, eqv_nil]
  by_cases hz : ls = []
  · subst hz
    simp -implicitDefEqProofs
    exact q
  · rw [if_neg hz]
    refine hN _ ?_
    clear hN
    simp -implicitDefEqProofs
    refine comp_map (fun ρ => ρ = [Sl.im (.tuple (f.map .int)), .im (.tuple (ls.map .int)), .im (.tuple (cs.map .int)), .no, .no]) (h := iD) (fun i => cs.map fun j => cfI f (i - j)) rfl (by omega) ?_ ?_
    · rintro _ rfl
      exact ⟨bmt f ls cs, ls.length, rfl, by have := List.length_pos_iff.mpr hz; omega, h3, bmt_sqr rfl hl.symm hb, q⟩
    · rintro i hi _ rfl K E hK
      simp -implicitDefEqProofs
      refine comp_map (fun ρ => ρ = [Sl.im (.tuple (f.map .int)), .im (.tuple (ls.map .int)), .im (.tuple (cs.map .int)), .im (.int i), .no]) (h := PyData.int) (fun j => cfI f (i - j)) rfl (by omega) ?_ ?_
      · rintro _ rfl
        simp -implicitDefEqProofs only [x_rest3, q_shd2, restP1]
        exact hK _ rfl
      · rintro j hj _ rfl K2 E2 hK2
        simp -implicitDefEqProofs
        exact ⟨f, i, j, rfl, hK2 _ rfl⟩
def subm (rest : List (List Int)) (j : Nat) : List (List Int) := rest.map fun row => row.take j ++ row.drop (j + 1)
def lapS (r : List Int) (rest : List (List Int)) : Nat → Int
  | 0 => 0
  | j + 1 => lapS r rest j + (if (j : Int) % 2 = 0 then cfL r j * dM (subm rest j) else 0 - cfL r j * dM (subm rest j))
def mT (n : Nat) : MD := fun ds Q => ∃ M k, ds = [.list (M.map iD)] ∧ k < n ∧ k ≤ 3 ∧ Sqr k M ∧ Q (.int (dM M))
theorem mm_T (n : Nat) : MonoM (mT n) := fun ds Q Q' h ⟨a, b, e, c, d, f, k⟩ => ⟨a, b, e, c, d, f, h _ k⟩
theorem len_T (n : Nat) : ∀ ds Q, mT n ds Q → ds.length = 1 := fun ds Q ⟨xs, b, e, _⟩ => by rw [e]; rfl
theorem lap_dM {r : List Int} {rest : List (List Int)} {k : Nat} (h : Sqr k (r :: rest)) (hk : k ≤ 3) : lapS r rest r.length = dM (r :: rest) := by
  have h1 := h.1
  rw [List.length_cons] at h1
  rcases (show k = 1 ∨ k = 2 ∨ k = 3 by omega) with rfl | rfl | rfl
  · obtain ⟨a, e, _⟩ := sqr1 h
    cases e
    simp [lapS, subm, dM, cfL]
  · obtain ⟨a, b, c, d, e, _⟩ := sqr2 h
    cases e
    simp [lapS, subm, dM, cfL, det2]
    grind
  · obtain ⟨a, b, c, d, e, f, g, h, i, e, _⟩ := sqr3 h
    cases e
    simp [lapS, subm, dM, cfL, det2, det3]
    grind
theorem dM_B {M : List (List Int)} {k : Nat} (h : Sqr k M) (hk : k ≤ 3) : Bd 400 (dM M) := by
  rcases (show k = 0 ∨ k = 1 ∨ k = 2 ∨ k = 3 by omega) with rfl | rfl | rfl | rfl
  · have := h.1
    cases M with
    | nil => exact .lit
    | cons a b => simp at this
  · obtain ⟨a, rfl, b1⟩ := sqr1 h
    exact b1.mono (by decide)
  · obtain ⟨a, b, c, d, rfl, b1, b2, b3, b4⟩ := sqr2 h
    exact ((b1.mul b4).sub (b2.mul b3)).mono (by decide)
  · obtain ⟨a, b, c, d, e, f, g, h, i, rfl, b1, b2, b3, b4, b5, b6, b7, b8, b9⟩ := sqr3 h
    exact (((b1.mul ((b5.mul b9).sub (b6.mul b8))).sub (b2.mul ((b4.mul b9).sub (b6.mul b7)))).add (b3.mul ((b4.mul b8).sub (b5.mul b7)))).mono (by decide)
theorem sub_sqr {r : List Int} {rest : List (List Int)} {k j : Nat} (h : Sqr (k + 1) (r :: rest)) (hj : j < k + 1) : Sqr k (subm rest j) := by
  obtain ⟨h1, h2, h3⟩ := h
  unfold subm
  refine ⟨by simp at h1 ⊢; omega, fun x hx => ?_, fun x hx y hy => ?_⟩
  · obtain ⟨row, hr, rfl⟩ := List.mem_map.mp hx
    have := h2 row (List.mem_cons_of_mem _ hr)
    simp; omega
  · obtain ⟨row, hr, rfl⟩ := List.mem_map.mp hx
    refine h3 row (List.mem_cons_of_mem _ hr) y ?_
    rcases List.mem_append.mp hy with z | z
    · exact List.mem_of_mem_take z
    · exact List.mem_of_mem_drop z
theorem hm_T (n : Nat) : ∀ ds Q, mT (n + 1) ds Q → w__law_turns (mT n) { nx := fun _ => Q .none, rt := Q } (rho0 N__law_turns (ds.map Sl.im)) := by
  rintro _ Q ⟨M, k, rfl, kn, k3, hM, q⟩
  unfold w__law_turns
  refine sq_k fun N hN => ?_
  simp -implicitDefEqProofs [rho0, PyData.eqv, PyData.depth, PyData.depthAll, eqv_nil]
  cases M with
  | nil =>
    simp -implicitDefEqProofs
    exact q
  | cons r rest =>
    rw [if_neg (by simp)]
    obtain ⟨k, rfl⟩ : ∃ m, k = m + 1 := ⟨k - 1, by have := hM.1; simp at this; omega⟩
    have lr := hM.2.1 r List.mem_cons_self
    refine hN _ ?_
    clear hN
    refine sq_k fun N hN => ?_
    simp -implicitDefEqProofs
    refine hN _ ?_
    clear hN
    refine sq_k fun N hN => ?_
    have er : iD r = .list (r.map .int) := rfl
    simp -implicitDefEqProofs [er]
    refine loop_en (fun j ρ => ∃ s2 s3 s4, ρ = [.im (.list (.list (r.map .int) :: rest.map iD)), .im (.int (lapS r rest j)), s2, s3, s4, .no]) ⟨_, _, _, rfl⟩ ?_ ?_
    · rintro _ ⟨s2, s3, s4, rfl⟩
      refine hN _ ?_
      simp -implicitDefEqProofs
      rw [lap_dM hM k3]
      exact q
    · clear hN
      rintro j x hx _ K ⟨s2, s3, s4, rfl⟩ hK
      obtain ⟨hj, ex⟩ := List.getElem?_eq_some_iff.mp hx
      have xe : cfL r j = x := by unfold cfL; rw [List.getD_eq_getElem?_getD, hx] <;> rfl
      have bx := hM.2.2 r List.mem_cons_self x (List.mem_of_getElem? hx)
      have ss := sub_sqr hM (j := j) (by omega)
      have bd := dM_B ss (by omega)
      simp -implicitDefEqProofs only [x_uT, x_uCons, x_uNil, x_uN, x_put2, x_put3]
      refine sq_k fun N hN => ?_
      have go : ∀ p, x * p = x * dM (subm rest j) → Bd 400 p → N [.im (.list (.list (r.map .int) :: rest.map iD)), .im (.int (lapS r rest j)), .im (.int (0 + (j : Int))), .im (.int x), .im (.int p), .no] := by
        intro p hp bp
        refine hN _ ?_
        clear hN
        have efm : (j : Int).fmod 2 = (j : Int) % 2 := Int.fmod_eq_emod_of_nonneg _ (by decide)
        simp -implicitDefEqProofs [PyData.eqv, PyData.depth, efm]
        refine ite_p (fun h => ⟨bx.ok bp, ?_⟩) fun h => ⟨bx.ok bp, ?_⟩
        · rw [hp]
          have := hK _ ⟨.im (.int (j : Int)), .im (.int x), .im (.int p), rfl⟩
          rw [lapS, xe, if_pos h] at this
          exact this
        · rw [hp]
          have := hK _ ⟨.im (.int (j : Int)), .im (.int x), .im (.int p), rfl⟩
          rw [lapS, xe, if_neg h, Int.zero_sub] at this
          exact this
      clear hN
      have ez : (0 : Int) + (j : Int) = j := by omega
      rw [ez] at go ⊢
      have c1 : DL.cutD (PyData.list (r.map .int) :: rest.map iD) (some 1) none = rest.map iD := by
        unfold DL.cutD
        have h1 := HT.sIx_nat (PyData.list (r.map .int) :: rest.map iD).length 0 1
        rw [show ((1 : Nat) : Int) = 1 from rfl] at h1
        rw [h1, HT.sIx_none]
        simp [List.take_of_length_le]
      simp -implicitDefEqProofs [PyData.eqv, PyData.depth, c1]
      refine ite_p (fun h => ?_) fun h => ?_
      · refine go 0 (by rw [h]; simp) .lit
      · refine comp_map (fun ρ => ρ = [.im (.list (.list (r.map .int) :: rest.map iD)), .im (.int (lapS r rest j)), .im (.int (j : Int)), .im (.int x), s4, .no]) (h := iD) (fun row => row.take j ++ row.drop (j + 1)) rfl (by have := hM.1; simp at this; omega) ?_ ?_
        · rintro _ rfl
          refine ⟨subm rest j, k, rfl, by omega, by omega, ss, ?_⟩
          exact go _ rfl bd
        · rintro row hrow _ rfl K2 E2 hK2
          have lrow := hM.2.1 row (List.mem_cons_of_mem _ hrow)
          have er2 : iD row = .list (row.map .int) := rfl
          rw [er2]
          have c2 : DL.cutD (row.map PyData.int) none (some (j : Int)) = (row.take j).map PyData.int := by
            unfold DL.cutD
            rw [HT.sIx_nat, HT.sIx_none, List.length_map, Nat.min_eq_left (by omega)]
            simp
          have c3 : DL.cutD (row.map PyData.int) (some ((j : Int) + 1)) none = (row.drop (j + 1)).map PyData.int := by
            unfold DL.cutD
            rw [show ((j : Int) + 1) = ((j + 1 : Nat) : Int) by omega, HT.sIx_nat, HT.sIx_none]
            rw [List.length_map, Nat.min_eq_left (by omega), List.take_of_length_le (by simp), List.map_drop]
          simp -implicitDefEqProofs
          rw [c2, c3]
          have e : List.take j (List.map PyData.int row) ++ List.drop (j + 1) (List.map PyData.int row) = (row.take j ++ row.drop (j + 1)).map .int := by simp
          rw [List.map_take, List.map_drop, e]
          exact ⟨by simp; omega, hK2 _ rfl⟩
/-! ### two lines -/
def twoF (f : List Int) : List Int := (List.range f.length).map fun (k : Nat) => cfI f k * cfI f k - cfI f ((k : Int) - 1) * cfI f ((k : Int) + 1)
def m_two_lines : MD := fun ds Q => ∃ f, ds = [.tuple (f.map .int)] ∧ f.length ≤ 100 ∧ (∀ x ∈ f, Bd 60 x) ∧ Q (.tuple ((twoF f).map .int))
theorem mm_two_lines : MonoM m_two_lines := fun ds Q Q' h ⟨a, e, b, c, k⟩ => ⟨a, e, b, c, h _ k⟩
theorem len_two_lines : ∀ ds Q, m_two_lines ds Q → ds.length = 1 := fun ds Q ⟨xs, e, _⟩ => by rw [e]; rfl
theorem at_cf {f : List Int} {j : Nat} {x : Int} (hx : f[j]? = some x) : cfI f j = x := by unfold cfI; rw [if_pos (by omega), Int.toNat_natCast, List.getD_eq_getElem?_getD, hx] <;> rfl
theorem hm_two_lines : ∀ ds Q, m_two_lines ds Q → w_two_lines m_number_at { nx := fun _ => Q .none, rt := Q } (rho0 N_two_lines (ds.map Sl.im)) := by
  rintro _ Q ⟨f, rfl, hl, hb, q⟩
  unfold w_two_lines
  refine sq_k fun N hN => ?_
  simp -implicitDefEqProofs [rho0]
  refine hN _ ?_
  clear hN
  refine sq_k fun N hN => ?_
  simp -implicitDefEqProofs
  refine loop_en (fun j ρ => ∃ s2 s3 s4, ρ = [.im (.tuple (f.map .int)), .ow ((List.range j).map fun (k : Nat) => PyData.int (cfI f k * cfI f k - cfI f ((k : Int) - 1) * cfI f ((k : Int) + 1))), s2, s3, s4]) ⟨_, _, _, rfl⟩ ?_ ?_
  · rintro _ ⟨s2, s3, s4, rfl⟩
    refine hN _ ?_
    have e : (List.range f.length).map (fun (k : Nat) => PyData.int (cfI f k * cfI f k - cfI f ((k : Int) - 1) * cfI f ((k : Int) + 1))) = (twoF f).map .int := by
      unfold twoF
      rw [List.map_map]; rfl
    rw [e]
    simp -implicitDefEqProofs
    exact q
  · clear hN
    rintro j x hx _ K ⟨s2, s3, s4, rfl⟩ hK
    obtain ⟨hj, _⟩ := List.getElem?_eq_some_iff.mp hx
    have xe := at_cf hx
    have bx := hb x (List.mem_of_getElem? hx)
    rw [Int.zero_add]
    simp -implicitDefEqProofs only [x_uT, x_uCons, x_uNil, x_uN, x_put2, x_put3]
    refine sq_k fun N hN => ?_
    have go : N [.im (.tuple (f.map .int)), .ow ((List.range j).map fun (k : Nat) => PyData.int (cfI f k * cfI f k - cfI f ((k : Int) - 1) * cfI f ((k : Int) + 1))), .im (.int (j : Int)), .im (.int x), .im (.int (cfI f ((j : Int) - 1)))] := by
      refine hN _ ?_
      clear hN
      simp -implicitDefEqProofs
      refine ⟨bx.ok bx, ⟨f, _, rfl, by omega, ?_⟩⟩
      simp -implicitDefEqProofs
      refine ⟨(Bd_cfI hb _).ok (Bd_cfI hb _), by omega, ?_⟩
      have e : List.map (fun (k : Nat) => PyData.int (cfI f k * cfI f k - cfI f ((k : Int) - 1) * cfI f ((k : Int) + 1))) (List.range j) ++ [PyData.int (x * x - cfI f ((j : Int) - 1) * cfI f ((j : Int) + 1))] = List.map (fun (k : Nat) => PyData.int (cfI f k * cfI f k - cfI f ((k : Int) - 1) * cfI f ((k : Int) + 1))) (List.range (j + 1)) := by
        rw [List.range_succ, List.map_append, ← xe]; rfl
      rw [e]
      exact hK _ ⟨_, _, _, rfl⟩
    clear hN
    simp -implicitDefEqProofs
    refine ite_p (fun h => ?_) fun h => ?_
    · rw [atG (by omega) (by omega)]
      exact go
    · rw [cfI_neg (F := f) (i := (j : Int) - 1) (by omega)] at go
      exact go
/-! ### the law's minor -/
def m__law_minor : MD := fun ds Q => ∃ f ls cs, ds = [.tuple (f.map .int), .tuple (ls.map .int), .tuple (cs.map .int)] ∧ ls.length = cs.length ∧ ls.length ≤ 3 ∧ (∀ x ∈ f, Bd 60 x) ∧ Q (.int (bmin f ls cs))
theorem mm__law_minor : MonoM m__law_minor := fun ds Q Q' h ⟨a, b, c, e, d, f, g, k⟩ => ⟨a, b, c, e, d, f, g, h _ k⟩
theorem len__law_minor : ∀ ds Q, m__law_minor ds Q → ds.length = 3 := fun ds Q ⟨xs, b, c, e, _⟩ => by rw [e]; rfl
abbrev m__law_turns : MD := mT 4
theorem mm__law_turns : MonoM m__law_turns := mm_T 4
theorem hm__law_minor : ∀ ds Q, m__law_minor ds Q → w__law_minor m__law_turns { nx := fun _ => Q .none, rt := Q } (rho0 N__law_minor (ds.map Sl.im)) := by
  rintro _ Q ⟨f, ls, cs, rfl, hl, h3, hb, q⟩
  unfold w__law_minor
  simp -implicitDefEqProofs [rho0]
  refine comp_map (fun ρ => ρ = [Sl.im (.tuple (f.map .int)), .im (.tuple (ls.map .int)), .im (.tuple (cs.map .int)), .no, .no]) (h := iD) (fun i => cs.map fun j => cfI f (i - j)) rfl (by omega) ?_ ?_
  · rintro _ rfl
    exact ⟨bmt f ls cs, ls.length, rfl, by omega, h3, bmt_sqr rfl hl.symm hb, q⟩
  · rintro i hi _ rfl K E hK
    simp -implicitDefEqProofs
    refine comp_map (fun ρ => ρ = [Sl.im (.tuple (f.map .int)), .im (.tuple (ls.map .int)), .im (.tuple (cs.map .int)), .im (.int i), .no]) (h := PyData.int) (fun j => cfI f (i - j)) rfl (by omega) ?_ ?_
    · rintro _ rfl
      simp -implicitDefEqProofs only [x_rest3, q_shd2, restP1]
      exact hK _ rfl
    · rintro j hj _ rfl K2 E2 hK2
      simp -implicitDefEqProofs
      refine ite_p (fun h => ite_p (fun h2 => ?_) fun h2 => ?_) fun h => ?_
      · rw [atG (by omega) h2]
        exact hK2 _ rfl
      · have := hK2 _ rfl
        rw [cfI_out (F := f) (i := i - j) (by omega)] at this
        exact this
      · have := hK2 _ rfl
        rw [cfI_neg (F := f) (i := i - j) (by omega)] at this
        exact this
end K79

set_option Elab.async false
set_option linter.all false
set_option maxRecDepth 100000
namespace K79
open PySem PySem.Spec PyProof.Rows L2 DL
/-! ### lots -/
def sbs (k : Nat) : Nat → List (List Int)
  | 0 => [[]]
  | i + 1 => sbs k i ++ ((sbs k i).filter fun s => decide (s.length < k)).map (· ++ [(i : Int)])
def someL (n k : Nat) : List (List Int) := (sbs k n).filter fun s => decide (s.length = k)
def nxt (s : List Int) : Int := if s = [] then 0 else s.getLastD 0 + 1
def lotN (size : Int) (s : List Int) : List (List Int) := (List.range (size - nxt s).toNat).map fun (i : Nat) => s ++ [nxt s + (i : Int)]
def bandL (size : Int) : Nat → List (List Int)
  | 0 => [[]]
  | k + 1 => (bandL size k).flatMap (lotN size)
theorem sL1 : someL 7 1 = [[0], [1], [2], [3], [4], [5], [6]] := by decide +kernel
theorem sL2 : someL 7 2 = [[0, 1], [0, 2], [1, 2], [0, 3], [1, 3], [2, 3], [0, 4], [1, 4], [2, 4], [3, 4], [0, 5], [1, 5], [2, 5], [3, 5], [4, 5], [0, 6], [1, 6], [2, 6], [3, 6], [4, 6], [5, 6]] := by decide +kernel
theorem sL3 : someL 7 3 = [[0, 1, 2], [0, 1, 3], [0, 2, 3], [1, 2, 3], [0, 1, 4], [0, 2, 4], [1, 2, 4], [0, 3, 4], [1, 3, 4], [2, 3, 4], [0, 1, 5], [0, 2, 5], [1, 2, 5], [0, 3, 5], [1, 3, 5], [2, 3, 5], [0, 4, 5], [1, 4, 5], [2, 4, 5], [3, 4, 5], [0, 1, 6], [0, 2, 6], [1, 2, 6], [0, 3, 6], [1, 3, 6], [2, 3, 6], [0, 4, 6], [1, 4, 6], [2, 4, 6], [3, 4, 6], [0, 5, 6], [1, 5, 6], [2, 5, 6], [3, 5, 6], [4, 5, 6]] := by decide +kernel
def lsum : List Int → Int
  | [] => 0
  | x :: xs => x + lsum xs
theorem lsum_perm {xs ys : List Int} (h : xs.Perm ys) : lsum xs = lsum ys := by
  induction h with
  | nil => rfl
  | cons x _ ih => rw [lsum, lsum, ih]
  | swap x y l => rw [lsum, lsum, lsum, lsum]; omega
  | trans _ _ h1 h2 => exact h1.trans h2
theorem lsum_nn {xs : List Int} (h : ∀ x ∈ xs, 0 ≤ x) : 0 ≤ lsum xs := by
  induction xs with
  | nil => exact Int.le_refl _
  | cons x xs ih =>
    have h1 := h x List.mem_cons_self
    have h2 := ih fun y hy => h y (List.mem_cons_of_mem _ hy)
    rw [lsum]; omega
theorem sum1 (F : List Int → Int) : lsum ((someL 7 1).map F) = sm (fun m => F [(m : Int)]) 7 := by
  rw [sL1]
  simp only [List.map_cons, List.map_nil, lsum, sm]
  simp only [Int.natCast_zero, Int.natCast_one, show ((2 : Nat) : Int) = 2 from rfl, show ((3 : Nat) : Int) = 3 from rfl, show ((4 : Nat) : Int) = 4 from rfl, show ((5 : Nat) : Int) = 5 from rfl, show ((6 : Nat) : Int) = 6 from rfl]
  omega
theorem sum2 (F : List Int → Int) : lsum ((someL 7 2).map F) = sm2 (fun m l => F [(m : Int), (l : Int)]) 7 := by
  rw [sL2]
  simp only [List.map_cons, List.map_nil, lsum, sm2, sm]
  simp only [Int.natCast_zero, Int.natCast_one, show ((2 : Nat) : Int) = 2 from rfl, show ((3 : Nat) : Int) = 3 from rfl, show ((4 : Nat) : Int) = 4 from rfl, show ((5 : Nat) : Int) = 5 from rfl, show ((6 : Nat) : Int) = 6 from rfl]
  omega
theorem sum3 (F : List Int → Int) : lsum ((someL 7 3).map F) = sm3 (fun m l k => F [(m : Int), (l : Int), (k : Int)]) 7 := by
  rw [sL3]
  simp only [List.map_cons, List.map_nil, lsum, sm3, sm2, sm]
  simp only [Int.natCast_zero, Int.natCast_one, show ((2 : Nat) : Int) = 2 from rfl, show ((3 : Nat) : Int) = 3 from rfl, show ((4 : Nat) : Int) = 4 from rfl, show ((5 : Nat) : Int) = 5 from rfl, show ((6 : Nat) : Int) = 6 from rfl]
  omega
/-! ### bands of products -/
theorem sm_tail {F : Nat → Int} {n : Nat} (h : ∀ m, n ≤ m → F m = 0) : ∀ t, sm F (n + t) = sm F n
  | 0 => rfl
  | t + 1 => by rw [show n + (t + 1) = (n + t) + 1 by omega, sm, sm_tail h t, h (n + t) (by omega)]; omega
theorem sm_zero {F : Nat → Int} : ∀ n, (∀ m, m < n → F m = 0) → sm F n = 0
  | 0, _ => rfl
  | n + 1, h => by rw [sm, sm_zero n fun m hm => h m (by omega), h n (by omega)]; rfl
theorem pcv_sm (f g : List Int) (k : Int) : ∀ n, pcv f g k n = sm (fun l => cfI f l * cfI g (k - l)) n
  | 0 => rfl
  | n + 1 => by rw [pcv, sm, pcv_sm f g k n]
theorem conv_cf {f g : List Int} (hf : f ≠ []) (hg : g ≠ []) (k : Int) : cfI (conv f g) k = sm (fun l => cfI f l * cfI g (k - l)) f.length := by
  have lf := List.length_pos_iff.mpr hf
  have lg := List.length_pos_iff.mpr hg
  have lc : (conv f g).length = f.length + g.length - 1 := by unfold conv; simp
  by_cases h0 : 0 ≤ k
  · by_cases h1 : k < ((f.length + g.length - 1 : Nat) : Int)
    · rw [← pcv_sm]
      unfold conv cfI
      rw [if_pos h0, List.getD_eq_getElem?_getD, List.getElem?_map, List.getElem?_range (by omega)]
      show pcv f g ((k.toNat : Nat) : Int) f.length = _
      rw [show ((k.toNat : Nat) : Int) = k by omega]
    · rw [cfI_out (by rw [lc]; omega)]
      refine (sm_zero _ fun m hm => ?_).symm
      rw [cfI_out (F := g) (i := k - m) (by omega), Int.mul_zero]
  · rw [cfI_neg (by omega)]
    refine (sm_zero _ fun m hm => ?_).symm
    rw [cfI_neg (F := g) (i := k - m) (by omega), Int.mul_zero]
theorem rev7 {A G : Int → Int} (hA : ∀ t, t < 0 → A t = 0) (hG : ∀ t, t < 0 → G t = 0) {i : Int} (h0 : 0 ≤ i) (h6 : i ≤ 6) : sm (fun l => A l * G (i - l)) 7 = sm (fun m => A (i - m) * G m) 7 := by
  have a1 := hA (-1) (by decide)
  have a2 := hA (-2) (by decide)
  have a3 := hA (-3) (by decide)
  have a4 := hA (-4) (by decide)
  have a5 := hA (-5) (by decide)
  have a6 := hA (-6) (by decide)
  have g1 := hG (-1) (by decide)
  have g2 := hG (-2) (by decide)
  have g3 := hG (-3) (by decide)
  have g4 := hG (-4) (by decide)
  have g5 := hG (-5) (by decide)
  have g6 := hG (-6) (by decide)
  rcases (show i = 0 ∨ i = 1 ∨ i = 2 ∨ i = 3 ∨ i = 4 ∨ i = 5 ∨ i = 6 by omega) with rfl | rfl | rfl | rfl | rfl | rfl | rfl <;> simp [sm, a1, a2, a3, a4, a5, a6, g1, g2, g3, g4, g5, g6] <;> omega
theorem conv_band {f g : List Int} (hf : f ≠ []) (hg : g ≠ []) {i j : Int} (h0 : 0 ≤ i) (h6 : i ≤ 6) (hj : 0 ≤ j) : cfI (conv f g) (i - j) = sm (fun m => cfI f (i - m) * cfI g (m - j)) 7 := by
  rw [conv_cf hf hg]
  have t1 := sm_tail (F := fun l => cfI f l * cfI g (i - j - l)) (n := f.length) (fun m hm => by rw [cfI_out (F := f) (i := m) (by omega), Int.zero_mul]) 7
  have t2 := sm_tail (F := fun l => cfI f l * cfI g (i - j - l)) (n := 7) (fun m hm => by rw [cfI_neg (F := g) (i := i - j - m) (by omega), Int.mul_zero]) f.length
  rw [← t1, Nat.add_comm, t2]
  have r := rev7 (A := cfI f) (G := fun t => cfI g (t - j)) (fun t ht => cfI_neg ht) (fun t ht => cfI_neg (by omega)) h0 h6
  rw [← r]
  apply sm_congr
  intro m _
  rw [show i - j - (m : Int) = i - m - j by omega]
/-! ### Cauchy, Binet -/
theorem mem1 {ls : List Int} (h : ls ∈ someL 7 1) : ∃ a, ls = [a] ∧ 0 ≤ a ∧ a ≤ 6 := by
  have key : ∀ l ∈ someL 7 1, l.length = 1 ∧ 0 ≤ l.getD 0 0 ∧ l.getD 0 0 ≤ 6 := by decide +kernel
  obtain ⟨h1, h2, h3⟩ := key ls h
  match ls, h1 with
  | [a], _ => exact ⟨a, rfl, h2, h3⟩
theorem mem2 {ls : List Int} (h : ls ∈ someL 7 2) : ∃ a b, ls = [a, b] ∧ 0 ≤ a ∧ a < b ∧ b ≤ 6 := by
  have key : ∀ l ∈ someL 7 2, l.length = 2 ∧ 0 ≤ l.getD 0 0 ∧ l.getD 0 0 < l.getD 1 0 ∧ l.getD 1 0 ≤ 6 := by decide +kernel
  obtain ⟨h1, h2, h3, h4⟩ := key ls h
  match ls, h1 with
  | [a, b], _ => exact ⟨a, b, rfl, h2, h3, h4⟩
theorem mem3 {ls : List Int} (h : ls ∈ someL 7 3) : ∃ a b c, ls = [a, b, c] ∧ 0 ≤ a ∧ a < b ∧ b < c ∧ c ≤ 6 := by
  have key : ∀ l ∈ someL 7 3, l.length = 3 ∧ 0 ≤ l.getD 0 0 ∧ l.getD 0 0 < l.getD 1 0 ∧ l.getD 1 0 < l.getD 2 0 ∧ l.getD 2 0 ≤ 6 := by decide +kernel
  obtain ⟨h1, h2, h3, h4, h5⟩ := key ls h
  match ls, h1 with
  | [a, b, c], _ => exact ⟨a, b, c, rfl, h2, h3, h4, h5⟩
theorem mem0 {ls : List Int} (h : ls ∈ someL 7 0) : ls = [] := by
  have : someL 7 0 = [[]] := by decide +kernel
  rw [this] at h
  simpa using h
theorem cauchy {f g : List Int} (hf : f ≠ []) (hg : g ≠ []) {k : Nat} (hk : k ≤ 3) {ls cs : List Int} (hl : ls ∈ someL 7 k) (hc : cs ∈ someL 7 k) : lsum ((someL 7 k).map fun s => bmin f ls s * bmin g s cs) = bmin (conv f g) ls cs := by
  rcases (show k = 0 ∨ k = 1 ∨ k = 2 ∨ k = 3 by omega) with rfl | rfl | rfl | rfl
  · obtain rfl := mem0 hl
    obtain rfl := mem0 hc
    have : someL 7 0 = [[]] := by decide +kernel
    rw [this]
    rfl
  · obtain ⟨i, rfl, i0, i6⟩ := mem1 hl
    obtain ⟨j, rfl, j0, j6⟩ := mem1 hc
    rw [sum1]
    show _ = cfI (conv f g) (i - j)
    rw [conv_band hf hg i0 i6 j0]
    rfl
  · obtain ⟨i1, i2, rfl, i0, i12, i6⟩ := mem2 hl
    obtain ⟨j1, j2, rfl, j0, j12, j6⟩ := mem2 hc
    rw [sum2]
    show _ = det2 (cfI (conv f g) (i1 - j1)) (cfI (conv f g) (i1 - j2)) (cfI (conv f g) (i2 - j1)) (cfI (conv f g) (i2 - j2))
    rw [conv_band hf hg (by omega) (by omega) (by omega), conv_band hf hg (by omega) (by omega) (by omega), conv_band hf hg (by omega) (by omega) (by omega), conv_band hf hg (by omega) (by omega) (by omega)]
    exact cb2 (fun m => cfI f (i1 - m)) (fun m => cfI f (i2 - m)) (fun m => cfI g (m - j1)) (fun m => cfI g (m - j2)) 7
  · obtain ⟨i1, i2, i3, rfl, i0, i12, i23, i6⟩ := mem3 hl
    obtain ⟨j1, j2, j3, rfl, j0, j12, j23, j6⟩ := mem3 hc
    rw [sum3]
    show _ = det3 (cfI (conv f g) (i1 - j1)) (cfI (conv f g) (i1 - j2)) (cfI (conv f g) (i1 - j3)) (cfI (conv f g) (i2 - j1)) (cfI (conv f g) (i2 - j2)) (cfI (conv f g) (i2 - j3)) (cfI (conv f g) (i3 - j1)) (cfI (conv f g) (i3 - j2)) (cfI (conv f g) (i3 - j3))
    rw [conv_band hf hg (i := i1) (j := j1) (by omega) (by omega) (by omega), conv_band hf hg (i := i1) (j := j2) (by omega) (by omega) (by omega), conv_band hf hg (i := i1) (j := j3) (by omega) (by omega) (by omega), conv_band hf hg (i := i2) (j := j1) (by omega) (by omega) (by omega), conv_band hf hg (i := i2) (j := j2) (by omega) (by omega) (by omega), conv_band hf hg (i := i2) (j := j3) (by omega) (by omega) (by omega), conv_band hf hg (i := i3) (j := j1) (by omega) (by omega) (by omega), conv_band hf hg (i := i3) (j := j2) (by omega) (by omega) (by omega), conv_band hf hg (i := i3) (j := j3) (by omega) (by omega) (by omega)]
    exact cb3 (fun m => cfI f (i1 - m)) (fun m => cfI f (i2 - m)) (fun m => cfI f (i3 - m)) (fun m => cfI g (m - j1)) (fun m => cfI g (m - j2)) (fun m => cfI g (m - j3)) 7
/-! ### all minors from nought on -/
def TP (f : List Int) : Prop := ∀ k, k ≤ 3 → ∀ ls ∈ someL 7 k, ∀ cs ∈ someL 7 k, 0 ≤ bmin f ls cs
theorem TP.conv {f g : List Int} (hf : f ≠ []) (hg : g ≠ []) (h1 : TP f) (h2 : TP g) : TP (conv f g) := fun k hk ls hl cs hc => by
  rw [← cauchy hf hg hk hl hc]
  refine lsum_nn fun x hx => ?_
  obtain ⟨s, hs, rfl⟩ := List.mem_map.mp hx
  exact Int.mul_nonneg (h1 k hk ls hl s hs) (h2 k hk s hs cs hc)
theorem TP.two {E : Int → Int → Int} {f : List Int} (hE : ∀ i j, cfI f (i - j) = E i j) (nn : ∀ i j, 0 ≤ E i j) (z : ∀ i i' j j', i < i' → j < j' → E i j' * E i' j = 0) : TP f := fun k hk ls hl cs hc => by
  rcases (show k = 0 ∨ k = 1 ∨ k = 2 ∨ k = 3 by omega) with rfl | rfl | rfl | rfl
  · obtain rfl := mem0 hl
    obtain rfl := mem0 hc
    show (0 : Int) ≤ 1
    decide
  · obtain ⟨i, rfl, i0, i6⟩ := mem1 hl
    obtain ⟨j, rfl, j0, j6⟩ := mem1 hc
    show 0 ≤ cfI f (i - j)
    rw [hE]; exact nn _ _
  · obtain ⟨i1, i2, rfl, i0, i12, i6⟩ := mem2 hl
    obtain ⟨j1, j2, rfl, j0, j12, j6⟩ := mem2 hc
    show 0 ≤ det2 (cfI f (i1 - j1)) (cfI f (i1 - j2)) (cfI f (i2 - j1)) (cfI f (i2 - j2))
    rw [hE, hE, hE, hE]
    unfold det2
    rw [z i1 i2 j1 j2 i12 j12, Int.sub_zero]
    exact Int.mul_nonneg (nn _ _) (nn _ _)
  · obtain ⟨i1, i2, i3, rfl, i0, i12, i23, i6⟩ := mem3 hl
    obtain ⟨j1, j2, j3, rfl, j0, j12, j23, j6⟩ := mem3 hc
    show 0 ≤ det3 (cfI f (i1 - j1)) (cfI f (i1 - j2)) (cfI f (i1 - j3)) (cfI f (i2 - j1)) (cfI f (i2 - j2)) (cfI f (i2 - j3)) (cfI f (i3 - j1)) (cfI f (i3 - j2)) (cfI f (i3 - j3))
    simp only [hE]
    have z1 := z i2 i3 j2 j3 i23 j23
    have z2 := z i1 i2 j1 j2 i12 j12
    have z3 := z i1 i3 j1 j2 (by omega) j12
    have z4 := z i1 i2 j1 j3 i12 (by omega)
    have z5 := z i1 i3 j1 j3 (by omega) (by omega)
    have e : det3 (E i1 j1) (E i1 j2) (E i1 j3) (E i2 j1) (E i2 j2) (E i2 j3) (E i3 j1) (E i3 j2) (E i3 j3) = E i1 j1 * (E i2 j2 * E i3 j3) := by
      unfold det3
      generalize E i1 j1 = a at *
      generalize E i1 j2 = b at *
      generalize E i1 j3 = c at *
      generalize E i2 j1 = d at *
      generalize E i2 j2 = e at *
      generalize E i2 j3 = f at *
      generalize E i3 j1 = g at *
      generalize E i3 j2 = h at *
      generalize E i3 j3 = i at *
      have y1 : a * (f * h) = 0 := by rw [z1, Int.mul_zero]
      have y2 : (b * d) * i = 0 := by rw [z2, Int.zero_mul]
      have y3 : (b * g) * f = 0 := by rw [z3, Int.zero_mul]
      have y4 : (c * d) * h = 0 := by rw [z4, Int.zero_mul]
      have y5 : (c * g) * e = 0 := by rw [z5, Int.zero_mul]
      clear z1 z2 z3 z4 z5 nn z hE
      grind
    rw [e]
    exact Int.mul_nonneg (nn _ _) (Int.mul_nonneg (nn _ _) (nn _ _))
theorem TP.pq {p q : Int} (hp : 0 ≤ p) (hq : 0 ≤ q) : TP [p, q] := by
  have hE : ∀ i j : Int, cfI [p, q] (i - j) = if i = j then p else if i = j + 1 then q else 0 := fun i j => by
    by_cases h : i = j
    · subst h; rw [Int.sub_self, if_pos rfl]; rfl
    · rw [if_neg h]
      by_cases h2 : i = j + 1
      · subst h2; rw [if_pos rfl, show j + 1 - j = 1 by omega]; rfl
      · rw [if_neg h2]
        by_cases h3 : i < j
        · exact cfI_neg (by omega)
        · exact cfI_out (by simp; omega)
  refine TP.two hE (fun i j => ?_) fun i i' j j' h1 h2 => ?_
  · show 0 ≤ (if i = j then p else if i = j + 1 then q else 0)
    split
    · exact hp
    · split
      · exact hq
      · exact Int.le_refl _
  · show (if i = j' then p else if i = j' + 1 then q else 0) * (if i' = j then p else if i' = j + 1 then q else 0) = 0
    by_cases c1 : i = j' ∨ i = j' + 1
    · rw [if_neg (show ¬ i' = j by omega), if_neg (show ¬ i' = j + 1 by omega), Int.mul_zero]
    · rw [if_neg (show ¬ i = j' by omega), if_neg (show ¬ i = j' + 1 by omega), Int.zero_mul]
theorem TP.one {c : Int} (hc : 0 ≤ c) : TP [c] := by
  have hE : ∀ i j : Int, cfI [c] (i - j) = if i = j then c else 0 := fun i j => by
    by_cases h : i = j
    · subst h; rw [Int.sub_self, if_pos rfl]; rfl
    · rw [if_neg h]
      by_cases h3 : i < j
      · exact cfI_neg (by omega)
      · exact cfI_out (by simp; omega)
  refine TP.two hE (fun i j => ?_) fun i i' j j' h1 h2 => ?_
  · show 0 ≤ (if i = j then c else 0)
    split
    · exact hc
    · exact Int.le_refl _
  · show (if i = j' then c else 0) * (if i' = j then c else 0) = 0
    by_cases c1 : i = j'
    · rw [if_neg (show ¬ i' = j by omega), Int.mul_zero]
    · rw [if_neg c1, Int.zero_mul]
theorem TP.lin {c : Int} (hc : 0 ≤ c) : ∀ {ps : List (Int × Int)}, PsOk ps → TP (linP c ps)
  | [], _ => TP.one hc
  | (p, q) :: r, h => by
    obtain ⟨h1, h2⟩ := h (p, q) List.mem_cons_self
    rw [linP, ← conv_lin (linP_ne r)]
    exact TP.conv (linP_ne r) (by simp) (TP.lin hc fun x hx => h x (List.mem_cons_of_mem _ hx)) (TP.pq h1.1 (by have := h2.1; simp at this; omega))
end K79

set_option Elab.async false
set_option linter.all false
set_option maxRecDepth 100000
namespace K79
open PySem PySem.Spec PyProof.Rows L2 DL
theorem bandL_small : ∀ n ∈ ([2, 3, 4] : List Nat), ∀ k ∈ ([0, 1, 2, 3] : List Nat), (bandL (n : Int) k).length ≤ 100 ∧ ∀ s ∈ bandL (n : Int) k, s.length = k := by decide +kernel
theorem bandL_some : ∀ n ∈ ([2, 3, 4] : List Nat), ∀ k ∈ ([1, 2, 3] : List Nat), (∀ s ∈ bandL (n : Int) k, s ∈ someL n k) ∧ (∀ s ∈ someL n k, s ∈ bandL (n : Int) k) := by decide +kernel
theorem someL_small : ∀ n ∈ ([2, 3, 4, 7] : List Nat), ∀ k ∈ ([0, 1, 2, 3] : List Nat), (someL n k).length < 64 ∧ (1 ≤ k → ∀ l ∈ someL n k, l.length = k ∧ ∀ m ∈ l, 0 ≤ m ∧ m < 10) ∧ (k = 0 → (someL n k).length ≤ 1) := by decide +kernel
theorem someL_in : ∀ n ∈ ([2, 3, 4] : List Nat), ∀ k ∈ ([1, 2, 3] : List Nat), ∀ s ∈ someL n k, s ∈ someL 7 k := by decide +kernel
theorem someL_ne : ∀ n ∈ ([2, 3, 4, 7] : List Nat), ∀ k ∈ ([0, 1, 2] : List Nat), someL n k ≠ [] := by decide +kernel
theorem sbs_small : ∀ k ∈ ([0, 1, 2, 3] : List Nat), ∀ i ∈ ([0, 1, 2, 3, 4, 5, 6, 7] : List Nat), (sbs k i).length ≤ 200 := by decide +kernel
theorem tupD_len (s : List Int) : (s.map PyData.int).length = s.length := by simp
theorem last_at {s : List Int} (h : s ≠ []) : atI (s.map PyData.int) (-1) = some (.int (s.getLastD 0)) := by
  have := List.length_pos_iff.mpr h
  unfold atI ixN
  rw [if_neg (by decide), if_pos (by rw [List.length_map]; omega)]
  show (s.map PyData.int)[(-1 + ((s.map PyData.int).length : Int)).toNat]? = _
  rw [List.length_map, show (-1 + (s.length : Int)).toNat = s.length - 1 by omega, List.getElem?_map, List.getElem?_eq_getElem (by omega)]
  rw [List.getLastD_eq_getLast?, List.getLast?_eq_getElem?, List.getElem?_eq_getElem (by omega)]
  rfl
def m_band_lots : MD := fun ds Q => ∃ n k : Nat, ds = [.int (n : Int), .int (k : Int)] ∧ n ∈ ([2, 3, 4] : List Nat) ∧ k ∈ ([1, 2, 3] : List Nat) ∧ Q (.list ((bandL n k).map tupD))
theorem mm_band_lots : MonoM m_band_lots := fun ds Q Q' h ⟨a, b, e, c, d, k⟩ => ⟨a, b, e, c, d, h _ k⟩
theorem len_band_lots : ∀ ds Q, m_band_lots ds Q → ds.length = 2 := fun ds Q ⟨xs, b, e, _⟩ => by rw [e]; rfl
theorem hm_band_lots : ∀ ds Q, m_band_lots ds Q → w_band_lots { nx := fun _ => Q .none, rt := Q } (rho0 N_band_lots (ds.map Sl.im)) := by
  rintro _ Q ⟨n, k, rfl, hn, hk, q⟩
  have n4 : n ≤ 4 := by simp at hn; omega
  have k3 : k ≤ 3 := by simp at hk; omega
  unfold w_band_lots
  refine sq_k fun N hN => ?_
  simp -implicitDefEqProofs [rho0]
  refine hN _ ?_
  clear hN
  refine sq_k fun N hN => ?_
  simp -implicitDefEqProofs
  refine ⟨⟨by omega, by omega⟩, loop_rg (fun j ρ => ∃ s3 s4 s5, ρ = [.im (.int n), .im (.int k), .ow ((bandL n j).map tupD), s3, s4, s5, .no]) ⟨_, _, _, rfl⟩ ?_ ?_⟩
  · rintro _ ⟨s3, s4, s5, rfl⟩
    refine hN _ ?_
    simp -implicitDefEqProofs
    exact q
  · clear hN
    rintro j hj _ K ⟨s3, s4, s5, rfl⟩ hK
    have hj3 : j < 3 := by omega
    obtain ⟨bl1, bl2⟩ := bandL_small n (by simpa using hn) j (by simp; omega)
    obtain ⟨bl3, _⟩ := bandL_small n (by simpa using hn) (j + 1) (by simp; omega)
    simp -implicitDefEqProofs only [x_uN, x_put3]
    refine sq_k fun N hN => ?_
    simp -implicitDefEqProofs
    refine hN _ ?_
    clear hN
    refine sq_k fun N hN => ?_
    simp -implicitDefEqProofs
    refine loop_pre (fun us ρ => ∃ s3 s5, ρ = [.im (.int n), .im (.int k), .im (.list ((bandL n j).map tupD)), s3, .ow ((us.flatMap (lotN n)).map tupD), s5, .no]) ⟨_, _, rfl⟩ ?_ ?_
    · rintro _ ⟨s3, s5, rfl⟩
      refine hN _ ?_
      clear hN
      simp -implicitDefEqProofs
      exact hK _ ⟨_, _, _, rfl⟩
    · clear hN
      rintro us s vs es _ K2 ⟨s3, s5, rfl⟩ hK2
      have hs : s ∈ bandL n j := by rw [es]; simp
      have ls := bl2 s hs
      have et : tupD s = .tuple (s.map .int) := rfl
      have lu : (us.flatMap (lotN n)).length + (lotN n s).length ≤ 100 := by
        have : (bandL n (j + 1)).length = ((us ++ s :: vs).flatMap (lotN n)).length := by rw [← es]; rfl
        rw [this, List.flatMap_append, List.flatMap_cons, List.length_append, List.length_append] at bl3
        omega
      have small : ∀ n ∈ ([2, 3, 4] : List Nat), ∀ k ∈ ([0, 1, 2, 3] : List Nat), ∀ s ∈ bandL (n : Int) k, 0 ≤ nxt s ∧ nxt s ≤ 5 := by decide +kernel
      obtain ⟨x0, x1⟩ := small n (by simpa using hn) j (by simp; omega) s hs
      have key : compD (uN 6) wYes (wTup (wX (wP 5) (wS (wV 6) wN))) [6] (rgD (nxt s) 1 ((n : Int) - nxt s).toNat) []
          [Sl.im (PyData.int ↑n), Sl.im (PyData.int ↑k), Sl.im (PyData.list (List.map tupD (bandL (↑n) j))), s3,
            Sl.ow (List.map tupD (List.flatMap (lotN ↑n) us)), Sl.im (PyData.tuple (List.map PyData.int s)), Sl.no]
          fun acc ρ2 => extK 4 (fun ρ' => K2 ρ') (Sl.ow acc) ρ2 := by
        rw [rgD_map]
        refine comp_map (fun ρ => ρ = [Sl.im (PyData.int ↑n), Sl.im (PyData.int ↑k), Sl.im (PyData.list (List.map tupD (bandL (↑n) j))), s3,
            Sl.ow (List.map tupD (List.flatMap (lotN ↑n) us)), Sl.im (PyData.tuple (List.map PyData.int s)), Sl.no]) (h := tupD) (fun (i : Nat) => s ++ [nxt s + (i : Int)]) rfl (by simp; omega) ?_ ?_
        · rintro _ rfl
          have e1 : (List.range ((n : Int) - nxt s).toNat).map (fun (i : Nat) => s ++ [nxt s + (i : Int)]) = lotN n s := rfl
          rw [e1]
          have e2 : List.map tupD (us.flatMap (lotN n)) ++ List.map tupD (lotN n s) = ((us ++ [s]).flatMap (lotN n)).map tupD := by
            rw [← List.map_append, List.flatMap_append, List.flatMap_cons, List.flatMap_nil, List.append_nil]
          have := hK2 _ ⟨s3, .im (tupD s), rfl⟩
          rw [← e2] at this
          exact ⟨by rw [List.length_map, List.length_map]; omega, this⟩
        · rintro i hi _ rfl K3 E3 hK3
          simp -implicitDefEqProofs [dats_cmp1]
          have e3 : List.map PyData.int s ++ [PyData.int (nxt s + (i : Int))] = (s ++ [nxt s + (i : Int)]).map .int := by simp
          rw [e3]
          exact ⟨by omega, hK3 _ rfl⟩
      simp -implicitDefEqProofs [et, PyData.eqv, PyData.depth, PyData.depthAll, eqv_nil]
      refine ite_p (fun h => ?_) fun h => ?_
      · have e0 : nxt s = 0 := by unfold nxt; rw [if_pos h]
        rw [e0] at key
        exact ⟨⟨by decide, by decide⟩, ⟨by omega, by omega⟩, by simpa using key⟩
      · have e0 : nxt s = s.getLastD 0 + 1 := by unfold nxt; rw [if_neg h]
        rw [e0] at key x0 x1
        rw [last_at h]
        generalize s.getLastD 0 = w at *
        simp -implicitDefEqProofs
        exact ⟨⟨by omega, by omega⟩, ⟨by omega, by omega⟩, key⟩
/-- the least of the minors -/
def leastP (f : List Int) (L : List (List Int)) (m : Int) : Prop := (∃ a ∈ L, ∃ b ∈ L, m = bmin f a b) ∧ ∀ a ∈ L, ∀ b ∈ L, m ≤ bmin f a b
def m_least_minor : MD := fun ds Q => ∃ (f : List Int) (n k : Nat), ds = [.tuple (f.map .int), .int (n : Int), .int (k : Int)] ∧ n ∈ ([2, 3, 4] : List Nat) ∧ k ∈ ([1, 2, 3] : List Nat) ∧ someL n k ≠ [] ∧ (∀ x ∈ f, Bd 60 x) ∧ ∀ m, leastP f (someL n k) m → Q (.int m)
theorem mm_least_minor : MonoM m_least_minor := fun ds Q Q' h ⟨a, b, c, e, d, f, g, i, k⟩ => ⟨a, b, c, e, d, f, g, i, fun m hm => h _ (k m hm)⟩
theorem len_least_minor : ∀ ds Q, m_least_minor ds Q → ds.length = 3 := fun ds Q ⟨xs, b, c, e, _⟩ => by rw [e]; rfl
theorem hm_least_minor : ∀ ds Q, m_least_minor ds Q → w_least_minor m_band_minor m_band_lots { nx := fun _ => Q .none, rt := Q } (rho0 N_least_minor (ds.map Sl.im)) := by
  rintro _ Q ⟨f, n, k, rfl, hn, hk, ne, hb, q⟩
  have n4 : n ≤ 4 := by simp at hn; omega
  have k3 : k ≤ 3 := by simp at hk; omega
  obtain ⟨bl1, bl2⟩ := bandL_small n (by simpa using hn) k (by simp at hk ⊢; omega)
  obtain ⟨in1, in2⟩ := bandL_some n (by simpa using hn) k (by simpa using hk)
  have bne : bandL n k ≠ [] := by
    intro z
    cases h : someL n k with
    | nil => exact ne h
    | cons a r =>
      have := in2 a (by rw [h]; simp)
      rw [z] at this
      cases this
  unfold w_least_minor
  refine sq_k fun N hN => ?_
  simp -implicitDefEqProofs [rho0]
  refine ⟨n, k, rfl, hn, hk, hN _ ?_⟩
  clear hN
  generalize hL : bandL n k = L at *
  refine sq_k fun N hN => ?_
  simp -implicitDefEqProofs
  refine hN _ ?_
  clear hN
  refine sq_k fun N hN => ?_
  simp -implicitDefEqProofs
  refine loop_pre (fun us ρ => ∃ (ms : List Int) (s5 : Sl), ms.length = us.length ∧ (∀ m ∈ ms, ∃ a ∈ us, ∃ b ∈ L, m = bmin f a b) ∧ (∀ a ∈ us, ∃ m ∈ ms, ∀ b ∈ L, m ≤ bmin f a b) ∧ ρ = [.im (.tuple (f.map .int)), .im (.int n), .im (.int k), .im (.list (L.map tupD)), .ow (ms.map .int), s5, .no]) ⟨[], _, rfl, (fun m h => by cases h), (fun a h => by cases h), rfl⟩ ?_ ?_
  · rintro _ ⟨ms, s5, lm, h1, h2, rfl⟩
    refine hN _ ?_
    clear hN
    simp -implicitDefEqProofs
    refine ⟨fun z => ?_, fun m hm hle => q m ⟨?_, fun a ha b hb => ?_⟩⟩
    · subst z
      simp at lm
      exact bne (List.length_eq_zero_iff.mp lm.symm)
    · obtain ⟨a, ha, b, hb, e⟩ := h1 m hm
      exact ⟨a, in1 a ha, b, in1 b hb, e⟩
    · obtain ⟨m', hm', hl⟩ := h2 a (in2 a ha)
      have := hle m' hm'
      have := hl b (in2 b hb)
      omega
  · clear hN
    rintro us a vs es _ K ⟨ms, s5, lm, h1, h2, rfl⟩ hK
    have ha : a ∈ L := by rw [es]; simp
    have la := bl2 a ha
    have lu : us.length ≤ 100 := by
      have := congrArg List.length es
      simp at this; omega
    simp -implicitDefEqProofs
    refine comp_map (fun ρ => ρ = [.im (.tuple (f.map .int)), .im (.int n), .im (.int k), .im (.list (L.map tupD)), .ow (ms.map .int), .im (tupD a), .no]) (h := PyData.int) (fun b => bmin f a b) rfl (by omega) ?_ ?_
    · rintro _ rfl
      simp -implicitDefEqProofs only [q_intsM]
      refine ⟨by simpa using bne, fun m hm hle => ⟨by rw [List.length_map]; omega, ?_⟩⟩
      have e : List.map PyData.int ms ++ [PyData.int m] = (ms ++ [m]).map .int := by simp
      have h1' : ∀ m' ∈ ms ++ [m], ∃ a' ∈ us ++ [a], ∃ b ∈ L, m' = bmin f a' b := fun m' hm' => by
        rcases List.mem_append.mp hm' with z | z
        · obtain ⟨a', ha', q'⟩ := h1 m' z
          exact ⟨a', List.mem_append_left _ ha', q'⟩
        · rw [List.mem_singleton.mp z]
          obtain ⟨b, hb3, eb⟩ := List.mem_map.mp hm
          exact ⟨a, by simp, b, hb3, eb.symm⟩
      have h2' : ∀ a' ∈ us ++ [a], ∃ m' ∈ ms ++ [m], ∀ b ∈ L, m' ≤ bmin f a' b := fun a' ha' => by
        rcases List.mem_append.mp ha' with z | z
        · obtain ⟨m', hm', q'⟩ := h2 a' z
          exact ⟨m', List.mem_append_left _ hm', q'⟩
        · rw [List.mem_singleton.mp z]
          exact ⟨m, by simp, fun b hb3 => hle _ (List.mem_map.mpr ⟨b, hb3, rfl⟩)⟩
      have := hK _ ⟨ms ++ [m], .im (tupD a), by simp; omega, h1', h2', rfl⟩
      rw [← e] at this
      exact this
    · rintro b hb2 _ rfl K2 E2 hK2
      have lb := bl2 b hb2
      have et : ∀ s : List Int, tupD s = .tuple (s.map .int) := fun _ => rfl
      simp -implicitDefEqProofs [et]
      exact ⟨f, a, b, rfl, by omega, by omega, hb, hK2 _ rfl⟩
def m__law_some : MD := fun ds Q => ∃ n k : Nat, ds = [.int (n : Int), .int (k : Int)] ∧ n ∈ ([2, 3, 4, 7] : List Nat) ∧ k ∈ ([0, 1, 2, 3] : List Nat) ∧ ∀ ms : List (List Int), ms.Perm (someL n k) → Q (.list (ms.map tupD))
theorem mm__law_some : MonoM m__law_some := fun ds Q Q' h ⟨a, b, e, c, d, k⟩ => ⟨a, b, e, c, d, fun ms p => h _ (k ms p)⟩
theorem len__law_some : ∀ ds Q, m__law_some ds Q → ds.length = 2 := fun ds Q ⟨xs, b, e, _⟩ => by rw [e]; rfl
theorem hm__law_some : ∀ ds Q, m__law_some ds Q → w__law_some { nx := fun _ => Q .none, rt := Q } (rho0 N__law_some (ds.map Sl.im)) := by
  rintro _ Q ⟨n, k, rfl, hn, hk, q⟩
  have n7 : n ≤ 7 := by simp at hn; omega
  have k3 : k ≤ 3 := by simp at hk; omega
  unfold w__law_some
  refine sq_k fun N hN => ?_
  simp -implicitDefEqProofs [rho0]
  refine hN _ ?_
  clear hN
  refine sq_k fun N hN => ?_
  simp -implicitDefEqProofs
  refine ⟨⟨by omega, by omega⟩, loop_rg (fun j ρ => ∃ s3, ρ = [.im (.int n), .im (.int k), .ow ((sbs k j).map tupD), s3, .no]) ⟨_, rfl⟩ ?_ ?_⟩
  · rintro _ ⟨s3, rfl⟩
    refine hN _ ?_
    clear hN
    have sl := sbs_small k hk n (by simp; omega)
    obtain ⟨c1, c2, c3⟩ := someL_small n (by simpa using hn) k hk
    simp -implicitDefEqProofs
    refine comp_filt (fun ρ => ρ = [.im (.int n), .im (.int k), .im (.list ((sbs k n).map tupD)), s3, .no]) (h := tupD) (fun s => decide (s.length = k)) id rfl (by omega) ?_ ?_
    · rintro _ rfl
      rw [List.map_id]
      refine ⟨someL n k, rfl, c1, ?_, fun ms p => q ms p⟩
      by_cases hz : k = 0
      · exact .inl (c3 hz)
      · exact .inr ⟨k, show 1 ≤ k by omega, (10 : Int), c2 (by omega)⟩
    · rintro s hs _ rfl K E hK hE
      have et : tupD s = .tuple (s.map .int) := rfl
      simp -implicitDefEqProofs [et, PyData.eqv, PyData.depth]
      refine ite_p (fun h => hK (by simp; omega) _ rfl) fun h => hE (by simp; omega) _ rfl
  · clear hN
    rintro j hj _ K ⟨s3, rfl⟩ hK
    have sl := sbs_small k hk j (by simp; omega)
    have sl2 := sbs_small k hk (j + 1) (by simp; omega)
    simp -implicitDefEqProofs
    refine comp_filt (fun ρ => ρ = [.im (.int n), .im (.int k), .im (.list ((sbs k j).map tupD)), .im (.int (j : Int)), .no]) (h := tupD) (fun s => decide (s.length < k)) (fun s => s ++ [(j : Int)]) rfl (by omega) ?_ ?_
    · rintro _ rfl
      have e : List.map tupD (sbs k j) ++ List.map tupD (List.map (fun s => s ++ [(j : Int)]) (List.filter (fun s => decide (s.length < k)) (sbs k j))) = (sbs k (j + 1)).map tupD := by
        rw [sbs, List.map_append]
      rw [e]
      have lf := List.length_filter_le (fun s => decide (s.length < k)) (sbs k j)
      simp -implicitDefEqProofs
      exact ⟨by omega, hK _ ⟨_, rfl⟩⟩
    · rintro s hs _ rfl K2 E2 hK2 hE2
      have et : ∀ s : List Int, tupD s = .tuple (s.map .int) := fun _ => rfl
      simp -implicitDefEqProofs [et, PyData.eqv, PyData.depth]
      refine ite_p (fun h => ⟨by omega, ?_⟩) fun h => hE2 (by simp; omega) _ rfl
      have := hK2 (by simp; omega) _ rfl
      rw [et, List.map_append] at this
      exact this
end K79

set_option Elab.async false
set_option linter.all false
set_option maxRecDepth 100000
namespace K79
open PySem PySem.Spec PyProof.Rows L2 DL
theorem eqv_ints : ∀ a b : List Int, PyData.eqvAll (a.map PyData.int) (b.map PyData.int) = decide (a = b)
  | [], [] => by simp [PyData.eqvAll]
  | [], b :: bs => by simp [PyData.eqvAll]
  | a :: as, [] => by simp [PyData.eqvAll]
  | a :: as, b :: bs => by
    rw [List.map_cons, List.map_cons, PyData.eqvAll, eqv_ints as bs]
    by_cases h : a = b
    · subst h; simp [PyData.eqv]
    · simp [PyData.eqv, h]
theorem ints_dp : ∀ l : List Int, PyData.depthAll (l.map PyData.int) ≤ 1
  | [] => by simp [PyData.depthAll]
  | x :: xs => by
    have := ints_dp xs
    rw [List.map_cons, PyData.depthAll]
    simp [PyData.depth]
    exact this
theorem tup_dp (l : List Int) : (PyData.tuple (l.map PyData.int)).depth ≤ 60 := by
  have := ints_dp l
  rw [PyData.depth]; omega
structure GOk (l : List Int) : Prop where
  ne : l ≠ []
  len : l.length ≤ 5
  b : ∀ x ∈ l, Bd 22 x
theorem okI {x : Int} (h : Bd 1000 x) : okR (.int x) := (Gv.int h).ok
theorem bmin_B {f : List Int} (hb : ∀ x ∈ f, Bd 60 x) {ls cs : List Int} (hl : ls.length = cs.length) (h3 : ls.length ≤ 3) : Bd 400 (bmin f ls cs) := dM_B (bmt_sqr rfl hl.symm hb) h3
theorem gvT {l : List Int} (b : ∀ x ∈ l, Bd 1000 x) (h : l.length ≤ 30) : Gv 70000 2 (.tuple (l.map .int)) :=
  (Gv.tup (k := 2000) (j := 1) (n := 30) (fun d hd => by obtain ⟨x, hx, rfl⟩ := List.mem_map.mp hd; exact Gv.int (b x hx)) (by simpa using h)).mono
theorem conv_Bd {f g : List Int} (hf : ∀ x ∈ f, Bd 22 x) (hg : ∀ x ∈ g, Bd 22 x) (h5 : f.length ≤ 16) : ∀ x ∈ conv f g, Bd 60 x := by
  intro x hx
  unfold conv at hx
  obtain ⟨k, _, rfl⟩ := List.mem_map.mp hx
  have key : ∀ n : Nat, Bd (44 + n) (pcv f g k n) := by
    intro n
    induction n with
    | zero => show (0 : Int).natAbs < 2 ^ 44; decide
    | succ n ih =>
      rw [pcv]
      have := (Bd_cfI hf (n : Int)).mul (Bd_cfI hg ((k : Int) - n))
      have h2 := this.mono (k := 44 + n) (by omega)
      unfold Bd at *
      rw [show 44 + (n + 1) = (44 + n) + 1 by omega, Nat.pow_succ]
      omega
  exact (key f.length).mono (by omega)
theorem perm_mem {ms L : List (List Int)} (h : ms.Perm L) {x : List Int} (hx : x ∈ ms) : x ∈ L := h.mem_iff.mp hx
theorem lot_len {n k : Nat} (hn : n ∈ ([2, 3, 4, 7] : List Nat)) (hk : k ∈ ([0, 1, 2, 3] : List Nat)) {s : List Int} (h : s ∈ someL n k) : s.length = k := by
  have := List.mem_filter.mp h
  simpa using this.2
theorem eqIf {P : Prop} [Decidable P] {a b : Bool} (h : P → a = true) (h2 : ¬ P → a = false) : a = decide P := by
  by_cases p : P
  · rw [decide_eq_true p, h p]
  · rw [decide_eq_false p, h2 p]
theorem two_nn {f : List Int} (tp : TP f) (h : f.length ≤ 5) : ∀ m ∈ twoF f, 0 ≤ m := by
  intro m hm
  unfold twoF at hm
  obtain ⟨k, hk, rfl⟩ := List.mem_map.mp hm
  have hk2 := List.mem_range.mp hk
  have in1 : ∀ k ∈ ([0, 1, 2, 3, 4] : List Nat), [(k : Int), (k : Int) + 1] ∈ someL 7 2 := by decide +kernel
  have := tp 2 (by decide) _ (in1 k (by simp; omega)) [0, 1] (by decide +kernel)
  have e : bmin f [(k : Int), (k : Int) + 1] [0, 1] = cfI f k * cfI f k - cfI f ((k : Int) - 1) * cfI f ((k : Int) + 1) := by
    show det2 (cfI f ((k : Int) - 0)) (cfI f ((k : Int) - 1)) (cfI f ((k : Int) + 1 - 0)) (cfI f ((k : Int) + 1 - 1)) = _
    rw [Int.sub_zero, Int.sub_zero, show (k : Int) + 1 - 1 = k by omega]
    rfl
  rw [e] at this
  exact this
def Lap (ρ : List Sl) : Prop := ∃ s2 s3 s4 s5 s6 s7 s8 s9 s10 s11 s12 s13 s14 s15 s16 s17 s18 s19 s20 s21 s22, ρ = [Sl.no, Sl.src, s2, s3, s4, s5, s6, s7, s8, s9, s10, s11, s12, s13, s14, s15, s16, s17, s18, s19, s20, s21, s22]
theorem hm_law : w_law m_band_minor m_least_minor m_two_lines m__law_minor m__law_some m__law_pick m__law_product m__law_of m_band_member m__law_any m__law_lined { nx := fun _ => False, rt := fun d => d = .bool true } (Sl.no :: Sl.src :: List.replicate (N_law.length - 2) .no) := by
  unfold w_law
  refine sq_k fun N hN => ?_
  simp -implicitDefEqProofs [List.replicate]
  refine ⟨⟨by decide, by decide⟩, loop_rg (fun _ => Lap) ⟨_, _, _, _, _, _, _, _, _, _, _, _, _, _, _, _, _, _, _, _, _, rfl⟩ (fun ρ h => hN _ ?_) ?_⟩
  · clear hN
    obtain ⟨s2, s3, s4, s5, s6, s7, s8, s9, s10, s11, s12, s13, s14, s15, s16, s17, s18, s19, s20, s21, s22, rfl⟩ := h
    simp -implicitDefEqProofs
    have e1 : [PyData.int 1, PyData.int 1, PyData.int 1] = [1, 1, 1].map .int := rfl
    have e2 : [PyData.int 1, PyData.int 2, PyData.int 1] = [1, 2, 1].map .int := rfl
    have e3 : [PyData.int 1, PyData.int 2] = [1, 2].map .int := rfl
    have e4 : [PyData.int 0, PyData.int 1] = [0, 1].map .int := rfl
    rw [e1, e2, e3, e4]
    have b1 : ∀ x ∈ ([1, 1, 1] : List Int), Bd 60 x := fun x hx => by simp at hx; unfold Bd; omega
    have b2 : ∀ x ∈ ([1, 2, 1] : List Int), Bd 60 x := fun x hx => by simp at hx; unfold Bd; omega
    refine ⟨[1, 1, 1], 4, 3, rfl, by decide, by decide, by decide +kernel, b1, fun m hm => ?_⟩
    have key : (∃ a ∈ someL 4 3, ∃ b ∈ someL 4 3, bmin [1, 1, 1] a b = -1) ∧ ∀ a ∈ someL 4 3, ∀ b ∈ someL 4 3, -1 ≤ bmin [1, 1, 1] a b := by decide +kernel
    have em : m = -1 := by
      obtain ⟨⟨a, ha, b, hb, e⟩, h2⟩ := hm
      obtain ⟨⟨a', ha', b', hb', e'⟩, h2'⟩ := key
      have x1 := h2 a' ha' b' hb'
      have x2 := h2' a ha b hb
      omega
    subst em
    exact ⟨.inr (by decide), by decide, [1, 2, 1], [1, 2], [0, 1], rfl, by decide, by decide, b2, .inr (by decide), by decide⟩
  · rintro lp hlp ρ K ⟨s2, s3, s4, s5, s6, s7, s8, s9, s10, s11, s12, s13, s14, s15, s16, s17, s18, s19, s20, s21, s22, rfl⟩ hK
    clear hN
    simp -implicitDefEqProofs only [x_uN, x_put2]
    generalize Sl.im (PyData.int (0 + (lp : Int))) = s2
    refine sq_k fun N hN => ?_
    simp -implicitDefEqProofs
    refine ⟨4, rfl, by decide, by decide, fun c ps xs hc hps hl => ?_⟩
    simp -implicitDefEqProofs
    refine ⟨3, rfl, by decide, by decide, fun c' ps' xs' hc' hps' hl' => ?_⟩
    simp -implicitDefEqProofs
    refine ⟨4, rfl, by decide, by decide, fun ot ho => hN _ ?_⟩
    clear hN
    have tp : TP (linP c ps) := TP.lin (by omega) hps
    have gf : GOk (linP c ps) := ⟨linP_ne ps, by rw [linP_len]; omega, fun x hx => (linP_Bd hc hps x hx).mono (by omega)⟩
    have gg : GOk (linP c' ps') := ⟨linP_ne ps', by rw [linP_len]; omega, fun x hx => (linP_Bd hc' hps' x hx).mono (by omega)⟩
    have go : GOk ot := ⟨by obtain ⟨x, hx, _⟩ := ho.2.2; exact List.ne_nil_of_mem hx, by have := ho.1; omega, fun x hx => by have := ho.2.1 x hx; unfold Bd; omega⟩
    generalize linP c ps = f at *
    generalize linP c' ps' = g at *
    have f6 : ∀ x ∈ f, Bd 60 x := fun x hx => (gf.b x hx).mono (by decide)
    have g6 : ∀ x ∈ g, Bd 60 x := fun x hx => (gg.b x hx).mono (by decide)
    have ot6 : ∀ x ∈ ot, Bd 60 x := fun x hx => (go.b x hx).mono (by decide)
    -- a member
    refine sq_k fun N hN => ?_
    simp -implicitDefEqProofs
    refine pick_i (by decide) fun i i0 i1 => ?_
    simp -implicitDefEqProofs
    refine pick_i (by decide) fun j j0 j1 => ?_
    simp -implicitDefEqProofs
    refine hN _ ?_
    clear hN
    generalize i - 2 = i at *
    generalize j - 2 = j at *
    refine sq_k fun N hN => ?_
    simp -implicitDefEqProofs
    refine ⟨ot, i, j, rfl, ?_⟩
    have okm : okR (.int (cfI ot (i - j))) := okI ((Bd_cfI ot6 _).mono (by decide))
    refine ⟨okm, ?_⟩
    have hNz : N [Sl.no, Sl.src, s2, Sl.im (PyData.tuple (List.map PyData.int f)), Sl.im (PyData.tuple (List.map PyData.int g)), Sl.im (PyData.tuple (List.map PyData.int ot)), Sl.im (PyData.int i), Sl.im (PyData.int j), s8, s9, s10, s11, s12, s13, s14, s15, s16, s17, s18, s19, s20, s21, s22] := by
      refine hN _ ?_
      clear hN okm
      generalize Sl.im (PyData.int i) = s6
      generalize Sl.im (PyData.int j) = s7
      refine sq_k fun N hN => ?_
      simp -implicitDefEqProofs
      refine pick_i (by decide) fun ki k0 k1 => hN _ ?_
      clear hN
      obtain ⟨k, rfl⟩ := Int.eq_ofNat_of_zero_le k0
      have k3 : k ≤ 3 := by omega
      have km : k ∈ ([0, 1, 2, 3] : List Nat) := by simp; omega
      have m7 : 7 ∈ ([2, 3, 4, 7] : List Nat) := by simp
      refine sq_k fun N hN => ?_
      simp -implicitDefEqProofs
      refine ⟨7, k, rfl, m7, km, fun lots pl => hN _ ?_⟩
      clear hN
      have lne : lots ≠ [] := by
        intro z
        subst z
        have : ∀ k ∈ ([0, 1, 2, 3] : List Nat), someL 7 k ≠ [] := by decide +kernel
        exact this k km pl.nil_eq.symm
      have lsm : lots.length ≤ 100 := by
        have := (someL_small 7 m7 k km).1
        rw [pl.length_eq]; omega
      refine sq_k fun N hN => ?_
      simp -implicitDefEqProofs
      refine ⟨_, rfl, by simpa using lne, by simp; omega, fun d1 h1 => ?_⟩
      refine ⟨_, rfl, by simpa using lne, by simp; omega, fun d2 h2 => ?_⟩
      obtain ⟨ls, hls, rfl⟩ := List.mem_map.mp h1
      obtain ⟨cs, hcs, rfl⟩ := List.mem_map.mp h2
      clear h1 h2
      have hl7 := perm_mem pl hls
      have hc7 := perm_mem pl hcs
      have lls := lot_len m7 km hl7
      have lcs := lot_len m7 km hc7
      refine hN _ ?_
      clear hN
      change wSq _ _ _ [Sl.no, Sl.src, s2, Sl.im (PyData.tuple (List.map PyData.int f)), Sl.im (PyData.tuple (List.map PyData.int g)), Sl.im (PyData.tuple (List.map PyData.int ot)), s6, s7, Sl.im (PyData.int (k : Int)), Sl.im (PyData.list (List.map tupD lots)), Sl.im (PyData.tuple (List.map PyData.int ls)), Sl.im (PyData.tuple (List.map PyData.int cs)), s12, s13, s14, s15, s16, s17, s18, s19, s20, s21, s22]
      refine sq_k fun N hN => ?_
      simp -implicitDefEqProofs
      have el : [PyData.tuple (List.map PyData.int f), PyData.tuple (List.map PyData.int ot)] = [f, ot].map fun l => PyData.tuple (List.map PyData.int l) := rfl
      rw [el]
      refine loop_pre (fun _ ρ => ∃ s12 s13, ρ = [Sl.no, Sl.src, s2, Sl.im (PyData.tuple (List.map PyData.int f)), Sl.im (PyData.tuple (List.map PyData.int g)), Sl.im (PyData.tuple (List.map PyData.int ot)), s6, s7, Sl.im (PyData.int (k : Int)), Sl.im (PyData.list (List.map tupD lots)), Sl.im (PyData.tuple (List.map PyData.int ls)), Sl.im (PyData.tuple (List.map PyData.int cs)), s12, s13, s14, s15, s16, s17, s18, s19, s20, s21, s22]) ⟨_, _, rfl⟩ ?_ ?_
      · rintro _ ⟨s12, s13, rfl⟩
        refine hN _ ?_
        clear hN
        refine sq_k fun N hN => ?_
        simp -implicitDefEqProofs
        refine hN _ ?_
        clear hN
        refine sq_k fun N hN => ?_
        simp -implicitDefEqProofs
        refine loop_pre (fun us ρ => ∃ s15, ρ = [Sl.no, Sl.src, s2, Sl.im (PyData.tuple (List.map PyData.int f)), Sl.im (PyData.tuple (List.map PyData.int g)), Sl.im (PyData.tuple (List.map PyData.int ot)), s6, s7, Sl.im (PyData.int (k : Int)), Sl.im (PyData.list (List.map tupD lots)), Sl.im (PyData.tuple (List.map PyData.int ls)), Sl.im (PyData.tuple (List.map PyData.int cs)), s12, s13, Sl.im (PyData.int (lsum (us.map fun s => bmin f ls s * bmin g s cs))), s15, s16, s17, s18, s19, s20, s21, s22]) ⟨_, rfl⟩ ?_ ?_
        · rintro _ ⟨s15, rfl⟩
          refine hN _ ?_
          clear hN
          have cb : lsum (lots.map fun s => bmin f ls s * bmin g s cs) = bmin (conv f g) ls cs := by
            rw [← cauchy gf.ne gg.ne k3 hl7 hc7]
            exact lsum_perm (pl.map _)
          rw [cb]
          refine sq_k fun N hN => ?_
          simp -implicitDefEqProofs
          have cB := conv_Bd gf.b gg.b (by have := gf.len; omega)
          refine ⟨f, g, rfl, List.length_pos_iff.mpr gf.ne, by have := gf.len; omega, List.length_pos_iff.mpr gg.ne, by have := gg.len; omega, fun x hx => (gf.b x hx).mono (by decide), fun x hx => (gg.b x hx).mono (by decide), ?_⟩
          refine ⟨conv f g, ls, cs, rfl, by omega, by omega, cB, .inl (by simp [PyData.depth]), by simp [PyData.eqv], hN _ ?_⟩
          clear hN cb cB
          clear hl7 hc7 lls lcs hls hcs pl lsm lne km k3 k1 k0
          generalize Sl.im (PyData.int (bmin (conv f g) ls cs)) = s14
          generalize Sl.im (PyData.tuple (List.map PyData.int ls)) = s10
          generalize Sl.im (PyData.tuple (List.map PyData.int cs)) = s11
          generalize Sl.im (PyData.list (List.map tupD lots)) = s9
          generalize Sl.im (PyData.int (k : Int)) = s8
          clear ls cs lots k
          -- the least ones
          refine sq_k fun N hN => ?_
          simp -implicitDefEqProofs
          refine pick_i (by decide) fun ni n0 n1 => ?_
          simp -implicitDefEqProofs
          refine pick_i (by decide) fun ki k0 k1 => ?_
          simp -implicitDefEqProofs
          refine hN _ ?_
          clear hN
          obtain ⟨n, en, hn⟩ : ∃ n : Nat, 2 + ni = (n : Int) ∧ n ∈ ([2, 3, 4] : List Nat) := ⟨(2 + ni).toNat, by omega, by simp; omega⟩
          obtain ⟨k, ek, hk⟩ : ∃ k : Nat, 1 + ki = (k : Int) ∧ k ∈ ([1, 2] : List Nat) := ⟨(1 + ki).toNat, by omega, by simp; omega⟩
          rw [en, ek]
          clear en ek n0 n1 k0 k1
          have hn' : n ∈ ([2, 3, 4, 7] : List Nat) := by simp at hn ⊢; omega
          have hk' : k ∈ ([0, 1, 2, 3] : List Nat) := by simp at hk ⊢; omega
          have hk2 : k ∈ ([1, 2, 3] : List Nat) := by simp at hk ⊢; omega
          have sne := someL_ne n hn' k (by simp at hk ⊢; omega)
          have sin := someL_in n hn k hk2
          have k3 : k ≤ 3 := by simp at hk; omega
          refine sq_k fun N hN => ?_
          simp -implicitDefEqProofs
          rw [el]
          refine loop_pre (fun _ ρ => ∃ s12 s17 s18 s19 s20 s21 s22, ρ = [Sl.no, Sl.src, s2, Sl.im (PyData.tuple (List.map PyData.int f)), Sl.im (PyData.tuple (List.map PyData.int g)), Sl.im (PyData.tuple (List.map PyData.int ot)), s6, s7, Sl.im (PyData.int (k : Int)), s9, s10, s11, s12, s13, s14, s15, Sl.im (PyData.int (n : Int)), s17, s18, s19, s20, s21, s22]) ⟨_, _, _, _, _, _, _, rfl⟩ ?_ ?_
          · rintro _ ⟨s12, s17, s18, s19, s20, s21, s22, rfl⟩
            refine hN _ ?_
            clear hN
            simp -implicitDefEqProofs
            exact hK _ ⟨_, _, _, _, _, _, _, _, _, _, _, _, _, _, _, _, _, _, _, _, _, rfl⟩
          · clear hN
            rintro us sm vs es _ K2 ⟨s12, s17, s18, s19, s20, s21, s22, rfl⟩ hK2
            have sm_in : sm = f ∨ sm = ot := by
              have : sm ∈ [f, ot] := by rw [es]; simp
              simpa using this
            have sm6 : ∀ x ∈ sm, Bd 60 x := by rcases sm_in with rfl | rfl; exact f6; exact ot6
            have gsm : GOk sm := by rcases sm_in with rfl | rfl; exact gf; exact go
            simp -implicitDefEqProofs only [x_uN, x_put12]
            refine sq_k fun N hN => ?_
            simp -implicitDefEqProofs
            refine ⟨n, k, rfl, hn', hk', fun rows pr => hN _ ?_⟩
            clear hN
            have mem : ∀ {x}, x ∈ rows → x ∈ someL n k := fun h => perm_mem pr h
            have rlen : ∀ x ∈ rows, x.length = k := fun x h => lot_len hn' hk' (mem h)
            obtain ⟨r0, rt, er⟩ : ∃ r0 rt, rows = r0 :: rt := by
              cases rows with
              | nil => exact absurd pr.nil_eq.symm sne
              | cons a b => exact ⟨a, b, rfl⟩
            have r0m : r0 ∈ rows := by rw [er]; simp
            have rsm : rows.length ≤ 100 := by
              have := (someL_small n hn' k hk').1
              rw [pr.length_eq]; omega
            have a0 : atI (rows.map tupD) 0 = some (.tuple (r0.map .int)) := by
              rw [er, List.map_cons]
              unfold atI ixN
              rw [if_pos (by decide), if_pos (by simp)]
              rfl
            refine sq_k fun N hN => ?_
            simp -implicitDefEqProofs [a0]
            have l0 := rlen r0 r0m
            refine ⟨sm, r0, r0, rfl, rfl, by omega, sm6, hN _ ?_⟩
            clear hN
            refine sq_k fun N hN => ?_
            simp -implicitDefEqProofs
            refine loop_pre (fun ls ρ => ∃ m s19 s22, (∃ a ∈ rows, ∃ b ∈ rows, m = bmin sm a b) ∧ (∀ b ∈ ls, ∀ a ∈ rows, m ≤ bmin sm a b) ∧ ρ = [Sl.no, Sl.src, s2, Sl.im (PyData.tuple (List.map PyData.int f)), Sl.im (PyData.tuple (List.map PyData.int g)), Sl.im (PyData.tuple (List.map PyData.int ot)), s6, s7, Sl.im (PyData.int (k : Int)), s9, s10, s11, Sl.im (PyData.tuple (List.map PyData.int sm)), s13, s14, s15, Sl.im (PyData.int (n : Int)), Sl.im (PyData.list (List.map tupD rows)), Sl.im (PyData.int m), s19, s20, s21, s22]) ⟨bmin sm r0 r0, _, _, ⟨r0, r0m, r0, r0m, rfl⟩, (fun b h => by cases h), rfl⟩ ?_ ?_
            · rintro _ ⟨m, s19, s22, ⟨a, ha, b, hb, em⟩, hle, rfl⟩
              refine hN _ ?_
              clear hN
              have uniq : ∀ m', leastP sm (someL n k) m' → m' = m := by
                rintro m' ⟨⟨a', ha', b', hb', e'⟩, h2'⟩
                have x1 := h2' a (mem ha) b (mem hb)
                have x2 := hle b' (pr.mem_iff.mpr hb') a' (pr.mem_iff.mpr ha')
                omega
              have mB : Bd 1000 m := by
                rw [em]
                exact (bmin_B sm6 (by rw [rlen a ha, rlen b hb]) (by rw [rlen a ha]; exact k3)).mono (by decide)
              refine sq_k fun N hN => ?_
              simp -implicitDefEqProofs
              refine ⟨sm, n, k, rfl, hn, hk2, sne, sm6, fun m' hm' => ?_⟩
              rw [uniq m' hm']
              have okm := okI mB
              have fin : ∀ N' : List Sl → Prop, (∀ s18, N' [Sl.no, Sl.src, s2, Sl.im (PyData.tuple (List.map PyData.int f)), Sl.im (PyData.tuple (List.map PyData.int g)), Sl.im (PyData.tuple (List.map PyData.int ot)), s6, s7, Sl.im (PyData.int (k : Int)), s9, s10, s11, Sl.im (PyData.tuple (List.map PyData.int sm)), s13, s14, s15, Sl.im (PyData.int (n : Int)), Sl.im (PyData.list (List.map tupD rows)), s18, s19, s20, s21, s22]) → N' [Sl.no, Sl.src, s2, Sl.im (PyData.tuple (List.map PyData.int f)), Sl.im (PyData.tuple (List.map PyData.int g)), Sl.im (PyData.tuple (List.map PyData.int ot)), s6, s7, Sl.im (PyData.int (k : Int)), s9, s10, s11, Sl.im (PyData.tuple (List.map PyData.int sm)), s13, s14, s15, Sl.im (PyData.int (n : Int)), Sl.im (PyData.list (List.map tupD rows)), Sl.im (PyData.int m), s19, s20, s21, s22] := fun N' h => h _
              have go2 : N [Sl.no, Sl.src, s2, Sl.im (PyData.tuple (List.map PyData.int f)), Sl.im (PyData.tuple (List.map PyData.int g)), Sl.im (PyData.tuple (List.map PyData.int ot)), s6, s7, Sl.im (PyData.int (k : Int)), s9, s10, s11, Sl.im (PyData.tuple (List.map PyData.int sm)), s13, s14, s15, Sl.im (PyData.int (n : Int)), Sl.im (PyData.list (List.map tupD rows)), Sl.im (PyData.int m), s19, s20, s21, s22] := by
                refine hN _ ?_
                clear hN
                generalize Sl.im (PyData.list (List.map tupD rows)) = s17
                generalize Sl.im (PyData.int m) = s18
                refine sq_k fun N hN => ?_
                simp -implicitDefEqProofs
                refine hN _ ?_
                clear hN
                refine sq_k fun N hN => ?_
                simp -implicitDefEqProofs
                refine loop_en (fun j ρ => ∃ s20 s21, ρ = [Sl.no, Sl.src, s2, Sl.im (PyData.tuple (List.map PyData.int f)), Sl.im (PyData.tuple (List.map PyData.int g)), Sl.im (PyData.tuple (List.map PyData.int ot)), s6, s7, Sl.im (PyData.int (k : Int)), s9, s10, s11, Sl.im (PyData.tuple (List.map PyData.int sm)), s13, s14, s15, Sl.im (PyData.int (n : Int)), s17, Sl.ow ((List.range j).map fun (k : Nat) => PyData.int (cfI sm k * cfI sm k - cfI sm ((k : Int) - 1) * cfI sm ((k : Int) + 1))), s19, s20, s21, s22]) ⟨_, _, rfl⟩ ?_ ?_
                · rintro _ ⟨s20, s21, rfl⟩
                  refine hN _ ?_
                  clear hN
                  have e : (List.range sm.length).map (fun (k : Nat) => PyData.int (cfI sm k * cfI sm k - cfI sm ((k : Int) - 1) * cfI sm ((k : Int) + 1))) = (twoF sm).map .int := by
                    unfold twoF
                    rw [List.map_map]; rfl
                  rw [e]
                  have lt : (twoF sm).length = sm.length := by unfold twoF; simp
                  have tB : ∀ x ∈ twoF sm, Bd 200 x := fun x hx => by
                    unfold twoF at hx
                    obtain ⟨j, _, rfl⟩ := List.mem_map.mp hx
                    have b := Bd_cfI sm6
                    exact (((b _).mul (b _)).sub ((b _).mul (b _))).mono (by decide)
                  have okt : okR (.tuple ((twoF sm).map .int)) := (gvT (fun x hx => (tB x hx).mono (by decide)) (by have := gsm.len; omega)).ok
                  simp -implicitDefEqProofs
                  refine ⟨sm, rfl, by have := gsm.len; omega, sm6, okt, okt, by simp [PyData.depth], by simp [PyData.eqv], .inl (tup_dp _), ?_⟩
                  rw [PyData.eqv, eqv_ints]
                  have last : K2 [Sl.no, Sl.src, s2, Sl.im (PyData.tuple (List.map PyData.int f)), Sl.im (PyData.tuple (List.map PyData.int g)), Sl.im (PyData.tuple (List.map PyData.int ot)), s6, s7, Sl.im (PyData.int (k : Int)), s9, s10, s11, Sl.im (PyData.tuple (List.map PyData.int sm)), s13, s14, s15, Sl.im (PyData.int (n : Int)), s17, Sl.ow (List.map PyData.int (twoF sm)), s19, s20, s21, s22] := hK2 _ ⟨_, _, _, _, _, _, _, rfl⟩
                  by_cases h : sm = f
                  · rw [if_pos (by simp [h])]
                    refine ⟨fun z => gsm.ne (List.length_eq_zero_iff.mp (by rw [← lt, z]; rfl)), fun m' hm' _ => ⟨?_, last⟩⟩
                    have := gsm.len
                    rw [h] at hm' this
                    exact two_nn tp this m' hm'
                  · rw [if_neg (by simp [h])]
                    exact last
                · clear hN
                  rintro j x hx _ K4 ⟨s20, s21, rfl⟩ hK4
                  obtain ⟨hj, _⟩ := List.getElem?_eq_some_iff.mp hx
                  have xe := at_cf hx
                  have bx := sm6 x (List.mem_of_getElem? hx)
                  rw [Int.zero_add]
                  simp -implicitDefEqProofs only [x_uT, x_uCons, x_uNil, x_uN, x_put20, x_put21]
                  have jl : j ≤ 100000 := by have := gsm.len; omega
                  have app : List.map (fun (k : Nat) => PyData.int (cfI sm k * cfI sm k - cfI sm ((k : Int) - 1) * cfI sm ((k : Int) + 1))) (List.range j) ++ [PyData.int (x * x - cfI sm ((j : Int) - 1) * cfI sm ((j : Int) + 1))] = List.map (fun (k : Nat) => PyData.int (cfI sm k * cfI sm k - cfI sm ((k : Int) - 1) * cfI sm ((k : Int) + 1))) (List.range (j + 1)) := by
                    rw [List.range_succ, List.map_append, ← xe]; rfl
                  have fin4 := hK4 _ ⟨.im (.int (j : Int)), .im (.int x), rfl⟩
                  rw [← app] at fin4
                  have ba := Bd_cfI sm6 ((j : Int) - 1)
                  have bb := Bd_cfI sm6 ((j : Int) + 1)
                  have a1 : 0 < j → atI (List.map PyData.int sm) ((j : Int) - 1) = some (.int (cfI sm ((j : Int) - 1))) := fun h => atG (by omega) (by omega)
                  have b1 : (j : Int) + 1 < sm.length → atI (List.map PyData.int sm) ((j : Int) + 1) = some (.int (cfI sm ((j : Int) + 1))) := fun h => atG (by omega) h
                  have a2 : ¬ 0 < j → cfI sm ((j : Int) - 1) = 0 := fun h => cfI_neg (by omega)
                  have b2 : ¬ (j : Int) + 1 < sm.length → cfI sm ((j : Int) + 1) = 0 := fun h => cfI_out (by omega)
                  clear app
                  generalize cfI sm ((j : Int) - 1) = u at *
                  generalize cfI sm ((j : Int) + 1) = v at *
                  simp -implicitDefEqProofs
                  refine ⟨bx.ok bx, ?_⟩
                  refine ite_p (fun h1 => ?_) fun h1 => ?_
                  · rw [a1 h1, got_some]
                    refine ite_p (fun h2 => ?_) fun h2 => ?_
                    · rw [b1 h2, got_some]
                      simp -implicitDefEqProofs
                      exact ⟨ba.ok bb, jl, fin4⟩
                    · rw [b2 h2] at fin4 bb
                      simp -implicitDefEqProofs
                      refine ⟨ba.ok bb, jl, ?_⟩
                      simpa using fin4
                  · rw [a2 h1] at fin4 ba
                    refine ite_p (fun h2 => ?_) fun h2 => ?_
                    · rw [b1 h2, got_some]
                      simp -implicitDefEqProofs
                      refine ⟨ba.ok bb, jl, ?_⟩
                      simpa using fin4
                    · rw [b2 h2] at fin4 bb
                      refine ⟨ba.ok bb, jl, ?_⟩
                      simpa using fin4
              clear hN
              refine ⟨okm, okm, .inl (by simp [PyData.depth]), by simp [PyData.eqv], .inl (tup_dp _), ?_⟩
              rw [PyData.eqv, eqv_ints]
              by_cases h : sm = f
              · rw [if_pos (by simp [h])]
                refine ⟨?_, go2⟩
                rw [em, h]
                exact tp k k3 a (sin a (mem ha)) b (sin b (mem hb))
              · rw [if_neg (by simp [h])]
                exact go2
            · clear hN
              rintro ls late vs2 es2 _ K3 ⟨m, s19, s22, hm1, hm2, rfl⟩ hK3
              have hlate : late ∈ rows := by rw [es2]; simp
              have ll := rlen late hlate
              have et : ∀ s : List Int, tupD s = .tuple (s.map .int) := fun _ => rfl
              simp -implicitDefEqProofs only [x_uN, x_put19]
              refine sq_k fun N hN => ?_
              simp -implicitDefEqProofs
              refine comp_map (fun ρ => ∃ s22, ρ = [Sl.no, Sl.src, s2, Sl.im (PyData.tuple (List.map PyData.int f)), Sl.im (PyData.tuple (List.map PyData.int g)), Sl.im (PyData.tuple (List.map PyData.int ot)), s6, s7, Sl.im (PyData.int (k : Int)), s9, s10, s11, Sl.im (PyData.tuple (List.map PyData.int sm)), s13, s14, s15, Sl.im (PyData.int (n : Int)), Sl.im (PyData.list (List.map tupD rows)), Sl.im (PyData.int m), Sl.im (tupD late), s20, s21, s22]) (h := PyData.int) (fun a => bmin sm a late) ⟨_, rfl⟩ (by omega) ?_ ?_
              · rintro _ ⟨s22, rfl⟩
                simp -implicitDefEqProofs
                have ei : ints? (List.map (PyData.int ∘ fun a => bmin sm a late) rows) = some (rows.map fun a => bmin sm a late) := by
                  rw [← List.map_map]; exact ints_map _
                rw [ei]
                refine ⟨by omega, ?_⟩
                show ¬ _ = [] ∧ _
                refine ⟨by simp, fun m' hm' hle' => hN _ ?_⟩
                clear hN
                simp -implicitDefEqProofs
                refine hK3 _ ⟨m', _, _, ?_, ?_, rfl⟩
                · rcases List.mem_cons.mp hm' with z | z
                  · rw [z]; exact hm1
                  · obtain ⟨a, ha, e⟩ := List.mem_map.mp z
                    exact ⟨a, ha, late, hlate, e.symm⟩
                · intro b hb a ha
                  rcases List.mem_append.mp hb with z | z
                  · exact Int.le_trans (hle' m (by simp)) (hm2 b z a ha)
                  · rw [List.mem_singleton.mp z]
                    exact hle' _ (List.mem_cons_of_mem _ (List.mem_map.mpr ⟨a, ha, rfl⟩))
              · rintro a ha _ ⟨s22, rfl⟩ K4 E4 hK4
                have la := rlen a ha
                simp -implicitDefEqProofs [et]
                exact ⟨sm, a, late, rfl, by omega, by omega, sm6, hK4 _ ⟨_, rfl⟩⟩
        · clear hN
          rintro us s vs es _ K2 ⟨s15, rfl⟩ hK2
          have hs : s ∈ lots := by rw [es]; simp
          have lss := lot_len m7 km (perm_mem pl hs)
          have et : tupD s = .tuple (s.map .int) := rfl
          rw [et]
          have b1 := bmin_B f6 (ls := ls) (cs := s) (by omega) (by omega)
          have b2 := bmin_B g6 (ls := s) (cs := cs) (by omega) (by omega)
          simp -implicitDefEqProofs only [x_uN, x_put15]
          refine sq_k fun N hN => ?_
          simp -implicitDefEqProofs
          refine ⟨f, ls, s, rfl, by omega, by omega, f6, ?_⟩
          refine ⟨g, s, cs, rfl, by omega, by omega, g6, ?_⟩
          simp -implicitDefEqProofs
          refine ⟨b1.ok b2, hN _ ?_⟩
          clear hN
          simp -implicitDefEqProofs
          have := hK2 _ ⟨.im (.tuple (s.map .int)), rfl⟩
          have e : lsum ((us ++ [s]).map fun s => bmin f ls s * bmin g s cs) = lsum (us.map fun s => bmin f ls s * bmin g s cs) + bmin f ls s * bmin g s cs := by
            have app : ∀ a b : List Int, lsum (a ++ b) = lsum a + lsum b := by
              intro a b
              induction a with
              | nil => rw [List.nil_append, lsum]; omega
              | cons x xs ih => rw [List.cons_append, lsum, lsum, ih]; omega
            rw [List.map_append, app]
            simp [lsum]
          rw [e] at this
          exact this
      · clear hN
        rintro us sm vs es _ K2 ⟨s12, s13, rfl⟩ hK2
        have sm_in : sm = f ∨ sm = ot := by
          have : sm ∈ [f, ot] := by rw [es]; simp
          simpa using this
        have sm6 : ∀ x ∈ sm, Bd 60 x := by rcases sm_in with rfl | rfl; exact f6; exact ot6
        have bB := bmin_B sm6 (ls := ls) (cs := cs) (by omega) (by omega)
        simp -implicitDefEqProofs only [x_uN, x_put12]
        refine sq_k fun N hN => ?_
        simp -implicitDefEqProofs
        refine ⟨sm, ls, cs, rfl, by omega, by omega, sm6, hN _ ?_⟩
        clear hN
        refine sq_k fun N hN => ?_
        simp -implicitDefEqProofs
        have okb : okR (.int (bmin sm ls cs)) := okI (bB.mono (by omega))
        refine ⟨okb, ⟨sm, ls, cs, rfl, by omega, by omega, sm6, okb, by simp [PyData.depth], by simp [PyData.eqv], ?_⟩⟩
        refine ⟨.inl (tup_dp _), ?_⟩
        rw [PyData.eqv, eqv_ints]
        have fin : N [Sl.no, Sl.src, s2, Sl.im (PyData.tuple (List.map PyData.int f)), Sl.im (PyData.tuple (List.map PyData.int g)), Sl.im (PyData.tuple (List.map PyData.int ot)), s6, s7, Sl.im (PyData.int (k : Int)), Sl.im (PyData.list (List.map tupD lots)), Sl.im (PyData.tuple (List.map PyData.int ls)), Sl.im (PyData.tuple (List.map PyData.int cs)), Sl.im (PyData.tuple (List.map PyData.int sm)), Sl.im (PyData.int (bmin sm ls cs)), s14, s15, s16, s17, s18, s19, s20, s21, s22] := by
          refine hN _ ?_
          simp -implicitDefEqProofs
          exact hK2 _ ⟨_, _, rfl⟩
        by_cases h : sm = f
        · rw [if_pos (by simp [h])]
          refine ⟨?_, fin⟩
          rw [h]
          exact tp k k3 ls hl7 cs hc7
        · rw [if_neg (by simp [h])]
          exact fin
    clear hN
    refine ite_p (fun h => ite_p (fun h2 => ?_) fun h2 => ?_) fun h => ?_
    · rw [atG (by omega) h2]
      exact ⟨okm, by simp [PyData.depth], by simp [PyData.eqv], hNz⟩
    · rw [cfI_out (F := ot) (i := i - j) (by omega)]
      exact ⟨by rw [cfI_out (F := ot) (i := i - j) (by omega)] at okm; exact okm, by simp [PyData.depth], by simp [PyData.eqv], hNz⟩
    · rw [cfI_neg (F := ot) (i := i - j) (by omega)]
      exact ⟨by rw [cfI_neg (F := ot) (i := i - j) (by omega)] at okm; exact okm, by simp [PyData.depth], by simp [PyData.eqv], hNz⟩
end K79

set_option Elab.async false
set_option linter.all false
set_option maxRecDepth 100000
set_option maxHeartbeats 0
namespace K79
open PySem PySem.Spec PyProof.Rows L2 DL
section
variable {P : Program} {w : World} {K : PySem.W.Frag} {mg : Str → Option Value} {base : Heap} {f : Addr} {fd : FuncData}
theorem mk_number_at (F : FunD K "number_at" "number_at" (defArgs s_number_at) (defBody s_number_at) (defScope s_number_at) [] [] f fd) (fx : Fx mg) (gl : mg "number_at" = some (.ref f)) : Def P w K mg base 1 "number_at" ["f", "k"] (spN m_number_at) :=
  ⟨⟨f, fd, gl, F.kp, F.bindsN (fun _ _ _ _ _ _ us hl => match us, hl with | [_, _], _ => rfl), fnN F sc_number_at len_number_at mm_number_at (fun cdv A outer s H G hr ok => bd_number_at fx hr ok ) hm_number_at⟩⟩
theorem mk_whole_determinant (F : FunD K "whole_determinant" "whole_determinant" (defArgs s_whole_determinant) (defBody s_whole_determinant) (defScope s_whole_determinant) [] [] f fd) (fx : Fx mg) (gl : mg "whole_determinant" = some (.ref f)) : Def P w K mg base 1 "whole_determinant" ["rows"] (spN m_whole_determinant) :=
  ⟨⟨f, fd, gl, F.kp, F.bindsN (fun _ _ _ _ _ _ us hl => match us, hl with | [_], _ => rfl), fnN F sc_whole_determinant len_whole_determinant mm_whole_determinant (fun cdv A outer s H G hr ok => bd_whole_determinant fx hr ok ) hm_whole_determinant⟩⟩
theorem mk_band_lots (F : FunD K "band_lots" "band_lots" (defArgs s_band_lots) (defBody s_band_lots) (defScope s_band_lots) [] [] f fd) (fx : Fx mg) (gl : mg "band_lots" = some (.ref f)) : Def P w K mg base 1 "band_lots" ["size", "k"] (spN m_band_lots) :=
  ⟨⟨f, fd, gl, F.kp, F.bindsN (fun _ _ _ _ _ _ us hl => match us, hl with | [_, _], _ => rfl), fnN F sc_band_lots len_band_lots mm_band_lots (fun cdv A outer s H G hr ok => bd_band_lots fx hr ok ) hm_band_lots⟩⟩
theorem mk__law_open_cells (F : FunD K "_law_open_cells" "_law_open_cells" (defArgs s__law_open_cells) (defBody s__law_open_cells) (defScope s__law_open_cells) [] [] f fd) (fx : Fx mg) (gl : mg "_law_open_cells" = some (.ref f)) : Def P w K mg base 1 "_law_open_cells" ["script"] (spSrc K) :=
  ⟨⟨f, fd, gl, F.kp, F.bindsN (fun _ _ _ _ _ _ us hl => match us, hl with | [_], _ => rfl), fnG_of F sc__law_open_cells (fun vs H Q E ⟨a, ns, e, _⟩ => by rw [e]; rfl) fun cdv A outer s H vs Q hr hgd h => ⟨tSrc K, bd__law_open_cells fx hr, src_run h⟩⟩⟩
theorem mk__law_pick (F : FunD K "_law_pick" "_law_pick" (defArgs s__law_pick) (defBody s__law_pick) (defScope s__law_pick) [] [] f fd) (fx : Fx mg) (gl : mg "_law_pick" = some (.ref f)) : Def P w K mg base 1 "_law_pick" ["source", "most"] (spS mPick) :=
  ⟨⟨f, fd, gl, F.kp, F.bindsN (fun _ _ _ _ _ _ us hl => match us, hl with | [_, _], _ => rfl), fnG_of F sc__law_pick (fun vs H Q E ⟨S, ds, p, c, us, e, _, _, _, _, hd, n, e2, _⟩ => by subst e e2; rw [List.length_cons, dqa_len hd]; rfl) fun cdv A outer s H vs Q hr hgd h => ⟨tPick K, bd__law_pick fx hr, pick_run h⟩⟩⟩
theorem mk__law_lowest (F : FunD K "_law_lowest" "_law_lowest" (defArgs s__law_lowest) (defBody s__law_lowest) (defScope s__law_lowest) [] [] f fd) (fx : Fx mg) (gl : mg "_law_lowest" = some (.ref f)) : Def P w K mg base 1 "_law_lowest" ["p", "q"] (spN m__law_lowest) :=
  ⟨⟨f, fd, gl, F.kp, F.bindsN (fun _ _ _ _ _ _ us hl => match us, hl with | [_, _], _ => rfl), fnN F sc__law_lowest len__law_lowest mm__law_lowest (fun cdv A outer s H G hr ok => bd__law_lowest fx hr ok ) hm__law_lowest⟩⟩
theorem mk__law_product (F : FunD K "_law_product" "_law_product" (defArgs s__law_product) (defBody s__law_product) (defScope s__law_product) [] [] f fd) (fx : Fx mg) (gl : mg "_law_product" = some (.ref f)) : Def P w K mg base 1 "_law_product" ["one", "other"] (spN m__law_product) :=
  ⟨⟨f, fd, gl, F.kp, F.bindsN (fun _ _ _ _ _ _ us hl => match us, hl with | [_, _], _ => rfl), fnN F sc__law_product len__law_product mm__law_product (fun cdv A outer s H G hr ok => bd__law_product fx hr ok ) hm__law_product⟩⟩
theorem mk__law_some (F : FunD K "_law_some" "_law_some" (defArgs s__law_some) (defBody s__law_some) (defScope s__law_some) [] [] f fd) (fx : Fx mg) (gl : mg "_law_some" = some (.ref f)) : Def P w K mg base 1 "_law_some" ["n", "k"] (spN m__law_some) :=
  ⟨⟨f, fd, gl, F.kp, F.bindsN (fun _ _ _ _ _ _ us hl => match us, hl with | [_, _], _ => rfl), fnN F sc__law_some len__law_some mm__law_some (fun cdv A outer s H G hr ok => bd__law_some fx hr ok ) hm__law_some⟩⟩
theorem mk_band_member (F : FunD K "band_member" "band_member" (defArgs s_band_member) (defBody s_band_member) (defScope s_band_member) [] [] f fd) (fx : Fx mg) (gl : mg "band_member" = some (.ref f)) (c_number_at : Def P w K mg base 1 "number_at" ["f", "k"] (spN m_number_at)) : Def P w K mg base 2 "band_member" ["f", "i", "j"] (spN m_band_member) :=
  ⟨⟨f, fd, gl, F.kp, F.bindsN (fun _ _ _ _ _ _ us hl => match us, hl with | [_, _, _], _ => rfl), fnN F sc_band_member len_band_member mm_band_member (fun cdv A outer s H G hr ok => bd_band_member fx hr ok mm_number_at c_number_at) hm_band_member⟩⟩
theorem mk_two_lines (F : FunD K "two_lines" "two_lines" (defArgs s_two_lines) (defBody s_two_lines) (defScope s_two_lines) [] [] f fd) (fx : Fx mg) (gl : mg "two_lines" = some (.ref f)) (c_number_at : Def P w K mg base 1 "number_at" ["f", "k"] (spN m_number_at)) : Def P w K mg base 2 "two_lines" ["f"] (spN m_two_lines) :=
  ⟨⟨f, fd, gl, F.kp, F.bindsN (fun _ _ _ _ _ _ us hl => match us, hl with | [_], _ => rfl), fnN F sc_two_lines len_two_lines mm_two_lines (fun cdv A outer s H G hr ok => bd_two_lines fx hr ok mm_number_at c_number_at) hm_two_lines⟩⟩
theorem mk__law_of (F : FunD K "_law_of" "_law_of" (defArgs s__law_of) (defBody s__law_of) (defScope s__law_of) [] [] f fd) (fx : Fx mg) (gl : mg "_law_of" = some (.ref f)) (c__law_pick : Def P w K mg base 1 "_law_pick" ["source", "most"] (spS mPick)) : Def P w K mg base 2 "_law_of" ["source", "some"] (spS m__law_of) :=
  ⟨⟨f, fd, gl, F.kp, F.bindsN (fun _ _ _ _ _ _ us hl => match us, hl with | [_, _], _ => rfl), fnS F sc__law_of len__law_of mm__law_of (fun cdv A outer s H G hr ok => bd__law_of fx hr ok mm__law_pick c__law_pick) hm__law_of⟩⟩
theorem mk__law_lined (F : FunD K "_law_lined" "_law_lined" (defArgs s__law_lined) (defBody s__law_lined) (defScope s__law_lined) [] [] f fd) (fx : Fx mg) (gl : mg "_law_lined" = some (.ref f)) (c__law_lowest : Def P w K mg base 1 "_law_lowest" ["p", "q"] (spN m__law_lowest)) (c__law_product : Def P w K mg base 1 "_law_product" ["one", "other"] (spN m__law_product)) (c__law_pick : Def P w K mg base 1 "_law_pick" ["source", "most"] (spS mPick)) : Def P w K mg base 2 "_law_lined" ["source", "most"] (spS m__law_lined) :=
  ⟨⟨f, fd, gl, F.kp, F.bindsN (fun _ _ _ _ _ _ us hl => match us, hl with | [_, _], _ => rfl), fnS F sc__law_lined len__law_lined mm__law_lined (fun cdv A outer s H G hr ok => bd__law_lined fx hr ok mm__law_lowest c__law_lowest mm__law_product c__law_product mm__law_pick c__law_pick) hm__law_lined⟩⟩
theorem mk_band_minor (F : FunD K "band_minor" "band_minor" (defArgs s_band_minor) (defBody s_band_minor) (defScope s_band_minor) [] [] f fd) (fx : Fx mg) (gl : mg "band_minor" = some (.ref f)) (c_band_member : Def P w K mg base 2 "band_member" ["f", "i", "j"] (spN m_band_member)) (c_whole_determinant : Def P w K mg base 2 "whole_determinant" ["rows"] (spN m_whole_determinant)) : Def P w K mg base 3 "band_minor" ["f", "lines", "columns"] (spN m_band_minor) :=
  ⟨⟨f, fd, gl, F.kp, F.bindsN (fun _ _ _ _ _ _ us hl => match us, hl with | [_, _, _], _ => rfl), fnN F sc_band_minor len_band_minor mm_band_minor (fun cdv A outer s H G hr ok => bd_band_minor fx hr ok mm_band_member c_band_member mm_whole_determinant c_whole_determinant) hm_band_minor⟩⟩
theorem mk__law_any (F : FunD K "_law_any" "_law_any" (defArgs s__law_any) (defBody s__law_any) (defScope s__law_any) [] [] f fd) (fx : Fx mg) (gl : mg "_law_any" = some (.ref f)) (c__law_pick : Def P w K mg base 2 "_law_pick" ["source", "most"] (spS mPick)) (c__law_of : Def P w K mg base 2 "_law_of" ["source", "some"] (spS m__law_of)) : Def P w K mg base 3 "_law_any" ["source", "most"] (spS m__law_any) :=
  ⟨⟨f, fd, gl, F.kp, F.bindsN (fun _ _ _ _ _ _ us hl => match us, hl with | [_, _], _ => rfl), fnS F sc__law_any len__law_any mm__law_any (fun cdv A outer s H G hr ok => bd__law_any fx hr ok mm__law_pick c__law_pick mm__law_of c__law_of) hm__law_any⟩⟩
theorem mk_least_minor (F : FunD K "least_minor" "least_minor" (defArgs s_least_minor) (defBody s_least_minor) (defScope s_least_minor) [] [] f fd) (fx : Fx mg) (gl : mg "least_minor" = some (.ref f)) (c_band_minor : Def P w K mg base 3 "band_minor" ["f", "lines", "columns"] (spN m_band_minor)) (c_band_lots : Def P w K mg base 3 "band_lots" ["size", "k"] (spN m_band_lots)) : Def P w K mg base 4 "least_minor" ["f", "size", "k"] (spN m_least_minor) :=
  ⟨⟨f, fd, gl, F.kp, F.bindsN (fun _ _ _ _ _ _ us hl => match us, hl with | [_, _, _], _ => rfl), fnN F sc_least_minor len_least_minor mm_least_minor (fun cdv A outer s H G hr ok => bd_least_minor fx hr ok mm_band_minor c_band_minor mm_band_lots c_band_lots) hm_least_minor⟩⟩
theorem mkr__law_turns (F : FunD K "_law_turns" "_law_turns" (defArgs s__law_turns) (defBody s__law_turns) (defScope s__law_turns) [] [] f fd) (fx : Fx mg) (gl : mg "_law_turns" = some (.ref f)) : ∀ n : Nat, Def P w K mg base n "_law_turns" ["rows"] (spN (mT n))
  | 0 => ⟨⟨f, fd, gl, F.kp, F.bindsN (fun _ _ _ _ _ _ us hl => match us, hl with | [_], _ => rfl), ⟨fun vs H Q E ⟨S, ds, _, _, h⟩ => by obtain ⟨_, _, _, h, _⟩ := h; omega, fun A outer s H args us vs Q _ _ _ _ _ h => by obtain ⟨S, ds, _, _, h⟩ := h; obtain ⟨_, _, _, h, _⟩ := h; omega⟩⟩⟩
  | n + 1 => ⟨⟨f, fd, gl, F.kp, F.bindsN (fun _ _ _ _ _ _ us hl => match us, hl with | [_], _ => rfl), fnN F sc__law_turns (len_T (n + 1)) (mm_T (n + 1)) (fun cdv A outer s H G hr ok => bd__law_turns fx hr ok (mm_T n) (mkr__law_turns F fx gl n)) (hm_T n)⟩⟩
theorem mk__law_turns (F : FunD K "_law_turns" "_law_turns" (defArgs s__law_turns) (defBody s__law_turns) (defScope s__law_turns) [] [] f fd) (fx : Fx mg) (gl : mg "_law_turns" = some (.ref f)) : Def P w K mg base 4 "_law_turns" ["rows"] (spN m__law_turns) := mkr__law_turns F fx gl 4
theorem mk__law_minor (F : FunD K "_law_minor" "_law_minor" (defArgs s__law_minor) (defBody s__law_minor) (defScope s__law_minor) [] [] f fd) (fx : Fx mg) (gl : mg "_law_minor" = some (.ref f)) (c__law_turns : Def P w K mg base 4 "_law_turns" ["rows"] (spN m__law_turns)) : Def P w K mg base 5 "_law_minor" ["f", "lines", "columns"] (spN m__law_minor) :=
  ⟨⟨f, fd, gl, F.kp, F.bindsN (fun _ _ _ _ _ _ us hl => match us, hl with | [_, _, _], _ => rfl), fnN F sc__law_minor len__law_minor mm__law_minor (fun cdv A outer s H G hr ok => bd__law_minor fx hr ok mm__law_turns c__law_turns) hm__law_minor⟩⟩
theorem ok_law (F : FunD K "law" "law" (defArgs s_law) (defBody s_law) (defScope s_law) [] [] f fd) (fx : Fx mg) (src : Def P w K mg base 5 "_law_open_cells" ["script"] (spSrc K)) (c_band_minor : Def P w K mg base 5 "band_minor" ["f", "lines", "columns"] (spN m_band_minor)) (c_least_minor : Def P w K mg base 5 "least_minor" ["f", "size", "k"] (spN m_least_minor)) (c_two_lines : Def P w K mg base 5 "two_lines" ["f"] (spN m_two_lines)) (c__law_minor : Def P w K mg base 5 "_law_minor" ["f", "lines", "columns"] (spN m__law_minor)) (c__law_some : Def P w K mg base 5 "_law_some" ["n", "k"] (spN m__law_some)) (c__law_pick : Def P w K mg base 5 "_law_pick" ["source", "most"] (spS mPick)) (c__law_product : Def P w K mg base 5 "_law_product" ["one", "other"] (spN m__law_product)) (c__law_of : Def P w K mg base 5 "_law_of" ["source", "some"] (spS m__law_of)) (c_band_member : Def P w K mg base 5 "band_member" ["f", "i", "j"] (spN m_band_member)) (c__law_any : Def P w K mg base 5 "_law_any" ["source", "most"] (spS m__law_any)) (c__law_lined : Def P w K mg base 5 "_law_lined" ["source", "most"] (spS m__law_lined)) : FnG P w K mg base 6 f fd ["script"] (spLaw K) :=
  fnLaw (first := (defBody s_law).head (by decide +kernel)) (rest := (defBody s_law).tail) F sc_law rfl rfl (by first | exact Or.inl rfl | exact Or.inr (Or.inl rfl)) (by first | exact Or.inl rfl | exact Or.inr rfl) rfl (by rfl) (fun _ => by rfl) src (fun cdv A outer s H G hr ok => bd_law fx hr ok mm_band_minor c_band_minor mm_least_minor c_least_minor mm_two_lines c_two_lines mm__law_minor c__law_minor mm__law_some c__law_some mm__law_pick c__law_pick mm__law_product c__law_product mm__law_of c__law_of mm_band_member c_band_member mm__law_any c__law_any mm__law_lined c__law_lined) hm_law
end
/-! ### the head: the top run, what it leaves -/
def dd_number_at : He.DefD := ⟨("number_at", none), "number_at", "number_at", defArgs s_number_at, defBody s_number_at, defScope s_number_at, [], []⟩
def dd_whole_determinant : He.DefD := ⟨("whole_determinant", none), "whole_determinant", "whole_determinant", defArgs s_whole_determinant, defBody s_whole_determinant, defScope s_whole_determinant, [], []⟩
def dd_band_member : He.DefD := ⟨("band_member", none), "band_member", "band_member", defArgs s_band_member, defBody s_band_member, defScope s_band_member, [], []⟩
def dd_band_minor : He.DefD := ⟨("band_minor", none), "band_minor", "band_minor", defArgs s_band_minor, defBody s_band_minor, defScope s_band_minor, [], []⟩
def dd_band_lots : He.DefD := ⟨("band_lots", none), "band_lots", "band_lots", defArgs s_band_lots, defBody s_band_lots, defScope s_band_lots, [], []⟩
def dd_least_minor : He.DefD := ⟨("least_minor", none), "least_minor", "least_minor", defArgs s_least_minor, defBody s_least_minor, defScope s_least_minor, [], []⟩
def dd_two_lines : He.DefD := ⟨("two_lines", none), "two_lines", "two_lines", defArgs s_two_lines, defBody s_two_lines, defScope s_two_lines, [], []⟩
def dd__law_open_cells : He.DefD := ⟨("_law_open_cells", none), "_law_open_cells", "_law_open_cells", defArgs s__law_open_cells, defBody s__law_open_cells, defScope s__law_open_cells, [], []⟩
def dd__law_pick : He.DefD := ⟨("_law_pick", none), "_law_pick", "_law_pick", defArgs s__law_pick, defBody s__law_pick, defScope s__law_pick, [], []⟩
def dd__law_of : He.DefD := ⟨("_law_of", none), "_law_of", "_law_of", defArgs s__law_of, defBody s__law_of, defScope s__law_of, [], []⟩
def dd__law_lowest : He.DefD := ⟨("_law_lowest", none), "_law_lowest", "_law_lowest", defArgs s__law_lowest, defBody s__law_lowest, defScope s__law_lowest, [], []⟩
def dd__law_product : He.DefD := ⟨("_law_product", none), "_law_product", "_law_product", defArgs s__law_product, defBody s__law_product, defScope s__law_product, [], []⟩
def dd__law_lined : He.DefD := ⟨("_law_lined", none), "_law_lined", "_law_lined", defArgs s__law_lined, defBody s__law_lined, defScope s__law_lined, [], []⟩
def dd__law_any : He.DefD := ⟨("_law_any", none), "_law_any", "_law_any", defArgs s__law_any, defBody s__law_any, defScope s__law_any, [], []⟩
def dd__law_turns : He.DefD := ⟨("_law_turns", none), "_law_turns", "_law_turns", defArgs s__law_turns, defBody s__law_turns, defScope s__law_turns, [], []⟩
def dd__law_some : He.DefD := ⟨("_law_some", none), "_law_some", "_law_some", defArgs s__law_some, defBody s__law_some, defScope s__law_some, [], []⟩
def dd__law_minor : He.DefD := ⟨("_law_minor", none), "_law_minor", "_law_minor", defArgs s__law_minor, defBody s__law_minor, defScope s__law_minor, [], []⟩
def dd_law : He.DefD := ⟨("law", none), "law", "law", defArgs s_law, defBody s_law, defScope s_law, [], []⟩
def fnL : List He.DefD := [dd_number_at, dd_whole_determinant, dd_band_member, dd_band_minor, dd_band_lots, dd_least_minor, dd_two_lines, dd__law_open_cells, dd__law_pick, dd__law_of, dd__law_lowest, dd__law_product, dd__law_lined, dd__law_any, dd__law_turns, dd__law_some, dd__law_minor, dd_law]
def faL : List He.Fa := [.glo "number_at", .glo "whole_determinant", .glo "band_member", .glo "band_minor", .glo "band_lots", .glo "least_minor", .glo "two_lines", .glo "_law_open_cells", .glo "_law_pick", .glo "_law_of", .glo "_law_lowest", .glo "_law_product", .glo "_law_lined", .glo "_law_any", .glo "_law_turns", .glo "_law_some", .glo "_law_minor", .glo "law", .free "len", .free "range", .free "zip", .free "list", .free "min", .free "tuple", .free "enumerate", .free "int", .free "max", .free "sorted", .free "repr", .free "abs"]
def exB (K : PySem.W.Frag) : Bool := true
abbrev RR : PySem.W.OpenRow := PySem.W.OpenLaw.row PySem.Challenge.rw_rootsonaline_k79_whole_minors_from_nough
abbrev hkk : PySem.W.Hook := He.hookX 4 faL fnL [] [] exB
def ob (s : PySem.W.SharedT) : He.AlX := He.obsX 4 faL fnL [] [] exB (HandSHeadRun.getT s)
theorem ob_eq (s : PySem.W.SharedT) : ob s = hkk.obs s.abs := He.obsX_eq (HandSHeadRun.getT_eq s)
def loose : List Str := "number_at" :: "whole_determinant" :: "band_member" :: "band_minor" :: "band_lots" :: "least_minor" :: "two_lines" :: "_law_open_cells" :: "_law_pick" :: "_law_of" :: "_law_lowest" :: "_law_product" :: "_law_lined" :: "_law_any" :: "_law_turns" :: "_law_some" :: "_law_minor" :: []
theorem run (w : World) : HandSHeadRun.RunEq RR (PySem.W.view RR.prog [21]) hkk ob 9000 loose w := by
  intro os
  kernel_rfl
theorem facts {P : Program} {w : World} {K : PySem.W.Frag} {h : Heap} {mg : Str → Option Value} {f : Addr} (X : K.In h) (G : h.Ns mainGlobals mg) (hfa : mg ("law" : Str) = some (.ref f)) (c0 : He.SaysX faL fnL [] [] exB w h K) :
    ∃ fd : FuncData, (∀ (s : Shared) (v : Value), BindsTo s fd ⟨[v], []⟩ [("script", v)]) ∧ ∀ base : Heap, K.In base → base.Ns mainGlobals mg → FnG P w K mg base 6 f fd ["script"] (spLaw K) := by
  have c := c0.t.d
  obtain ⟨fd_number_at, F_number_at⟩ := c.def_ 0 (d := dd_number_at) rfl
  obtain ⟨fd_whole_determinant, F_whole_determinant⟩ := c.def_ 1 (d := dd_whole_determinant) rfl
  obtain ⟨fd_band_member, F_band_member⟩ := c.def_ 2 (d := dd_band_member) rfl
  obtain ⟨fd_band_minor, F_band_minor⟩ := c.def_ 3 (d := dd_band_minor) rfl
  obtain ⟨fd_band_lots, F_band_lots⟩ := c.def_ 4 (d := dd_band_lots) rfl
  obtain ⟨fd_least_minor, F_least_minor⟩ := c.def_ 5 (d := dd_least_minor) rfl
  obtain ⟨fd_two_lines, F_two_lines⟩ := c.def_ 6 (d := dd_two_lines) rfl
  obtain ⟨fd__law_open_cells, F__law_open_cells⟩ := c.def_ 7 (d := dd__law_open_cells) rfl
  obtain ⟨fd__law_pick, F__law_pick⟩ := c.def_ 8 (d := dd__law_pick) rfl
  obtain ⟨fd__law_of, F__law_of⟩ := c.def_ 9 (d := dd__law_of) rfl
  obtain ⟨fd__law_lowest, F__law_lowest⟩ := c.def_ 10 (d := dd__law_lowest) rfl
  obtain ⟨fd__law_product, F__law_product⟩ := c.def_ 11 (d := dd__law_product) rfl
  obtain ⟨fd__law_lined, F__law_lined⟩ := c.def_ 12 (d := dd__law_lined) rfl
  obtain ⟨fd__law_any, F__law_any⟩ := c.def_ 13 (d := dd__law_any) rfl
  obtain ⟨fd__law_turns, F__law_turns⟩ := c.def_ 14 (d := dd__law_turns) rfl
  obtain ⟨fd__law_some, F__law_some⟩ := c.def_ 15 (d := dd__law_some) rfl
  obtain ⟨fd__law_minor, F__law_minor⟩ := c.def_ 16 (d := dd__law_minor) rfl
  obtain ⟨fd_law, F_law⟩ := c.def_ 17 (d := dd_law) rfl
  have fx : Fx mg := ⟨He.free_ok X G (c.fact 18 (f := .free "len") rfl), He.free_ok X G (c.fact 19 (f := .free "range") rfl), He.free_ok X G (c.fact 20 (f := .free "zip") rfl), He.free_ok X G (c.fact 21 (f := .free "list") rfl), He.free_ok X G (c.fact 22 (f := .free "min") rfl), He.free_ok X G (c.fact 23 (f := .free "tuple") rfl), He.free_ok X G (c.fact 24 (f := .free "enumerate") rfl), He.free_ok X G (c.fact 25 (f := .free "int") rfl), He.free_ok X G (c.fact 26 (f := .free "max") rfl), He.free_ok X G (c.fact 27 (f := .free "sorted") rfl), He.free_ok X G (c.fact 28 (f := .free "repr") rfl), He.free_ok X G (c.fact 29 (f := .free "abs") rfl)⟩
  have e := hfa.symm.trans (He.glo_ok X G (c.fact 17 (f := .glo "law") rfl))
  cases e
  have b := FunD.bindsA (ps := ["script"]) F_law fun _ _ _ _ _ _ us hl => match us, hl with | [_], _ => rfl
  refine ⟨fd_law, fun s v => b s [v] rfl, fun base _ _ => ?_⟩
  have c_number_at : Def P w K mg base 1 "number_at" ["f", "k"] (spN m_number_at) := mk_number_at F_number_at fx (He.glo_ok X G (c.fact 0 (f := .glo "number_at") rfl)) 
  have c_whole_determinant : Def P w K mg base 1 "whole_determinant" ["rows"] (spN m_whole_determinant) := mk_whole_determinant F_whole_determinant fx (He.glo_ok X G (c.fact 1 (f := .glo "whole_determinant") rfl)) 
  have c_band_lots : Def P w K mg base 1 "band_lots" ["size", "k"] (spN m_band_lots) := mk_band_lots F_band_lots fx (He.glo_ok X G (c.fact 4 (f := .glo "band_lots") rfl)) 
  have c__law_open_cells : Def P w K mg base 1 "_law_open_cells" ["script"] (spSrc K) := mk__law_open_cells F__law_open_cells fx (He.glo_ok X G (c.fact 7 (f := .glo "_law_open_cells") rfl)) 
  have c__law_pick : Def P w K mg base 1 "_law_pick" ["source", "most"] (spS mPick) := mk__law_pick F__law_pick fx (He.glo_ok X G (c.fact 8 (f := .glo "_law_pick") rfl)) 
  have c__law_lowest : Def P w K mg base 1 "_law_lowest" ["p", "q"] (spN m__law_lowest) := mk__law_lowest F__law_lowest fx (He.glo_ok X G (c.fact 10 (f := .glo "_law_lowest") rfl)) 
  have c__law_product : Def P w K mg base 1 "_law_product" ["one", "other"] (spN m__law_product) := mk__law_product F__law_product fx (He.glo_ok X G (c.fact 11 (f := .glo "_law_product") rfl)) 
  have c__law_some : Def P w K mg base 1 "_law_some" ["n", "k"] (spN m__law_some) := mk__law_some F__law_some fx (He.glo_ok X G (c.fact 15 (f := .glo "_law_some") rfl)) 
  have c_band_member : Def P w K mg base 2 "band_member" ["f", "i", "j"] (spN m_band_member) := mk_band_member F_band_member fx (He.glo_ok X G (c.fact 2 (f := .glo "band_member") rfl)) c_number_at
  have c_two_lines : Def P w K mg base 2 "two_lines" ["f"] (spN m_two_lines) := mk_two_lines F_two_lines fx (He.glo_ok X G (c.fact 6 (f := .glo "two_lines") rfl)) c_number_at
  have c__law_of : Def P w K mg base 2 "_law_of" ["source", "some"] (spS m__law_of) := mk__law_of F__law_of fx (He.glo_ok X G (c.fact 9 (f := .glo "_law_of") rfl)) c__law_pick
  have c__law_lined : Def P w K mg base 2 "_law_lined" ["source", "most"] (spS m__law_lined) := mk__law_lined F__law_lined fx (He.glo_ok X G (c.fact 12 (f := .glo "_law_lined") rfl)) c__law_lowest c__law_product c__law_pick
  have c_band_minor : Def P w K mg base 3 "band_minor" ["f", "lines", "columns"] (spN m_band_minor) := mk_band_minor F_band_minor fx (He.glo_ok X G (c.fact 3 (f := .glo "band_minor") rfl)) c_band_member (c_whole_determinant.mono (by decide))
  have c__law_any : Def P w K mg base 3 "_law_any" ["source", "most"] (spS m__law_any) := mk__law_any F__law_any fx (He.glo_ok X G (c.fact 13 (f := .glo "_law_any") rfl)) (c__law_pick.mono (by decide)) c__law_of
  have c_least_minor : Def P w K mg base 4 "least_minor" ["f", "size", "k"] (spN m_least_minor) := mk_least_minor F_least_minor fx (He.glo_ok X G (c.fact 5 (f := .glo "least_minor") rfl)) c_band_minor (c_band_lots.mono (by decide))
  have c__law_turns : Def P w K mg base 4 "_law_turns" ["rows"] (spN m__law_turns) := mk__law_turns F__law_turns fx (He.glo_ok X G (c.fact 14 (f := .glo "_law_turns") rfl)) 
  have c__law_minor : Def P w K mg base 5 "_law_minor" ["f", "lines", "columns"] (spN m__law_minor) := mk__law_minor F__law_minor fx (He.glo_ok X G (c.fact 16 (f := .glo "_law_minor") rfl)) c__law_turns
  exact ok_law F_law fx (c__law_open_cells.mono (by decide)) (c_band_minor.mono (by decide)) (c_least_minor.mono (by decide)) (c_two_lines.mono (by decide)) c__law_minor (c__law_some.mono (by decide)) (c__law_pick.mono (by decide)) (c__law_product.mono (by decide)) (c__law_of.mono (by decide)) (c_band_member.mono (by decide)) (c__law_any.mono (by decide)) (c__law_lined.mono (by decide))
end K79
open PySem PySem.W PySem.Calls PyProof.Rows
theorem PySem.Challenge.cw_rootsonaline_k79_whole_minors_from_nough_holds : PySem.Challenge.rw_rootsonaline_k79_whole_minors_from_nough.Holds := by
  w_on; o_law
  refine HandSHeadRun.head_any (r := OpenLaw.row PySem.Challenge.rw_rootsonaline_k79_whole_minors_from_nough) (q := view (OpenLaw.row PySem.Challenge.rw_rootsonaline_k79_whole_minors_from_nough).prog [21]) (H := K79.hkk) (ob := K79.ob) (M := 9000) (loose := K79.loose) (d := HandSHeadRun.topDef (OpenLaw.row PySem.Challenge.rw_rootsonaline_k79_whole_minors_from_nough).prog 21) (kwd := []) K79.ob_eq
    (by kernel_rfl) (fun s => by kernel_rfl) K79.run (by kernel_rfl) (by kernel_rfl) (by kernel_rfl) (by rfl) (by first | assumption | decide +kernel) (by decide +kernel) ⟨rfl, rfl, rfl, rfl, rfl, by decide +kernel⟩ ?hw ?hc
  case hw => w_witness2
  case hc =>
    refine DL.walkG (l := PySem.Challenge.rw_rootsonaline_k79_whole_minors_from_nough) (k := 6) (x := "script") rfl (by kernel_rfl) ⟨rfl, by decide, by decide⟩ ?F
    intro w mg fa h Y G hmg0
    obtain ⟨K, KX, c⟩ := Y
    have hmg : mg ("law" : PySem.Str) = some (.ref fa) := by
      have e : (HandSHeadRun.topDef (OpenLaw.row PySem.Challenge.rw_rootsonaline_k79_whole_minors_from_nough).prog 21).name = ("law" : PySem.Str) := by kernel_rfl
      rw [← e]
      exact hmg0
    obtain ⟨fd, hb, hF⟩ := K79.facts (P := (PySem.Challenge.rw_rootsonaline_k79_whole_minors_from_nough).prog) (w := w) KX G hmg c
    exact ⟨K, fd, KX, hb, hF⟩

