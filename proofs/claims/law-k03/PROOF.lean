import PyProof.Rows.All
import Wide.All
import OpenK.AllK
import Wide.FinOn
import HandS.ForMost
import HandS.Flow
import HandS.Style
import HandS.IsInst
import HandS.TupAny
import HandS.TupMul
import HandS.Conv
import HandS.Zip
import HandS.Words
import KE.GoesMore
import HandS.NamedTupSort
import HandS.SortRule
import KE.KExcInit
import HandS.ExcIs
import HandS.ExcField
import HandS.TryMany
import HandS.WordsExc
import PySem.Challenge.RW_eightlots_k03_whole_lots_on_the_board
set_option Elab.async false
set_option linter.all false
set_option maxRecDepth 100000
set_option maxHeartbeats 4000000
namespace K3
open PySem PySem.Spec PyProof.Rows L2

/-! ### trees: what a value tells, without the heap -/
inductive T where
  | non | bl (b : Bool) | int (i : Int) | str (s : Str) | ty (n : String) | ptr (a : Addr) | lst (l : List T) | tup (l : List T)

mutual
/-- v reads as t, off objects outside Z -/
def Rd (Z : Addr → Prop) (H : Hp) : T → V → Prop
  | .non, v => v = .non
  | .bl b, v => v = .bl b
  | .int i, v => v = .int i
  | .str s, v => v = .str s
  | .ty n, v => v = .ty n
  | .ptr a, v => v = .ref a
  | .lst ts, v => ∃ a vs, v = .ref a ∧ ¬ Z a ∧ H a = some (.lst vs) ∧ Rds Z H ts vs
  | .tup ts, v => ∃ a vs, v = .ref a ∧ ¬ Z a ∧ H a = some (.tup vs) ∧ Rds Z H ts vs
def Rds (Z : Addr → Prop) (H : Hp) : List T → List V → Prop
  | [], vs => vs = []
  | t :: ts, vs => ∃ v r, vs = v :: r ∧ Rd Z H t v ∧ Rds Z H ts r
end

/-- what is kept from one place (the set of changing objects, the heap) to a later one -/
structure Fk (Z : Addr → Prop) (H : Hp) (Z' : Addr → Prop) (H' : Hp) : Prop where
  kept : ∀ b o, ¬ Z b → H b = some o → H' b = some o ∧ ¬ Z' b
section
variable {Z Z' Z2 : Addr → Prop} {H H' H2 : Hp}
theorem Fk.refl : Fk Z H Z H := ⟨fun _ _ z h => ⟨h, z⟩⟩
theorem Fk.trans (a : Fk Z H Z' H') (b : Fk Z' H' Z2 H2) : Fk Z H Z2 H2 :=
  ⟨fun c o z h => let ⟨h1, z1⟩ := a.kept c o z h; b.kept c o z1 h1⟩
theorem Fk.same (s : Same H H') : Fk Z H Z H' := ⟨fun b o z h => ⟨s b o h, z⟩⟩
mutual
theorem Rd.mono (f : Fk Z H Z' H') : ∀ (t : T) (v : V), Rd Z H t v → Rd Z' H' t v
  | .non, v, h => by simpa only [Rd] using h
  | .bl b, v, h => by simpa only [Rd] using h
  | .int b, v, h => by simpa only [Rd] using h
  | .str b, v, h => by simpa only [Rd] using h
  | .ty b, v, h => by simpa only [Rd] using h
  | .ptr b, v, h => by simpa only [Rd] using h
  | .lst ts, v, h => by
    simp only [Rd] at h ⊢
    obtain ⟨a, vs, e, z, q, r⟩ := h
    obtain ⟨q', z'⟩ := f.kept _ _ z q
    exact ⟨a, vs, e, z', q', Rds.mono f ts vs r⟩
  | .tup ts, v, h => by
    simp only [Rd] at h ⊢
    obtain ⟨a, vs, e, z, q, r⟩ := h
    obtain ⟨q', z'⟩ := f.kept _ _ z q
    exact ⟨a, vs, e, z', q', Rds.mono f ts vs r⟩
theorem Rds.mono (f : Fk Z H Z' H') : ∀ (ts : List T) (vs : List V), Rds Z H ts vs → Rds Z' H' ts vs
  | [], vs, h => by simpa only [Rds] using h
  | t :: ts, vs, h => by
    simp only [Rds] at h ⊢
    obtain ⟨v, r, e, h1, h2⟩ := h
    exact ⟨v, r, e, Rd.mono f t v h1, Rds.mono f ts r h2⟩
end
theorem Rd.lst_iff {ts : List T} {v : V} : Rd Z H (.lst ts) v ↔ ∃ a vs, v = .ref a ∧ ¬ Z a ∧ H a = some (.lst vs) ∧ Rds Z H ts vs := by simp only [Rd]
theorem Rd.tup_iff {ts : List T} {v : V} : Rd Z H (.tup ts) v ↔ ∃ a vs, v = .ref a ∧ ¬ Z a ∧ H a = some (.tup vs) ∧ Rds Z H ts vs := by simp only [Rd]
theorem Rd.int_iff {i : Int} {v : V} : Rd Z H (.int i) v ↔ v = .int i := by simp only [Rd]
theorem Rd.bl_iff {i : Bool} {v : V} : Rd Z H (.bl i) v ↔ v = .bl i := by simp only [Rd]
theorem Rd.str_iff {i : Str} {v : V} : Rd Z H (.str i) v ↔ v = .str i := by simp only [Rd]
theorem Rd.ptr_iff {i : Addr} {v : V} : Rd Z H (.ptr i) v ↔ v = .ref i := by simp only [Rd]
theorem Rd.ty_iff {i : String} {v : V} : Rd Z H (.ty i) v ↔ v = .ty i := by simp only [Rd]
theorem Rd.non_iff {v : V} : Rd Z H .non v ↔ v = .non := by simp only [Rd]
theorem Rds.nil_iff {vs : List V} : Rds Z H [] vs ↔ vs = [] := by simp only [Rds]
theorem Rds.cons_iff {t : T} {ts : List T} {vs : List V} : Rds Z H (t :: ts) vs ↔ ∃ v r, vs = v :: r ∧ Rd Z H t v ∧ Rds Z H ts r := by simp only [Rds]
theorem Rds.nil : Rds Z H [] [] := Rds.nil_iff.mpr rfl
theorem Rds.cons {t : T} {ts : List T} {v : V} {vs : List V} (h : Rd Z H t v) (r : Rds Z H ts vs) : Rds Z H (t :: ts) (v :: vs) := Rds.cons_iff.mpr ⟨v, vs, rfl, h, r⟩
theorem Rds.length : ∀ {ts : List T} {vs : List V}, Rds Z H ts vs → vs.length = ts.length
  | [], vs, h => by rw [Rds.nil_iff.mp h] <;> rfl
  | t :: ts, vs, h => by
    obtain ⟨v, r, rfl, _, h2⟩ := Rds.cons_iff.mp h
    simp [Rds.length h2]
theorem Rds.get : ∀ {ts : List T} {vs : List V} {i : Nat} {t : T}, Rds Z H ts vs → ts[i]? = some t → ∃ v, vs[i]? = some v ∧ Rd Z H t v
  | [], vs, i, t, h, e => by simp at e
  | t :: ts, vs, 0, u, h, e => by
    obtain ⟨v, r, rfl, h1, h2⟩ := Rds.cons_iff.mp h
    have e' : t = u := by simpa using e
    subst e'
    exact ⟨v, rfl, h1⟩
  | t :: ts, vs, i + 1, u, h, e => by
    obtain ⟨v, r, rfl, h1, h2⟩ := Rds.cons_iff.mp h
    obtain ⟨w, hw, hr⟩ := Rds.get (i := i) (t := u) h2 (by simpa using e)
    exact ⟨w, by simpa using hw, hr⟩
theorem Rds.get' {ts : List T} {vs : List V} {i : Nat} {v : V} (h : Rds Z H ts vs) (e : vs[i]? = some v) : ∃ t, ts[i]? = some t ∧ Rd Z H t v := by
  have hl := h.length
  have hi : i < vs.length := (List.getElem?_eq_some_iff.mp e).1
  obtain ⟨w, hw, r⟩ := h.get (i := i) (t := ts[i]'(by omega)) (List.getElem?_eq_getElem _)
  rw [e] at hw
  cases hw
  exact ⟨_, List.getElem?_eq_getElem _, r⟩
theorem Rds.append : ∀ {ts us : List T} {vs ws : List V}, Rds Z H ts vs → Rds Z H us ws → Rds Z H (ts ++ us) (vs ++ ws)
  | [], us, vs, ws, h, g => by rw [Rds.nil_iff.mp h]; exact g
  | t :: ts, us, vs, ws, h, g => by
    obtain ⟨v, r, rfl, h1, h2⟩ := Rds.cons_iff.mp h
    exact Rds.cons h1 (Rds.append h2 g)
theorem Rds.one {t : T} {v : V} (h : Rd Z H t v) : Rds Z H [t] [v] := Rds.cons h Rds.nil
theorem Rds.take : ∀ {ts : List T} {vs : List V} (n : Nat), Rds Z H ts vs → Rds Z H (ts.take n) (vs.take n)
  | _, _, 0, _ => Rds.nil
  | [], vs, n + 1, h => by rw [Rds.nil_iff.mp h]; exact Rds.nil
  | t :: ts, vs, n + 1, h => by
    obtain ⟨v, r, rfl, h1, h2⟩ := Rds.cons_iff.mp h
    exact Rds.cons h1 (Rds.take n h2)
theorem Rds.drop : ∀ {ts : List T} {vs : List V} (n : Nat), Rds Z H ts vs → Rds Z H (ts.drop n) (vs.drop n)
  | _, _, 0, h => h
  | [], vs, n + 1, h => by rw [Rds.nil_iff.mp h]; exact Rds.nil
  | t :: ts, vs, n + 1, h => by
    obtain ⟨v, r, rfl, h1, h2⟩ := Rds.cons_iff.mp h
    exact Rds.drop n h2
theorem Rds.set : ∀ {ts : List T} {vs : List V} (i : Nat) {t : T} {v : V}, Rds Z H ts vs → Rd Z H t v → Rds Z H (ts.set i t) (vs.set i v)
  | [], vs, i, _, _, h, _ => by rw [Rds.nil_iff.mp h]; exact Rds.nil
  | t :: ts, vs, 0, _, _, h, g => by
    obtain ⟨v, r, rfl, h1, h2⟩ := Rds.cons_iff.mp h
    exact Rds.cons g h2
  | t :: ts, vs, i + 1, _, _, h, g => by
    obtain ⟨v, r, rfl, h1, h2⟩ := Rds.cons_iff.mp h
    exact Rds.cons h1 (Rds.set i h2 g)
theorem Rds.eraseIdx : ∀ {ts : List T} {vs : List V} (i : Nat), Rds Z H ts vs → Rds Z H (ts.eraseIdx i) (vs.eraseIdx i)
  | [], vs, i, h => by rw [Rds.nil_iff.mp h]; exact Rds.nil
  | t :: ts, vs, 0, h => by
    obtain ⟨v, r, rfl, h1, h2⟩ := Rds.cons_iff.mp h
    exact h2
  | t :: ts, vs, i + 1, h => by
    obtain ⟨v, r, rfl, h1, h2⟩ := Rds.cons_iff.mp h
    exact Rds.cons h1 (Rds.eraseIdx i h2)
theorem Rds.rep {t : T} {v : V} (h : Rd Z H t v) : ∀ n, Rds Z H (List.replicate n t) (List.replicate n v)
  | 0 => Rds.nil
  | n + 1 => Rds.cons h (Rds.rep h n)
theorem Rds.repl {ts : List T} {vs : List V} (h : Rds Z H ts vs) : ∀ n, Rds Z H (List.replicate n ts).flatten (List.replicate n vs).flatten
  | 0 => Rds.nil
  | n + 1 => by
    rw [List.replicate_succ, List.replicate_succ, List.flatten_cons, List.flatten_cons]
    exact h.append (Rds.repl h n)
theorem Rds.ints : ∀ {ns : List Int} {vs : List V}, Rds Z H (ns.map T.int) vs → vs = ns.map V.int
  | [], vs, h => Rds.nil_iff.mp h
  | n :: ns, vs, h => by
    obtain ⟨v, r, rfl, h1, h2⟩ := Rds.cons_iff.mp h
    rw [Rd.int_iff.mp h1, Rds.ints h2] <;> rfl
theorem Rds.ofInts : ∀ (ns : List Int), Rds Z H (ns.map T.int) (ns.map V.int)
  | [] => Rds.nil
  | n :: ns => Rds.cons (Rd.int_iff.mpr rfl) (Rds.ofInts ns)
theorem Rds.strs : ∀ {ns : List Str} {vs : List V}, Rds Z H (ns.map T.str) vs → vs = ns.map V.str
  | [], vs, h => Rds.nil_iff.mp h
  | n :: ns, vs, h => by
    obtain ⟨v, r, rfl, h1, h2⟩ := Rds.cons_iff.mp h
    rw [Rd.str_iff.mp h1, Rds.strs h2] <;> rfl
theorem Rds.bls : ∀ {ns : List Bool} {vs : List V}, Rds Z H (ns.map T.bl) vs → vs = ns.map V.bl
  | [], vs, h => Rds.nil_iff.mp h
  | n :: ns, vs, h => by
    obtain ⟨v, r, rfl, h1, h2⟩ := Rds.cons_iff.mp h
    rw [Rd.bl_iff.mp h1, Rds.bls h2] <;> rfl
end

/-! ### the mode: objects that change and what they hold -/
inductive Own where
  /-- a list of one's own -/
  | lst (ts : List T)
  /-- the box of draws, after so many draws -/
  | tin (n : Nat)
structure Mo where
  Z0 : Addr → Prop
  H0 : Hp
  os : List (Addr × Own)
def Mo.Z (M : Mo) (a : Addr) : Prop := M.Z0 a ∨ ∃ o, (a, o) ∈ M.os
/-- what the box holds: x is used up, b a number, c how many draws -/
def TinOk (n : Nat) (x b c : Int) : Prop := 0 ≤ x ∧ 0 ≤ b ∧ b < 2 ^ 62 ∧ 0 ≤ c ∧ c ≤ n
def OwnOk (Z : Addr → Prop) (H : Hp) (a : Addr) : Own → Prop
  | .lst ts => ∃ vs, H a = some (.lst vs) ∧ Rds Z H ts vs
  | .tin n => ∃ x b c, H a = some (.lst [.int x, .int b, .int c]) ∧ TinOk n x b c
structure Mo.Ok (M : Mo) (H : Hp) : Prop where
  base : ∀ a, M.Z0 a → H a = M.H0 a ∧ H a ≠ none
  nd : (M.os.map (·.1)).Nodup
  own : ∀ p ∈ M.os, ¬ M.Z0 p.1 ∧ OwnOk M.Z H p.1 p.2
/-- what is kept from (M, H) to (M', H') -/
structure Fr (M : Mo) (H : Hp) (M' : Mo) (H' : Hp) : Prop where
  z0 : M'.Z0 = M.Z0
  h0 : M'.H0 = M.H0
  fk : Fk M.Z H M'.Z H'
section
variable {M M' M2 : Mo} {H H' H2 : Hp}
theorem Fr.refl : Fr M H M H := ⟨rfl, rfl, Fk.refl⟩
theorem Fr.trans (a : Fr M H M' H') (b : Fr M' H' M2 H2) : Fr M H M2 H2 := ⟨b.z0.trans a.z0, b.h0.trans a.h0, a.fk.trans b.fk⟩
theorem Fr.same (s : Same H H') : Fr M H M H' := ⟨rfl, rfl, Fk.same s⟩
theorem Fr.rd (f : Fr M H M' H') {t : T} {v : V} (h : Rd M.Z H t v) : Rd M'.Z H' t v := Rd.mono f.fk t v h
theorem Fr.rds (f : Fr M H M' H') {t : List T} {v : List V} (h : Rds M.Z H t v) : Rds M'.Z H' t v := Rds.mono f.fk t v h
theorem OwnOk.some {Z : Addr → Prop} {a : Addr} {o : Own} (h : OwnOk Z H a o) : ∃ vs, H a = some (.lst vs) := by
  cases o with
  | lst ts => obtain ⟨vs, e, _⟩ := h; exact ⟨vs, e⟩
  | tin n => obtain ⟨x, b, c, e, _⟩ := h; exact ⟨_, e⟩
theorem Mo.Ok.dom (k : M.Ok H) {a : Addr} (z : M.Z a) : H a ≠ none := by
  rcases z with z | ⟨o, m⟩
  · exact (k.base a z).2
  · obtain ⟨vs, e⟩ := (k.own _ m).2.some
    rw [e]
    exact fun h => nomatch h
theorem Mo.Ok.same (k : M.Ok H) (s : Same H H') : M.Ok H' := by
  refine ⟨fun a z => ?_, k.nd, fun p m => ?_⟩
  · obtain ⟨e, n⟩ := k.base a z
    cases q : H a with
    | none => exact absurd q n
    | some o =>
      rw [s a o q]
      rw [q] at e
      exact ⟨e, fun h => nomatch h⟩
  · obtain ⟨z, o⟩ := k.own p m
    refine ⟨z, ?_⟩
    obtain ⟨a, w⟩ := p
    cases w with
    | lst ts =>
      obtain ⟨vs, e, r⟩ := o
      exact ⟨vs, s _ _ e, Rds.mono (Fk.same s) ts vs r⟩
    | tin n =>
      obtain ⟨x, b, c, e, r⟩ := o
      exact ⟨x, b, c, s _ _ e, r⟩
/-- a new object is outside -/
theorem Mo.Ok.new (k : M.Ok H) {p : Addr} (h : H p = none) : ¬ M.Z p := fun z => k.dom z h
theorem same_upd {p : Addr} {o : HO} (h : H p = none) : Same H (upd H p o) := fun b x e => by
  rw [upd_ne (ne_of_none e h)]
  exact e
/-- a new list, a new tuple -/
theorem Rd.newL {p : Addr} {vs : List V} {ts : List T} (k : M.Ok H) (h : H p = none) (r : Rds M.Z H ts vs) : Rd M.Z (upd H p (.lst vs)) (.lst ts) (.ref p) :=
  Rd.lst_iff.mpr ⟨p, vs, rfl, k.new h, upd_same, Rds.mono (Fk.same (same_upd h)) ts vs r⟩
theorem Rd.newT {p : Addr} {vs : List V} {ts : List T} (k : M.Ok H) (h : H p = none) (r : Rds M.Z H ts vs) : Rd M.Z (upd H p (.tup vs)) (.tup ts) (.ref p) :=
  Rd.tup_iff.mpr ⟨p, vs, rfl, k.new h, upd_same, Rds.mono (Fk.same (same_upd h)) ts vs r⟩
end

/-! ### slots -/
abbrev Sl := List (Option T)
structure Sld (Z : Addr → Prop) (H : Hp) (σ : L2.St) (sl : Sl) : Prop where
  len : σ.length = sl.length
  at_ : ∀ (i : Nat) (t : T), sl[i]? = some (some t) → ∃ v, σ[i]? = some (some v) ∧ Rd Z H t v
section
variable {M M' M2 : Mo} {H H' H2 : Hp} {σ : L2.St} {sl : Sl}
theorem Fr.sld (f : Fr M H M' H') (h : Sld M.Z H σ sl) : Sld M'.Z H' σ sl := ⟨h.len, fun i t e => by
  obtain ⟨v, e1, r⟩ := h.at_ i t e
  exact ⟨v, e1, f.rd r⟩⟩
theorem Sld.set {Z : Addr → Prop} (h : Sld Z H σ sl) {i : Nat} {t : T} {v : V} (r : Rd Z H t v) : Sld Z H (σ.set i (some v)) (sl.set i (some t)) := ⟨by rw [List.length_set, List.length_set, h.len], fun j u e => by
  by_cases hj : i = j
  · subst hj
    have hl : i < sl.length := by
      have := (List.getElem?_eq_some_iff.mp e).1
      simpa using this
    rw [List.getElem?_set_self hl] at e
    cases e
    exact ⟨v, by rw [List.getElem?_set_self (by rw [h.len]; exact hl)], r⟩
  · rw [List.getElem?_set_ne hj] at e
    obtain ⟨w, e1, r1⟩ := h.at_ j u e
    exact ⟨w, by rw [List.getElem?_set_ne hj]; exact e1, r1⟩⟩
theorem Sld.forget {Z : Addr → Prop} (h : Sld Z H σ sl) (i : Nat) : Sld Z H σ (sl.set i none) := ⟨by rw [List.length_set, h.len], fun j u e => by
  by_cases hj : i = j
  · subst hj
    have hl : i < sl.length := by
      have := (List.getElem?_eq_some_iff.mp e).1
      simpa using this
    rw [List.getElem?_set_self hl] at e
    cases e
  · rw [List.getElem?_set_ne hj] at e
    exact h.at_ j u e⟩
theorem Sld.wipe {Z : Addr → Prop} (h : Sld Z H σ sl) : ∀ is : List Nat, (∀ i ∈ is, sl[i]? = some none ∨ sl[i]? = none) → Sld Z H (wipe σ is) sl
  | [], _ => h
  | i :: is, hi => by
    have ih := Sld.wipe h is fun j hj => hi j (List.mem_cons_of_mem _ hj)
    refine ⟨by rw [wipe_length, h.len], fun j u e => ?_⟩
    obtain ⟨w, e1, r1⟩ := ih.at_ j u e
    have hj : i ≠ j := fun z => by
      subst z
      rcases hi i List.mem_cons_self with q | q
      · rw [q] at e; cases e
      · rw [q] at e; cases e
    refine ⟨w, ?_, r1⟩
    show ((L2.wipe σ is).set i none)[j]? = _
    rw [List.getElem?_set_ne hj]
    exact e1
end
end K3

set_option Elab.async false
set_option linter.all false
set_option maxRecDepth 100000
set_option maxHeartbeats 4000000
namespace K3
open PySem PySem.Spec PyProof.Rows L2

/-! ### weakest readings -/
def tW (X : Cx) (e : Expr) : TE := fun σ H Q => ∀ pins s, Inv X pins σ H s → wpAny (model X.prog X.w) X.A (eval e X.env) (EP X pins σ Q) X.xe s
def tWT (X : Cx) (e : Expr) : TT := fun σ H Q => ∀ pins s, Inv X pins σ H s → wpAny (model X.prog X.w) X.A (isTrue e X.env (eval e X.env)) (TP X pins σ Q) X.xe s
def tWW (X : Cx) (e : Expr) : TT := fun σ H Q => ∀ whole pins s, Inv X pins σ H s → wpAny (model X.prog X.w) X.A (isTrue e X.env whole) (TP X pins σ Q) X.xe s
def tWA (X : Cx) (es : List Expr) : TA := fun σ H Q => ∀ pos pins s, Inv X pins σ H s → wpAny (model X.prog X.w) X.A (spliced (backTo pos (starEach es X.env))) (AP X pins σ Q) X.xe s
def tWS (X : Cx) (st : Stmt) : TS := fun D σ H => ∀ pins s, Inv X pins σ H s → wpAny (model X.prog X.w) X.A (exec st X.env) (SP X pins D) X.xe s
def tWB (X : Cx) (sts : List Stmt) : TS := fun D σ H => ∀ pins s, Inv X pins σ H s → wpAny (model X.prog X.w) X.A (execs sts X.env) (SP X pins D) X.xe s
def rW (X : Cx) (f : Value → Value → Sem Value) : R2 := fun x y H Q => ∀ pins s σ v u, Inv X pins σ H s → RelV x v → RelV y u → wpAny (model X.prog X.w) X.A (f v u) (EP X pins σ Q) X.xe s
def uW (X : Cx) (f : Value → Sem Value) : V → Hp → VK → Prop := fun x H Q => ∀ pins s σ v, Inv X pins σ H s → RelV x v → wpAny (model X.prog X.w) X.A (f v) (EP X pins σ Q) X.xe s
def cW (X : Cx) (f : Value) : List V → Hp → VK → Prop := fun xs H Q => ∀ pins s σ us, Inv X pins σ H s → Vals xs us → wpAny (model X.prog X.w) X.A (call f us) (EP X pins σ Q) X.xe s
def mW (X : Cx) (id : String) : V → List V → Hp → VK → Prop := fun x xs H Q => ∀ pins s σ v us, Inv X pins σ H s → RelV x v → Vals xs us → wpAny (model X.prog X.w) X.A (call (.builtin id) (v :: us)) (EP X pins σ Q) X.xe s
def iW (X : Cx) : R2 := fun x y H Q => ∀ (value slice : Expr) pins s σ v u, Inv X pins σ H s → RelV x v → RelV y u → subscripted slice false v u = operate [v, u] (getItem v u) → wpAny (model X.prog X.w) X.A (subscriptTail value slice v u) (EP X pins σ Q) X.xe s
def sW (X : Cx) : V → Option Int → Option Int → Hp → VK → Prop := fun x lo hi H Q => ∀ pins s σ v vl vu sl, Inv X pins σ H s → RelV x v → s.heap.IsSliceOf sl vl vu .none → IsPart vl lo → IsPart vu hi →
    ∃ T id, typeLookup (.type T) "__getitem__" = pure (some (.builtin id)) ∧ s.TypeIs v T ∧ wpAny (model X.prog X.w) X.A (getItem v (.ref sl)) (EP X pins σ Q) X.xe s
section
variable {X : Cx}
theorem pe_tW {e : Expr} : PE X e (tW X e) := ⟨fun pins s _ _ _ I h => h pins s I⟩
theorem pt_tW {e : Expr} : PT X e (tWT X e) := ⟨fun pins s _ _ _ I h => h pins s I⟩
theorem pw_tW {e : Expr} : PW X e (tWW X e) := ⟨fun wh pins s _ _ _ I h => h wh pins s I⟩
theorem pa_tW {es : List Expr} : PA X es (tWA X es) := ⟨fun pos pins s _ _ _ I h => h pos pins s I⟩
theorem ps_tW {st : Stmt} : PS X st (tWS X st) := ⟨fun pins s _ _ _ I h => h pins s I⟩
theorem pss_tW {sts : List Stmt} : PSs X sts (tWB X sts) := ⟨fun pins s _ _ _ I h => h pins s I⟩
theorem op_W {f : Value → Value → Sem Value} : OpR X f (rW X f) := fun pins s σ _ _ _ v u _ I rx ry h => h pins s σ v u I rx ry
theorem un_W {f : Value → Sem Value} : UnR X f (uW X f) := fun pins s σ _ _ v _ I rx h => h pins s σ v I rx
theorem call_W {f : Value} : CallR X f (cW X f) := fun pins s σ _ _ us _ I r h => h pins s σ us I r
theorem mt_W {id : String} : MtR X id (mW X id) := fun pins s σ _ _ _ v us _ I rx r h => h pins s σ v us I rx r
theorem ix_W : IxR X (iW X) := fun value slice pins s σ _ _ _ v u _ I rx ry h hs => h value slice pins s σ v u I rx ry hs
theorem sl_W : SlR X (sW X) := fun pins s σ _ _ v vl vu _ _ sl _ I rx hs pl pu h => h pins s σ v vl vu sl I rx hs pl pu
theorem tW_of {e : Expr} {te : TE} (h : PE X e te) {σ : L2.St} {H : Hp} {Q : VK} (q : te σ H Q) : tW X e σ H Q := fun pins s I => h.run pins s σ H Q I q
theorem tWT_of {e : Expr} {te : TT} (h : PT X e te) {σ : L2.St} {H : Hp} {Q : Bool → Hp → Prop} (q : te σ H Q) : tWT X e σ H Q := fun pins s I => h.run pins s σ H Q I q
theorem tWW_of {e : Expr} {te : TT} (h : PW X e te) {σ : L2.St} {H : Hp} {Q : Bool → Hp → Prop} (q : te σ H Q) : tWW X e σ H Q := fun wh pins s I => h.run wh pins s σ H Q I q
theorem tWA_of {es : List Expr} {te : TA} (h : PA X es te) {σ : L2.St} {H : Hp} {Q : List V → Hp → Prop} (q : te σ H Q) : tWA X es σ H Q := fun pos pins s I => h.run pos pins s σ H Q I q
theorem tWS_of {st : Stmt} {t : TS} (h : PS X st t) {σ : L2.St} {H : Hp} {D : Ends} (q : t D σ H) : tWS X st D σ H := fun pins s I => h.run pins s σ H D I q
theorem tWB_of {st : List Stmt} {t : TS} (h : PSs X st t) {σ : L2.St} {H : Hp} {D : Ends} (q : t D σ H) : tWB X st D σ H := fun pins s I => h.run pins s σ H D I q
theorem rW_of {f : Value → Value → Sem Value} {r : R2} (h : OpR X f r) {x y : V} {H : Hp} {Q : VK} (q : r x y H Q) : rW X f x y H Q := fun pins s σ v u I rx ry => h pins s σ H x y v u Q I rx ry q
theorem uW_of {f : Value → Sem Value} {r : V → Hp → VK → Prop} (h : UnR X f r) {x : V} {H : Hp} {Q : VK} (q : r x H Q) : uW X f x H Q := fun pins s σ v I rx => h pins s σ H x v Q I rx q
theorem cW_of {f : Value} {r : List V → Hp → VK → Prop} (h : CallR X f r) {xs : List V} {H : Hp} {Q : VK} (q : r xs H Q) : cW X f xs H Q := fun pins s σ us I rr => h pins s σ H xs us Q I rr q
theorem mW_of {id : String} {r : V → List V → Hp → VK → Prop} (h : MtR X id r) {x : V} {xs : List V} {H : Hp} {Q : VK} (q : r x xs H Q) : mW X id x xs H Q := fun pins s σ v us I rx rr => h pins s σ H x xs v us Q I rx rr q
theorem iW_of {r : R2} (h : IxR X r) {x y : V} {H : Hp} {Q : VK} (q : r x y H Q) : iW X x y H Q := fun va sl pins s σ v u I rx ry hs => h va sl pins s σ H x y v u Q I rx ry q hs
theorem sW_of {r : V → Option Int → Option Int → Hp → VK → Prop} (h : SlR X r) {x : V} {lo hi : Option Int} {H : Hp} {Q : VK} (q : r x lo hi H Q) : sW X x lo hi H Q := fun pins s σ v vl vu sl I rx hs pl pu => h pins s σ H x v vl vu lo hi sl Q I rx hs pl pu q
end

/-! ### the judgements on trees -/
abbrev KT := Mo → T → Prop
def End (M : Mo) (H : Hp) (k : KT) (Q : VK) : Prop := ∀ v H2 M2 t, Fr M H M2 H2 → M2.Ok H2 → Rd M2.Z H2 t v → k M2 t → Q v H2
def EndB (M : Mo) (H : Hp) (k : Mo → Bool → Prop) (Q : Bool → Hp → Prop) : Prop := ∀ b H2 M2, Fr M H M2 H2 → M2.Ok H2 → k M2 b → Q b H2
def EndA (M : Mo) (H : Hp) (k : Mo → List T → Prop) (Q : List V → Hp → Prop) : Prop := ∀ vs H2 M2 ts, Fr M H M2 H2 → M2.Ok H2 → Rds M2.Z H2 ts vs → k M2 ts → Q vs H2
structure DT where
  nx : Mo → Sl → Prop
  rt : KT
  bk : Mo → Sl → Prop := fun _ _ => False
  ct : Mo → Sl → Prop := fun _ _ => False
  /-- numbers with which an exception may leave, and the wish behind it (its dict's place, the heap before) -/
  xc : Int → Prop := fun _ => False
  XW : Int → Addr → Hp → Prop := fun _ _ _ => True
structure EndS (M : Mo) (H : Hp) (D : DT) (E : Ends) : Prop where
  nx : ∀ σ' H' M' sl', Fr M H M' H' → M'.Ok H' → Sld M'.Z H' σ' sl' → D.nx M' sl' → E.nx σ' H'
  rt : End M H D.rt E.rt
  bk : ∀ σ' H' M' sl', Fr M H M' H' → M'.Ok H' → Sld M'.Z H' σ' sl' → D.bk M' sl' → E.bk σ' H'
  ct : ∀ σ' H' M' sl', Fr M H M' H' → M'.Ok H' → Sld M'.Z H' σ' sl' → D.ct M' sl' → E.ct σ' H'
  xc : ∀ n d M' H', Fr M H M' H' → M'.Ok H' → D.xc n → H' d = none → D.XW n d H'
def Wp (X : Cx) (M : Mo) (e : Expr) (sl : Sl) (k : KT) : Prop := ∀ σ H Q, M.Ok H → Sld M.Z H σ sl → End M H k Q → tW X e σ H Q
def WpT (X : Cx) (M : Mo) (e : Expr) (sl : Sl) (k : Mo → Bool → Prop) : Prop := ∀ σ H Q, M.Ok H → Sld M.Z H σ sl → EndB M H k Q → tWT X e σ H Q
def WpW (X : Cx) (M : Mo) (e : Expr) (sl : Sl) (k : Mo → Bool → Prop) : Prop := ∀ σ H Q, M.Ok H → Sld M.Z H σ sl → EndB M H k Q → tWW X e σ H Q
def WpA (X : Cx) (M : Mo) (es : List Expr) (sl : Sl) (k : Mo → List T → Prop) : Prop := ∀ σ H Q, M.Ok H → Sld M.Z H σ sl → EndA M H k Q → tWA X es σ H Q
def WpS (X : Cx) (M : Mo) (st : Stmt) (sl : Sl) (D : DT) : Prop := ∀ σ H E, M.Ok H → Sld M.Z H σ sl → EndS M H D E → tWS X st E σ H
def WpB (X : Cx) (M : Mo) (sts : List Stmt) (sl : Sl) (D : DT) : Prop := ∀ σ H E, M.Ok H → Sld M.Z H σ sl → EndS M H D E → tWB X sts E σ H
/-- operations on what has been read -/
def Bin (X : Cx) (f : Value → Value → Sem Value) (M : Mo) (ta tb : T) (k : KT) : Prop := ∀ x y H Q, M.Ok H → Rd M.Z H ta x → Rd M.Z H tb y → End M H k Q → rW X f x y H Q
def Una (X : Cx) (f : Value → Sem Value) (M : Mo) (ta : T) (k : KT) : Prop := ∀ x H Q, M.Ok H → Rd M.Z H ta x → End M H k Q → uW X f x H Q
def Cal (X : Cx) (f : Value) (M : Mo) (ts : List T) (k : KT) : Prop := ∀ vs H Q, M.Ok H → Rds M.Z H ts vs → End M H k Q → cW X f vs H Q
def Met (X : Cx) (id : String) (M : Mo) (t : T) (ts : List T) (k : KT) : Prop := ∀ v vs H Q, M.Ok H → Rd M.Z H t v → Rds M.Z H ts vs → End M H k Q → mW X id v vs H Q
def Idx (X : Cx) (M : Mo) (ta tb : T) (k : KT) : Prop := ∀ x y H Q, M.Ok H → Rd M.Z H ta x → Rd M.Z H tb y → End M H k Q → iW X x y H Q
def Sli (X : Cx) (M : Mo) (ta : T) (lo hi : Option Int) (k : KT) : Prop := ∀ x H Q, M.Ok H → Rd M.Z H ta x → End M H k Q → sW X x lo hi H Q
section
variable {M M' : Mo} {H H' : Hp}
theorem End.fr {k : KT} {Q : VK} (f : Fr M H M' H') (e : End M H k Q) : End M' H' k Q := fun v H2 M2 t g => e v H2 M2 t (f.trans g)
theorem EndB.fr {k : Mo → Bool → Prop} {Q : Bool → Hp → Prop} (f : Fr M H M' H') (e : EndB M H k Q) : EndB M' H' k Q := fun v H2 M2 g => e v H2 M2 (f.trans g)
theorem EndA.fr {k : Mo → List T → Prop} {Q : List V → Hp → Prop} (f : Fr M H M' H') (e : EndA M H k Q) : EndA M' H' k Q := fun v H2 M2 ts g => e v H2 M2 ts (f.trans g)
theorem EndS.fr {D : DT} {E : Ends} (f : Fr M H M' H') (e : EndS M H D E) : EndS M' H' D E :=
  ⟨fun a b c d g => e.nx a b c d (f.trans g), e.rt.fr f, fun a b c d g => e.bk a b c d (f.trans g), fun a b c d g => e.ct a b c d (f.trans g), fun a b c d g => e.xc a b c d (f.trans g)⟩
/-- the value is there, nothing has changed -/
theorem End.here {k : KT} {Q : VK} (e : End M H k Q) (o : M.Ok H) {t : T} {v : V} (r : Rd M.Z H t v) (h : k M t) : Q v H := e v H M t Fr.refl o r h
/-- a new object -/
theorem End.upd {k : KT} {Q : VK} (e : End M H k Q) (o : M.Ok H) {p : Addr} (hp : H p = none) {w : HO} {t : T} {v : V} (r : Rd M.Z (L2.upd H p w) t v) (h : k M t) : Q v (L2.upd H p w) := e v _ M t (Fr.same (same_upd hp)) (o.same (same_upd hp)) r h
end

section
variable {X : Cx} {M : Mo} {sl : Sl} {k : KT} {pos : Pos}
theorem wp_of {e : Expr} {te : TE} (h : PE X e te) (q : ∀ σ H Q, M.Ok H → Sld M.Z H σ sl → End M H k Q → te σ H Q) : Wp X M e sl k := fun σ H Q o s e => tW_of h (q σ H Q o s e)
theorem Wp.imp {e : Expr} {k k' : KT} (h : Wp X M e sl k) (i : ∀ M' t, k M' t → k' M' t) : Wp X M e sl k' := fun σ H Q o s q => h σ H Q o s fun v H2 M2 t f o2 r kk => q v H2 M2 t f o2 r (i _ _ kk)
/-! names, constants -/
theorem wp_int {i : Int} {j} (h : k M (.int i)) : Wp X M (.Constant (.int i) j pos) sl k := wp_of pe_int fun σ H Q o s e => e.here o (Rd.int_iff.mpr rfl) h
theorem wp_bl {b : Bool} {j} (h : k M (.bl b)) : Wp X M (.Constant (.bool b) j pos) sl k := wp_of pe_bl fun σ H Q o s e => e.here o (Rd.bl_iff.mpr rfl) h
theorem wp_str {b : Str} {j} (h : k M (.str b)) : Wp X M (.Constant (.str b) j pos) sl k := wp_of pe_str fun σ H Q o s e => e.here o (Rd.str_iff.mpr rfl) h
theorem wp_non {j} (h : k M .non) : Wp X M (.Constant .none j pos) sl k := wp_of pe_non fun σ H Q o s e => e.here o (Rd.non_iff.mpr rfl) h
theorem wp_var (i : Nat) {x : Str} {t : T} (hs : sl[i]? = some (some t)) (hN : X.N[i]? = some x) (hv : Vis X.env.scope x) (h : k M t) (hd : (x == ("__debug__" : Str)) = false := by decide) (hcd : (x == ("__classdict__" : Str)) = false := by decide) : Wp X M (.Name x pos) sl k :=
  wp_of (pe_var hN hv hd hcd) fun σ H Q o s e => by
    obtain ⟨v, e1, r⟩ := s.at_ i t hs
    exact ⟨v, e1, e.here o r h⟩
/-- a number, a text of the module's top -/
theorem wp_globI {x : Str} {n : Int} {u : Tok} (hm : X.mg x = some (.int n u)) (hg : Gl X x) (h : k M (.int n)) (hd : (x == ("__debug__" : Str)) = false := by decide) : Wp X M (.Name x pos) sl k :=
  wp_of (pe_glob (v := .int n) hg hm ⟨_, rfl⟩ hd) fun σ H Q o s e => e.here o (Rd.int_iff.mpr rfl) h
theorem wp_globS {x : Str} {n : Str} {u : Tok} (hm : X.mg x = some (.str n u)) (hg : Gl X x) (h : k M (.str n)) (hd : (x == ("__debug__" : Str)) = false := by decide) : Wp X M (.Name x pos) sl k :=
  wp_of (pe_glob (v := .str n) hg hm ⟨_, rfl⟩ hd) fun σ H Q o s e => e.here o (Rd.str_iff.mpr rfl) h
theorem wp_globR {x : Str} {n : Addr} (hm : X.mg x = some (.ref n)) (hg : Gl X x) (h : k M (.ptr n)) (hd : (x == ("__debug__" : Str)) = false := by decide) : Wp X M (.Name x pos) sl k :=
  wp_of (pe_glob (v := .ref n) hg hm rfl hd) fun σ H Q o s e => e.here o (Rd.ptr_iff.mpr rfl) h
/-- a built-in class as a value -/
theorem wp_ty {x : Str} {n : String} (hm : X.mg x = none) (hv : bootBuiltins x = some (.type n)) (hg : Gl X x) (h : k M (.ty n)) (hn : x ≠ "__name__" := by decide) (hd : (x == ("__debug__" : Str)) = false := by decide) : Wp X M (.Name x pos) sl k :=
  wp_of (pe_bltn (v := .ty n) hg hm hv rfl hn hd) fun σ H Q o s e => e.here o (Rd.ty_iff.mpr rfl) h
/-! operators -/
theorem wp_bin {a b : Expr} {op : Operator} (h : Wp X M a sl fun M1 ta => Wp X M1 b sl fun M2 tb => Bin X (binaryOp op) M2 ta tb k) : Wp X M (.BinOp a op b pos) sl k :=
  wp_of (pe_op op_W pe_tW pe_tW) fun σ H Q o s e => h σ H _ o s fun v1 H1 M1 t1 f1 o1 r1 k1 => k1 σ H1 _ o1 (f1.sld s) fun v2 H2 M2 t2 f2 o2 r2 k2 => k2 v1 v2 H2 Q o2 (f2.rd r1) r2 (e.fr (f1.trans f2))
theorem wp_cmp {a b : Expr} {op : CmpOp} (hm : behindInMarks op b = false) (h : Wp X M a sl fun M1 ta => Wp X M1 b sl fun M2 tb => Bin X (compareOp op) M2 ta tb k) : Wp X M (.Compare a [op] [b] pos) sl k :=
  wp_of (pe_cmpR op_W pe_tW pe_tW hm) fun σ H Q o s e => h σ H _ o s fun v1 H1 M1 t1 f1 o1 r1 k1 => k1 σ H1 _ o1 (f1.sld s) fun v2 H2 M2 t2 f2 o2 r2 k2 => k2 v1 v2 H2 Q o2 (f2.rd r1) r2 (e.fr (f1.trans f2))
theorem wp_una {a : Expr} {op : UnaryOp} (h : Wp X M a sl fun M1 ta => Una X (unaryOp op) M1 ta k) : Wp X M (.UnaryOp op a pos) sl k :=
  wp_of (pe_un un_W pe_tW) fun σ H Q o s e => h σ H _ o s fun v1 H1 M1 t1 f1 o1 r1 k1 => k1 v1 H1 Q o1 r1 (e.fr f1)
theorem bin_of {f : Value → Value → Sem Value} {r : R2} {ta tb : T} (h : OpR X f r) (q : ∀ x y H Q, M.Ok H → Rd M.Z H ta x → Rd M.Z H tb y → End M H k Q → r x y H Q) : Bin X f M ta tb k := fun x y H Q o ra rb e => rW_of h (q x y H Q o ra rb e)
theorem bin_I0 {f : Value → Value → Sem Value} {g : Int → Int → Int} {i j : Int} (h : OpR X f (rI0 fun i j => .int (g i j))) (q : k M (.int (g i j))) : Bin X f M (.int i) (.int j) k :=
  bin_of h fun x y H Q o ra rb e => ⟨i, j, Rd.int_iff.mp ra, Rd.int_iff.mp rb, e.here o (Rd.int_iff.mpr rfl) q⟩
theorem bin_B0 {f : Value → Value → Sem Value} {g : Int → Int → Bool} {i j : Int} (h : OpR X f (rI0 fun i j => .bl (g i j))) (q : k M (.bl (g i j))) : Bin X f M (.int i) (.int j) k :=
  bin_of h fun x y H Q o ra rb e => ⟨i, j, Rd.int_iff.mp ra, Rd.int_iff.mp rb, e.here o (Rd.bl_iff.mpr rfl) q⟩
theorem bin_I {f : Value → Value → Sem Value} {g : Int → Int → Int} {C : Int → Int → Prop} {i j : Int} (h : OpR X f (rI C fun i j => .int (g i j))) (c : C i j) (q : k M (.int (g i j))) : Bin X f M (.int i) (.int j) k :=
  bin_of h fun x y H Q o ra rb e => ⟨i, j, Rd.int_iff.mp ra, Rd.int_iff.mp rb, c, e.here o (Rd.int_iff.mpr rfl) q⟩
theorem bin_add {i j : Int} (q : k M (.int (i + j))) : Bin X (binaryOp .Add) M (.int i) (.int j) k := bin_I0 op_add q
theorem bin_sub {i j : Int} (q : k M (.int (i - j))) : Bin X (binaryOp .Sub) M (.int i) (.int j) k := bin_I0 op_sub q
theorem bin_xor {i j : Int} (q : k M (.int (Builtin.bitXor i j))) : Bin X (binaryOp .BitXor) M (.int i) (.int j) k := bin_I0 op_xor q
theorem bin_and {i j : Int} (q : k M (.int (Builtin.bitAnd i j))) : Bin X (binaryOp .BitAnd) M (.int i) (.int j) k := bin_I0 op_and q
theorem bin_mul {i j : Int} (c : CMul i j) (q : k M (.int (i * j))) : Bin X (binaryOp .Mult) M (.int i) (.int j) k := bin_I op_mul c q
theorem bin_mod {i j : Int} (c : 0 < j) (q : k M (.int (i % j))) : Bin X (binaryOp .Mod) M (.int i) (.int j) k := bin_I op_mod c q
theorem bin_fdiv {i j : Int} (c : CDiv i j) (q : k M (.int (i / j))) : Bin X (binaryOp .FloorDiv) M (.int i) (.int j) k := bin_I op_fdiv c q
theorem bin_lt {i j : Int} (q : k M (.bl (decide (i < j)))) : Bin X (compareOp .Lt) M (.int i) (.int j) k := bin_B0 op_lt q
theorem bin_le {i j : Int} (q : k M (.bl (decide (i ≤ j)))) : Bin X (compareOp .LtE) M (.int i) (.int j) k := bin_B0 op_le q
theorem bin_gt {i j : Int} (q : k M (.bl (decide (j < i)))) : Bin X (compareOp .Gt) M (.int i) (.int j) k := bin_B0 op_gt q
theorem bin_ge {i j : Int} (q : k M (.bl (decide (j ≤ i)))) : Bin X (compareOp .GtE) M (.int i) (.int j) k := bin_B0 op_ge q
theorem una_neg {i : Int} (q : k M (.int (-i))) : Una X (unaryOp .USub) M (.int i) k := fun x H Q o ra e => uW_of un_neg ⟨i, Rd.int_iff.mp ra, e.here o (Rd.int_iff.mpr rfl) q⟩
/-- == and != of plain things -/
def eqS : T → T → Option Bool
  | .int i, .int j => some (decide (i = j))
  | .bl i, .bl j => some (decide (i = j))
  | .str i, .str j => some (decide (i = j))
  | .non, .int _ => some false
  | .int _, .non => some false
  | .non, .bl _ => some false
  | .bl _, .non => some false
  | .non, .str _ => some false
  | .str _, .non => some false
  | .non, .non => some true
  | .int _, .str _ => some false
  | .str _, .int _ => some false
  | .bl _, .str _ => some false
  | .str _, .bl _ => some false
  | _, _ => none
theorem eqS_ok {Z : Addr → Prop} {H : Hp} {ta tb : T} {b : Bool} {x y : V} (h : eqS ta tb = some b) (ra : Rd Z H ta x) (rb : Rd Z H tb y) : scal x y = true ∧ decide (x = y) = b := by
  unfold eqS at h
  split at h <;> first
    | (simp only [Rd] at ra rb
       subst ra rb
       cases h
       exact ⟨rfl, by simp⟩)
    | (cases h; done)
theorem bin_eq {ta tb : T} {b : Bool} (h : eqS ta tb = some b) (q : k M (.bl b)) : Bin X (compareOp .Eq) M ta tb k :=
  bin_of op_eq fun x y H Q o ra rb e => by
    obtain ⟨h1, h2⟩ := eqS_ok h ra rb
    refine ⟨h1, ?_⟩
    rw [h2]
    exact e.here o (Rd.bl_iff.mpr rfl) q
theorem bin_ne {ta tb : T} {b : Bool} (h : eqS ta tb = some b) (q : k M (.bl (!b))) : Bin X (compareOp .NotEq) M ta tb k :=
  bin_of op_ne fun x y H Q o ra rb e => by
    obtain ⟨h1, h2⟩ := eqS_ok h ra rb
    refine ⟨h1, ?_⟩
    rw [h2]
    exact e.here o (Rd.bl_iff.mpr rfl) q
end
end K3

set_option Elab.async false
set_option linter.all false
set_option maxRecDepth 100000
set_option maxHeartbeats 4000000
namespace K3
open PySem PySem.Spec PyProof.Rows L2
theorem le_line {n : Nat} (h : n ≤ 100000) : n ≤ sizeLine := Nat.le_trans h (by decide)
theorem lt_line {n : Nat} (h : n < 100000) : n < sizeLine := Nat.lt_of_lt_of_le h (by decide)
section
variable {X : Cx} {M : Mo} {sl : Sl} {k : KT} {pos : Pos}
/-! arguments, displays -/
theorem wpa_nil {k : Mo → List T → Prop} (h : k M []) : WpA X M [] sl k := fun σ H Q o s e => tWA_of pa_nil (e [] H M [] Fr.refl o Rds.nil h)
theorem wpa_cons {a : Expr} {as : List Expr} {k : Mo → List T → Prop} (hs : starEach (a :: as) X.env = (false, eval a X.env) :: starEach as X.env) (h : Wp X M a sl fun M1 t => WpA X M1 as sl fun M2 ts => k M2 (t :: ts)) : WpA X M (a :: as) sl k :=
  fun σ H Q o s e => tWA_of (pa_cons pe_tW pa_tW hs) (h σ H _ o s fun v1 H1 M1 t1 f1 o1 r1 k1 => k1 σ H1 _ o1 (f1.sld s) fun vs H2 M2 ts f2 o2 r2 k2 => e (v1 :: vs) H2 M2 (t1 :: ts) (f1.trans f2) o2 (Rds.cons (f2.rd r1) r2) k2)
theorem wp_tup {es : List Expr} {x1} (h : WpA X M es sl fun M1 ts => ts.length ≤ 100000 ∧ k M1 (.tup ts)) : Wp X M (.Tuple es x1 pos) sl k :=
  wp_of (pe_tup pa_tW) fun σ H Q o s e => h σ H _ o s fun vs H1 M1 ts f1 o1 r1 k1 => ⟨by rw [r1.length]; exact le_line k1.1, fun p hp => (e.fr f1).upd o1 hp (Rd.newT o1 hp r1) k1.2⟩
theorem wp_lst {es : List Expr} (h : WpA X M es sl fun M1 ts => ts.length ≤ 100000 ∧ k M1 (.lst ts)) : Wp X M (.List es pos) sl k :=
  wp_of (pe_lst pa_tW) fun σ H Q o s e => h σ H _ o s fun vs H1 M1 ts f1 o1 r1 k1 => ⟨by rw [r1.length]; exact le_line k1.1, fun p hp => (e.fr f1).upd o1 hp (Rd.newL o1 hp r1) k1.2⟩
/-! built-ins called by name -/
theorem wp_callB {x : Str} {id : String} {a : Expr} {as : List Expr} {p : Pos} (hm : X.mg x = none) (hv : bootBuiltins x = some (.builtin id)) (hg : Gl X x) (he : starEach (a :: as) X.env = (false, eval a X.env) :: starEach as X.env)
    (hpl : (backTo pos (starEach as X.env)).any (·.1) = false) (h : WpA X M (a :: as) sl fun M1 ts => Cal X (.builtin id) M1 ts k) (hn : x ≠ "__name__" := by decide) (hdb : (x == ("__debug__" : Str)) = false := by decide) : Wp X M (.Call (.Name x p) (a :: as) [] pos) sl k :=
  wp_of (pe_callB call_W hg hm hv pa_tW hn hdb he hpl) fun σ H Q o s e => h σ H _ o s fun vs H1 M1 ts f1 o1 r1 k1 => k1 vs H1 Q o1 r1 (e.fr f1)
theorem wp_callTy {x : Str} {id : String} {a : Expr} {as : List Expr} {p : Pos} (hm : X.mg x = none) (hv : bootBuiltins x = some (.type id)) (hg : Gl X x) (he : starEach (a :: as) X.env = (false, eval a X.env) :: starEach as X.env)
    (hpl : (backTo pos (starEach as X.env)).any (·.1) = false) (h : WpA X M (a :: as) sl fun M1 ts => Cal X (.type id) M1 ts k) (hn : x ≠ "__name__" := by decide) (hdb : (x == ("__debug__" : Str)) = false := by decide) : Wp X M (.Call (.Name x p) (a :: as) [] pos) sl k :=
  wp_of (pe_callTy call_W hg hm hv pa_tW hn hdb he hpl) fun σ H Q o s e => h σ H _ o s fun vs H1 M1 ts f1 o1 r1 k1 => k1 vs H1 Q o1 r1 (e.fr f1)
theorem cal_of {f : Value} {r : List V → Hp → VK → Prop} {ts : List T} (h : CallR X f r) (q : ∀ vs H Q, M.Ok H → Rds M.Z H ts vs → End M H k Q → r vs H Q) : Cal X f M ts k := fun vs H Q o r e => cW_of h (q vs H Q o r e)
theorem Rds.one_iff {Z : Addr → Prop} {H : Hp} {t : T} {vs : List V} (h : Rds Z H [t] vs) : ∃ v, vs = [v] ∧ Rd Z H t v := by
  obtain ⟨v, r, rfl, h1, h2⟩ := Rds.cons_iff.mp h
  rw [Rds.nil_iff.mp h2]
  exact ⟨v, rfl, h1⟩
theorem Rds.two_iff {Z : Addr → Prop} {H : Hp} {t u : T} {vs : List V} (h : Rds Z H [t, u] vs) : ∃ v w, vs = [v, w] ∧ Rd Z H t v ∧ Rd Z H u w := by
  obtain ⟨v, r, rfl, h1, h2⟩ := Rds.cons_iff.mp h
  obtain ⟨w, rfl, h3⟩ := Rds.one_iff h2
  exact ⟨v, w, rfl, h1, h3⟩
/-- a list or a tuple -/
def Sq (b : Bool) (ts : List T) : T := match b with | true => .lst ts | false => .tup ts
theorem Rd.sq {Z : Addr → Prop} {H : Hp} {b : Bool} {ts : List T} {v : V} (h : Rd Z H (Sq b ts) v) : ∃ a vs, v = .ref a ∧ ¬ Z a ∧ (H a = some (.lst vs) ∨ H a = some (.tup vs)) ∧ Rds Z H ts vs := by
  cases b with
  | true =>
    obtain ⟨a, vs, e, z, q, r⟩ := Rd.lst_iff.mp h
    exact ⟨a, vs, e, z, .inl q, r⟩
  | false =>
    obtain ⟨a, vs, e, z, q, r⟩ := Rd.tup_iff.mp h
    exact ⟨a, vs, e, z, .inr q, r⟩
theorem cal_len {b : Bool} {ts : List T} (q : k M (.int (ts.length : Int))) : Cal X (.builtin "len") M [Sq b ts] k :=
  cal_of call_len_seq fun vs H Q o r e => by
    obtain ⟨v, rfl, h⟩ := Rds.one_iff r
    obtain ⟨a, vs, rfl, z, h1, h2⟩ := h.sq
    refine ⟨a, vs, rfl, h1.imp SqL.of SqT.of, ?_⟩
    rw [h2.length]
    exact e.here o (Rd.int_iff.mpr rfl) q
theorem cal_lenL {ts : List T} (q : k M (.int (ts.length : Int))) : Cal X (.builtin "len") M [.lst ts] k := cal_len (b := true) q
theorem cal_lenT {ts : List T} (q : k M (.int (ts.length : Int))) : Cal X (.builtin "len") M [.tup ts] k := cal_len (b := false) q
theorem cal_lenS {z : Str} (hz : z.length ≤ 100000) (q : k M (.int (z.length : Int))) : Cal X (.builtin "len") M [.str z] k :=
  cal_of call_len_str fun vs H Q o r e => by
    obtain ⟨v, rfl, h⟩ := Rds.one_iff r
    exact ⟨z, by rw [Rd.str_iff.mp h], le_line hz, e.here o (Rd.int_iff.mpr rfl) q⟩
/-- tuple(..), list(..) -/
theorem cal_tupL {ts : List T} (q : k M (.tup ts)) : Cal X (.type "tuple") M [.lst ts] k :=
  cal_of call_tuple_of fun vs H Q o r e => by
    obtain ⟨v, rfl, h⟩ := Rds.one_iff r
    obtain ⟨a, vs, rfl, z, h1, h2⟩ := Rd.lst_iff.mp h
    exact ⟨a, vs, rfl, .inl ⟨SqL.of h1, fun p hp => e.upd o hp (Rd.newT o hp h2) q⟩⟩
theorem cal_tupT {ts : List T} (q : k M (.tup ts)) : Cal X (.type "tuple") M [.tup ts] k :=
  cal_of call_tuple_of fun vs H Q o r e => by
    obtain ⟨v, rfl, h⟩ := Rds.one_iff r
    obtain ⟨a, vs, rfl, z, h1, h2⟩ := Rd.tup_iff.mp h
    exact ⟨a, vs, rfl, .inr ⟨SqT.of h1, e.here o h q⟩⟩
theorem cal_tup {b : Bool} {ts : List T} (q : k M (.tup ts)) : Cal X (.type "tuple") M [Sq b ts] k := by
  cases b with
  | true => exact cal_tupL q
  | false => exact cal_tupT q
theorem cal_list {b : Bool} {ts : List T} (q : k M (.lst ts)) : Cal X (.type "list") M [Sq b ts] k :=
  cal_of call_list_of fun vs H Q o r e => by
    obtain ⟨v, rfl, h⟩ := Rds.one_iff r
    obtain ⟨a, vs, rfl, z, h1, h2⟩ := h.sq
    exact ⟨a, vs, rfl, h1.imp SqL.of SqT.of, fun p hp => e.upd o hp (Rd.newL o hp h2) q⟩
theorem cal_listL {ts : List T} (q : k M (.lst ts)) : Cal X (.type "list") M [.lst ts] k := cal_list (b := true) q
theorem cal_listT {ts : List T} (q : k M (.lst ts)) : Cal X (.type "list") M [.tup ts] k := cal_list (b := false) q
theorem cal_abs {i : Int} (q : k M (.int (if i < 0 then -i else i))) : Cal X (.builtin "abs") M [.int i] k :=
  cal_of call_abs fun vs H Q o r e => by
    obtain ⟨v, rfl, h⟩ := Rds.one_iff r
    exact ⟨i, by rw [Rd.int_iff.mp h], e.here o (Rd.int_iff.mpr rfl) q⟩
theorem cal_min {i j : Int} (hc : X.calm = true) (q : k M (.int (if j < i then j else i))) : Cal X (.builtin "min") M [.int i, .int j] k :=
  cal_of (call_min2 hc) fun vs H Q o r e => by
    obtain ⟨v, w, rfl, h, h'⟩ := Rds.two_iff r
    exact ⟨i, j, by rw [Rd.int_iff.mp h, Rd.int_iff.mp h'], e.here o (Rd.int_iff.mpr rfl) q⟩
theorem cal_int {i : Int} (q : k M (.int i)) : Cal X (.type "int") M [.int i] k :=
  cal_of call_int1 fun vs H Q o r e => by
    obtain ⟨v, rfl, h⟩ := Rds.one_iff r
    exact .inl ⟨i, by rw [Rd.int_iff.mp h], e.here o (Rd.int_iff.mpr rfl) q⟩
theorem cal_intB {b : Bool} (q : k M (.int (if b then 1 else 0))) : Cal X (.type "int") M [.bl b] k :=
  cal_of call_int1 fun vs H Q o r e => by
    obtain ⟨v, rfl, h⟩ := Rds.one_iff r
    exact .inr ⟨b, by rw [Rd.bl_iff.mp h], e.here o (Rd.int_iff.mpr rfl) q⟩
theorem cal_sum {ns : List Int} (hc : X.calm = true) (q : k M (.int ns.sum)) : Cal X (.builtin "sum") M [.lst (ns.map T.int)] k :=
  cal_of (cr_sum hc) fun vs H Q o r e => by
    obtain ⟨v, rfl, h⟩ := Rds.one_iff r
    obtain ⟨a, vs, rfl, z, h1, h2⟩ := Rd.lst_iff.mp h
    have e2 := Rds.ints h2
    subst e2
    exact ⟨a, ns, rfl, SqL.of h1, e.here o (Rd.int_iff.mpr rfl) q⟩
theorem cal_all {bs : List Bool} (hc : X.calm = true) (q : k M (.bl (bs.all id))) : Cal X (.builtin "all") M [.lst (bs.map T.bl)] k :=
  cal_of (cr_all hc) fun vs H Q o r e => by
    obtain ⟨v, rfl, h⟩ := Rds.one_iff r
    obtain ⟨a, vs, rfl, z, h1, h2⟩ := Rd.lst_iff.mp h
    have e2 := Rds.bls h2
    subst e2
    exact ⟨a, bs, rfl, SqL.of h1, e.here o (Rd.bl_iff.mpr rfl) q⟩
/-- sorted of ints -/
theorem cal_sorted {ns ms : List Int} (hl : ns.length < 64) (hu : ∀ ns' : List Int, ns'.Perm ns → ns'.Pairwise (· ≤ ·) → ns' = ms) (q : k M (.lst (ms.map T.int))) : Cal X (.builtin "sorted") M [.lst (ns.map T.int)] k :=
  cal_of cr_sorted fun vs H Q o r e => by
    obtain ⟨v, rfl, h⟩ := Rds.one_iff r
    obtain ⟨a, vs, rfl, z, h1, h2⟩ := Rd.lst_iff.mp h
    have e2 := Rds.ints h2
    subst e2
    refine ⟨a, ns, rfl, SqL.of h1, hl, fun ns' p pe pw hp => ?_⟩
    rw [hu ns' pe pw]
    exact e.upd o hp (Rd.newL o hp (Rds.ofInts ms)) q
/-! isinstance -/
def tyT : T → Option String
  | .non => some "NoneType"
  | .bl _ => some "bool"
  | .int _ => some "int"
  | .str _ => some "str"
  | .lst _ => some "list"
  | .tup _ => some "tuple"
  | _ => none
theorem tyT_ok {K : PySem.W.Frag} {Z : Addr → Prop} {H : Hp} {t : T} {v : V} {n : String} (h : tyT t = some n) (r : Rd Z H t v) : TyX K H v (.type n) := by
  cases t with
  | non => cases h; rw [Rd.non_iff.mp r]; exact .base .non
  | bl b => cases h; rw [Rd.bl_iff.mp r]; exact .base (.bl b)
  | int b => cases h; rw [Rd.int_iff.mp r]; exact .base (.int b)
  | str b => cases h; rw [Rd.str_iff.mp r]; exact .base (.str b)
  | ty b => cases h
  | ptr b => cases h
  | lst ts =>
    cases h
    obtain ⟨a, vs, rfl, z, q, r⟩ := Rd.lst_iff.mp r
    exact .base (.lst q)
  | tup ts =>
    cases h
    obtain ⟨a, vs, rfl, z, q, r⟩ := Rd.tup_iff.mp r
    exact .base (.tup q)
/-- is a thing of type a one of type b? -/
def isB (a b : String) : Bool := a == b || (a == "bool" && b == "int")
theorem isB_ok : ∀ a ∈ ["NoneType", "bool", "int", "str", "list", "tuple"], ∀ b ∈ ["bool", "int", "str", "list", "tuple"], kitB a b = some (isB a b) := by decide +kernel
theorem tyT_mem {t : T} {n : String} (h : tyT t = some n) : n ∈ ["NoneType", "bool", "int", "str", "list", "tuple"] := by
  cases t <;> cases h <;> simp
theorem cal_isi {t : T} {n c : String} (h : tyT t = some n) (hc : c ∈ ["bool", "int", "str", "list", "tuple"]) (q : k M (.bl (isB n c))) : Cal X (.builtin "isinstance") M [t, .ty c] k :=
  cal_of call_isi fun vs H Q o r e => by
    obtain ⟨v, w, rfl, h1, h2⟩ := Rds.two_iff r
    exact ⟨v, .ty c, .type n, .type c, isB n c, by rw [Rd.ty_iff.mp h2], .ty c, tyT_ok h h1, kit_ty (isB_ok n (tyT_mem h) c hc), e.here o (Rd.bl_iff.mpr rfl) q⟩
theorem kit_two {K : PySem.W.Frag} {n c d : String} (hn : n ∈ ["NoneType", "bool", "int", "str", "list", "tuple"]) (hc : c ∈ ["bool", "int", "str", "list", "tuple"]) (hd : d ∈ ["bool", "int", "str", "list", "tuple"]) :
    PySem.W.kitAny K (.type n) [.type c, .type d] = some (isB n c || isB n d) := by
  refine kitAny_cons (kit_ty (isB_ok n hn c hc)) (fun hb => kitAny_cons (kit_ty (isB_ok n hn d hd)) (fun hb2 => ?_) fun hb2 => ?_) fun hb => ?_
  · rw [hb, hb2] <;> rfl
  · rw [hb2, Bool.or_true]
  · rw [hb, Bool.true_or]
/-- isinstance(x, (c, d)) -/
theorem wp_isi2 {a : Expr} {c d : String} {xc xd : Str} {p p1 p2 p3 : Pos} {x1} (hm : X.mg "isinstance" = none) (hmc : X.mg xc = none) (hmd : X.mg xd = none) (hvc : bootBuiltins xc = some (.type c)) (hvd : bootBuiltins xd = some (.type d)) (hg : Gl X "isinstance") (hgc : Gl X xc) (hgd : Gl X xd)
    (hc : c ∈ ["bool", "int", "str", "list", "tuple"]) (hd : d ∈ ["bool", "int", "str", "list", "tuple"]) (he : starEach [a, .Tuple [.Name xc p1, .Name xd p2] x1 p3] X.env = (false, eval a X.env) :: starEach [.Tuple [.Name xc p1, .Name xd p2] x1 p3] X.env) (hv : bootBuiltins "isinstance" = some (.builtin "isinstance"))
    (h : Wp X M a sl fun M1 t => ∃ n, tyT t = some n ∧ k M1 (.bl (isB n c || isB n d)))
    (h1 : xc ≠ "__name__" := by decide) (h2 : xd ≠ "__name__" := by decide) (h3 : (xc == ("__debug__" : Str)) = false := by decide) (h4 : (xd == ("__debug__" : Str)) = false := by decide) :
    Wp X M (.Call (.Name "isinstance" p) [a, .Tuple [.Name xc p1, .Name xd p2] x1 p3] [] pos) sl k :=
  wp_of (pe_callB call_isiT hg hm hv (pa_cons pe_tW (pa_cons (pe_tup (pa_cons (pe_bltn (v := .ty c) hgc hmc hvc rfl h1 h3) (pa_cons (pe_bltn (v := .ty d) hgd hmd hvd rfl h2 h4) pa_nil))) pa_nil) he) (by decide) (by decide) he) fun σ H Q o s e =>
    h σ H _ o s fun v H1 M1 t f1 o1 r1 ⟨n, hn, k1⟩ => ⟨le_line (by show 2 ≤ 100000; decide), fun q hq => by
      refine ⟨v, q, [.ty c, .ty d], .type n, [.type c, .type d], isB n c || isB n d, rfl, upd_same, .cons (.ty c) (.cons (.ty d) .nil), tyT_ok (K := X.K) hn ((Fr.same (same_upd hq)).rd r1), kit_two (tyT_mem hn) hc hd, ?_⟩
      exact (e.fr f1).upd o1 hq (Rd.bl_iff.mpr rfl) k1⟩
/-! defs called -/
/-- a def of the text that lets nothing out, under its name -/
structure Df (P : Program) (w : World) (K : PySem.W.Frag) (mg : Str → Option Value) (base : Heap) (x : Str) (k : Nat) (ps : List Str) (sp : Sp) : Prop where
  ex : ∃ f fd, FnOk P w K mg base CX0 k f fd ps sp ∧ mg x = some (.ref f) ∧ PySem.W.keepIn K (.ref f) = true ∧ Binds K fd ps []
/-- a promise on trees: R tells what comes of what -/
def spR (R : List T → T → Prop) : Sp := fun vs H Q _ => ∃ (Z : Addr → Prop) (ts : List T) (t : T), (∀ a, Z a → H a ≠ none) ∧ Rds Z H ts vs ∧ R ts t ∧ ∀ v H', Same H H' → Rd Z H' t v → Q v H'
theorem wp_call {x : Str} {j : Nat} {ps : List Str} {R : List T → T → Prop} {a : Expr} {as : List Expr} {p : Pos} (G : Df X.prog X.w X.K X.mg X.base x j ps (spR R)) (hr : Room j X.A) (hg : Gl X x) (he : starEach (a :: as) X.env = (false, eval a X.env) :: starEach as X.env)
    (hpl : (backTo pos (starEach as X.env)).any (·.1) = false) (h : WpA X M (a :: as) sl fun M1 ts => ∃ t, R ts t ∧ k M1 t) (hdb : (x == ("__debug__" : Str)) = false := by decide) : Wp X M (.Call (.Name x p) (a :: as) [] pos) sl k := by
  obtain ⟨f, fd, F, hm, hk, hb⟩ := G.ex
  refine wp_of (pe_call F hr hg hm hk hb .nil pass0 pa_tW hdb he hpl) fun σ H Q o s e => h σ H _ o s fun vs H1 M1 ts f1 o1 r1 ⟨t, ht, k1⟩ => ?_
  refine ⟨M1.Z, ts, t, fun a z => o1.dom z, by rw [List.append_nil]; exact r1, ht, fun v H' sm r => e v H' M1 t (f1.trans (Fr.same sm)) (o1.same sm) r k1⟩
theorem wp_call0 {x : Str} {j : Nat} {ps : List Str} {R : List T → T → Prop} {p : Pos} (G : Df X.prog X.w X.K X.mg X.base x j ps (spR R)) (hr : Room j X.A) (hg : Gl X x) {t : T} (ht : R [] t) (h : k M t) (hdb : (x == ("__debug__" : Str)) = false := by decide) : Wp X M (.Call (.Name x p) [] [] pos) sl k := by
  obtain ⟨f, fd, F, hm, hk, hb⟩ := G.ex
  refine wp_of (pe_call0 F hr hg hm hk hb .nil pass0 hdb) fun σ H Q o s e => ?_
  refine ⟨M.Z, [], t, fun a z => o.dom z, Rds.nil, ht, fun v H' sm r => e v H' M t (Fr.same sm) (o.same sm) r h⟩
end
end K3

set_option Elab.async false
set_option linter.all false
set_option maxRecDepth 100000
set_option maxHeartbeats 4000000
namespace K3
open PySem PySem.Spec PyProof.Rows L2
section
variable {X : Cx} {M : Mo} {sl : Sl} {k : KT} {kb : Mo → Bool → Prop} {pos : Pos}
/-! tests -/
def KB (k : Mo → Bool → Prop) : KT := fun M t => ∃ b, t = .bl b ∧ k M b
theorem KB.mk {b : Bool} (h : kb M b) : KB kb M (.bl b) := ⟨b, rfl, h⟩
theorem EndB.val {H : Hp} {Q : Bool → Hp → Prop} (e : EndB M H kb Q) : End M H (KB kb) (fun x H' => ∃ c, x = .bl c ∧ Q c H') := fun v H2 M2 t f o r ⟨b, ht, kk⟩ => by
  subst ht
  exact ⟨b, Rd.bl_iff.mp r, e b H2 M2 f o kk⟩
theorem wpt_of {e : Expr} {te : TT} (h : PT X e te) (q : ∀ σ H Q, M.Ok H → Sld M.Z H σ sl → EndB M H kb Q → te σ H Q) : WpT X M e sl kb := fun σ H Q o s e => tWT_of h (q σ H Q o s e)
theorem wpw_of {e : Expr} {te : TT} (h : PW X e te) (q : ∀ σ H Q, M.Ok H → Sld M.Z H σ sl → EndB M H kb Q → te σ H Q) : WpW X M e sl kb := fun σ H Q o s e => tWW_of h (q σ H Q o s e)
theorem EndB.here {H : Hp} {Q : Bool → Hp → Prop} (e : EndB M H kb Q) (o : M.Ok H) {b : Bool} (h : kb M b) : Q b H := e b H M Fr.refl o h
theorem wpt_cmp {a b : Expr} {op : CmpOp} (hm : behindInMarks op b = false) (h : Wp X M a sl fun M1 ta => Wp X M1 b sl fun M2 tb => Bin X (compareOp op) M2 ta tb (KB kb)) : WpT X M (.Compare a [op] [b] pos) sl kb :=
  wpt_of (pt_cmpR op_W pe_tW pe_tW hm) fun σ H Q o s e => h σ H _ o s fun v1 H1 M1 t1 f1 o1 r1 k1 => k1 σ H1 _ o1 (f1.sld s) fun v2 H2 M2 t2 f2 o2 r2 k2 => k2 v1 v2 H2 _ o2 (f2.rd r1) r2 (e.fr (f1.trans f2)).val
/-- a test that is a value's truth -/
def truB : T → Option Bool
  | .non => some false
  | .bl b => some b
  | .int i => some (i != 0)
  | .lst ts => some (!ts.isEmpty)
  | .tup ts => some (!ts.isEmpty)
  | _ => none
theorem truB_ok {K : PySem.W.Frag} {Z : Addr → Prop} {H : Hp} {t : T} {v : V} {b : Bool} (h : truB t = some b) (r : Rd Z H t v) : TruV K v H b := by
  cases t with
  | non => cases h; rw [Rd.non_iff.mp r] <;> rfl
  | bl c => cases h; rw [Rd.bl_iff.mp r] <;> rfl
  | int c => cases h; rw [Rd.int_iff.mp r] <;> rfl
  | str c => cases h
  | ty c => cases h
  | ptr c => cases h
  | lst ts =>
    cases h
    obtain ⟨a, vs, rfl, z, q, r⟩ := Rd.lst_iff.mp r
    refine .inl ⟨vs, SqL.of q, ?_⟩
    have := r.length
    cases ts <;> cases vs <;> simp_all
  | tup ts =>
    cases h
    obtain ⟨a, vs, rfl, z, q, r⟩ := Rd.tup_iff.mp r
    refine .inr (.inl ⟨vs, SqT.of q, ?_⟩)
    have := r.length
    cases ts <;> cases vs <;> simp_all
theorem wpt_val {e : Expr} (he : ∀ whole, isTrue e X.env whole = (do let v ← whole; standAt e.pos; holding [v] (truthy v))) (h : Wp X M e sl fun M1 t => ∃ b, truB t = some b ∧ kb M1 b) : WpT X M e sl kb :=
  wpt_of (pt_truth pe_tW he) fun σ H Q o s e => h σ H _ o s fun v1 H1 M1 t1 f1 o1 r1 ⟨b, hb, k1⟩ => ⟨b, truB_ok hb r1, e b H1 M1 f1 o1 k1⟩
theorem wpt_not {e : Expr} (h : WpT X M e sl fun M1 b => kb M1 (!b)) : WpT X M (.UnaryOp .Not e pos) sl kb :=
  wpt_of (pt_not pt_tW) fun σ H Q o s e => h σ H _ o s fun b H1 M1 f1 o1 k1 => e (!b) H1 M1 f1 o1 k1
theorem wpt_w {e : Expr} (h : WpW X M e sl kb) : WpT X M e sl kb := wpt_of pw_tW.pt fun σ H Q o s e => h σ H Q o s e
theorem wpw_and1 {a : Expr} (h : WpT X M a sl kb) : WpW X M (.BoolOp .And [a] pos) sl kb := wpw_of (pw_and1 pt_tW) fun σ H Q o s e => h σ H Q o s e
theorem wpw_or1 {a : Expr} (h : WpT X M a sl kb) : WpW X M (.BoolOp .Or [a] pos) sl kb := wpw_of (pw_or1 pt_tW) fun σ H Q o s e => h σ H Q o s e
theorem wpw_and {a b : Expr} {rest : List Expr} (h : WpT X M a sl fun M1 c => if c = true then WpW X M1 (.BoolOp .And (b :: rest) pos) sl kb else kb M1 false) : WpW X M (.BoolOp .And (a :: b :: rest) pos) sl kb :=
  wpw_of (pw_and pt_tW pw_tW) fun σ H Q o s e => h σ H _ o s fun c H1 M1 f1 o1 k1 => by
    cases c with
    | true => exact k1 σ H1 Q o1 (f1.sld s) (e.fr f1)
    | false => exact (e.fr f1).here o1 k1
theorem wpw_or {a b : Expr} {rest : List Expr} (h : WpT X M a sl fun M1 c => if c = true then kb M1 true else WpW X M1 (.BoolOp .Or (b :: rest) pos) sl kb) : WpW X M (.BoolOp .Or (a :: b :: rest) pos) sl kb :=
  wpw_of (pw_or pt_tW pw_tW) fun σ H Q o s e => h σ H _ o s fun c H1 M1 f1 o1 k1 => by
    cases c with
    | true => exact (e.fr f1).here o1 k1
    | false => exact k1 σ H1 Q o1 (f1.sld s) (e.fr f1)
/-! .. as values (bools) -/
theorem wp_one {a : Expr} {op : BoolOp} (h : Wp X M a sl k) : Wp X M (.BoolOp op [a] pos) sl k := wp_of (pe_one pe_tW) fun σ H Q o s e => h σ H Q o s e
theorem wp_and {a b : Expr} {rest : List Expr} (h : Wp X M a sl fun M1 t => ∃ c, t = .bl c ∧ if c = true then Wp X M1 (.BoolOp .And (b :: rest) pos) sl k else k M1 (.bl false)) : Wp X M (.BoolOp .And (a :: b :: rest) pos) sl k :=
  wp_of (pe_and pe_tW pe_tW) fun σ H Q o s e => h σ H _ o s fun v H1 M1 t f1 o1 r ⟨c, ht, k1⟩ => by
    subst ht
    refine ⟨c, Rd.bl_iff.mp r, ?_⟩
    cases c with
    | true => exact k1 σ H1 Q o1 (f1.sld s) (e.fr f1)
    | false => exact (e.fr f1).here o1 (Rd.bl_iff.mpr rfl) k1
theorem wp_or {a b : Expr} {rest : List Expr} (h : Wp X M a sl fun M1 t => ∃ c, t = .bl c ∧ if c = true then k M1 (.bl true) else Wp X M1 (.BoolOp .Or (b :: rest) pos) sl k) : Wp X M (.BoolOp .Or (a :: b :: rest) pos) sl k :=
  wp_of (pe_or pe_tW pe_tW) fun σ H Q o s e => h σ H _ o s fun v H1 M1 t f1 o1 r ⟨c, ht, k1⟩ => by
    subst ht
    refine ⟨c, Rd.bl_iff.mp r, ?_⟩
    cases c with
    | true => exact (e.fr f1).here o1 (Rd.bl_iff.mpr rfl) k1
    | false => exact k1 σ H1 Q o1 (f1.sld s) (e.fr f1)
/-- x or y by truth -/
theorem wp_orT {a b : Expr} {rest : List Expr} (h : Wp X M a sl fun M1 t => ∃ c, truB t = some c ∧ if c = true then k M1 t else Wp X M1 (.BoolOp .Or (b :: rest) pos) sl k) : Wp X M (.BoolOp .Or (a :: b :: rest) pos) sl k :=
  wp_of (pe_orT pe_tW pe_tW) fun σ H Q o s e => h σ H _ o s fun v H1 M1 t f1 o1 r ⟨c, ht, k1⟩ => by
    refine ⟨c, truB_ok ht r, ?_⟩
    cases c with
    | true => exact (e.fr f1).here o1 r k1
    | false => exact k1 σ H1 Q o1 (f1.sld s) (e.fr f1)
theorem wp_not {a : Expr} (h : Wp X M a sl fun M1 t => ∃ c, t = .bl c ∧ k M1 (.bl (!c))) : Wp X M (.UnaryOp .Not a pos) sl k :=
  wp_of (pe_not pe_tW) fun σ H Q o s e => h σ H _ o s fun v H1 M1 t f1 o1 r ⟨c, ht, k1⟩ => by
    subst ht
    exact ⟨c, Rd.bl_iff.mp r, (e.fr f1).here o1 (Rd.bl_iff.mpr rfl) k1⟩
theorem wp_if {c a b : Expr} (h : WpT X M c sl fun M1 d => if d = true then Wp X M1 a sl k else Wp X M1 b sl k) : Wp X M (.IfExp c a b pos) sl k :=
  wp_of (pe_ifExp pt_tW pe_tW pe_tW) fun σ H Q o s e => h σ H _ o s fun d H1 M1 f1 o1 k1 => by
    cases d with
    | true => exact k1 σ H1 Q o1 (f1.sld s) (e.fr f1)
    | false => exact k1 σ H1 Q o1 (f1.sld s) (e.fr f1)
/-! subscripts -/
theorem wp_ix {a b : Expr} (hs : PlainIx b) (h : Wp X M a sl fun M1 ta => Wp X M1 b sl fun M2 tb => Idx X M2 ta tb k) : Wp X M (.Subscript a b pos) sl k :=
  wp_of (pe_ix ix_W pe_tW pe_tW hs) fun σ H Q o s e => h σ H _ o s fun v1 H1 M1 t1 f1 o1 r1 k1 => k1 σ H1 _ o1 (f1.sld s) fun v2 H2 M2 t2 f2 o2 r2 k2 => k2 v1 v2 H2 Q o2 (f2.rd r1) r2 (e.fr (f1.trans f2))
theorem atI_int {α : Type} {xs : List α} {i : Int} {v : α} (h0 : 0 ≤ i) (h : xs[i.toNat]? = some v) : atI xs i = some v := by
  have e : i = ((i.toNat : Nat) : Int) := by omega
  rw [e]
  exact atI_nat h
theorem idx_sq {b : Bool} {ts : List T} {i : Int} {t : T} (h0 : 0 ≤ i) (ht : ts[i.toNat]? = some t) (q : k M t) : Idx X M (Sq b ts) (.int i) k := fun x y H Q o ra rb e => by
  obtain ⟨a, vs, rfl, z, h1, h2⟩ := ra.sq
  obtain ⟨v, hv, r⟩ := h2.get ht
  have := Rd.int_iff.mp rb
  subst this
  refine iW_of (IxR.or ix_list ix_tup) ?_
  rcases h1 with h1 | h1
  · exact .inl ⟨a, vs, i, v, rfl, rfl, SqL.of h1, atI_int h0 hv, e.here o r q⟩
  · exact .inr ⟨a, vs, i, v, rfl, rfl, SqT.of h1, atI_int h0 hv, e.here o r q⟩
theorem idx_lst {ts : List T} {i : Int} {t : T} (h0 : 0 ≤ i) (ht : ts[i.toNat]? = some t) (q : k M t) : Idx X M (.lst ts) (.int i) k := idx_sq (b := true) h0 ht q
theorem idx_tup {ts : List T} {i : Int} {t : T} (h0 : 0 ≤ i) (ht : ts[i.toNat]? = some t) (q : k M t) : Idx X M (.tup ts) (.int i) k := idx_sq (b := false) h0 ht q
theorem idx_str {z : Str} {i : Int} {c : Nat} (h0 : 0 ≤ i) (hz : z.length ≤ 100000) (ht : z.cps.toList[i.toNat]? = some c) (q : k M (.str ⟨#[c]⟩)) : Idx X M (.str z) (.int i) k := fun x y H Q o ra rb e => by
  have := Rd.int_iff.mp rb
  subst this
  have := Rd.str_iff.mp ra
  subst this
  exact iW_of ix_str ⟨z, i, c, rfl, rfl, le_line hz, atI_int h0 ht, e.here o (Rd.str_iff.mpr rfl) q⟩
/-- the parts of a slice -/
def WpO (X : Cx) (M : Mo) (e : Option Expr) (sl : Sl) (k : Mo → Option Int → Prop) : Prop := match e with
  | none => k M none
  | some e => Wp X M e sl fun M1 t => ∃ i, t = .int i ∧ k M1 (some i)
def tWO (X : Cx) : Option Expr → TO
  | none => tNoPart
  | some e => tPart (tW X e)
theorem po_tW : ∀ {e : Option Expr}, PO X e (tWO X e)
  | none => po_none
  | some e => po_some pe_tW
theorem WpO.run {e : Option Expr} {k : Mo → Option Int → Prop} (h : WpO X M e sl k) {σ : L2.St} {H : Hp} {Q : Option Int → Hp → Prop} (o : M.Ok H) (s : Sld M.Z H σ sl) (e' : ∀ i H2 M2, Fr M H M2 H2 → M2.Ok H2 → k M2 i → Q i H2) : tWO X e σ H Q := by
  cases e with
  | none => exact e' none H M Fr.refl o h
  | some e =>
    refine h σ H _ o s fun v H1 M1 t f1 o1 r hk => ?_
    obtain ⟨i, ht, k1⟩ := hk
    subst ht
    exact ⟨i, Rd.int_iff.mp r, e' (some i) H1 M1 f1 o1 k1⟩
theorem wp_slice {a : Expr} {lo hi : Option Expr} {p2 : Pos} (h : Wp X M a sl fun M1 ta => WpO X M1 lo sl fun M2 i => WpO X M2 hi sl fun M3 j => Sli X M3 ta i j k) : Wp X M (.Subscript a (.Slice lo hi none p2) pos) sl k :=
  wp_of (pe_slice sl_W pe_tW po_tW po_tW) fun σ H Q o s e => h σ H _ o s fun v1 H1 M1 t1 f1 o1 r1 k1 => k1.run o1 (f1.sld s) fun i H2 M2 f2 o2 k2 => k2.run o2 ((f1.trans f2).sld s) fun j H3 M3 f3 o3 k3 => k3 v1 H3 Q o3 ((f2.trans f3).rd r1) ((e.fr f1).fr (f2.trans f3))
def cutT {α : Type} (xs : List α) (lo hi : Option Int) : List α := (xs.drop (HT.sIx xs.length 0 lo)).take (HT.sIx xs.length xs.length hi - HT.sIx xs.length 0 lo)
theorem sli_lst {ts : List T} {lo hi : Option Int} (q : k M (.lst (cutT ts lo hi))) : Sli X M (.lst ts) lo hi k := fun x H Q o ra e => by
  obtain ⟨a, vs, rfl, z, h1, h2⟩ := Rd.lst_iff.mp ra
  refine sW_of sl_list ⟨a, vs, rfl, SqL.of h1, fun p hp => e.upd o hp (Rd.newL o hp ?_) q⟩
  have hl := h2.length
  unfold cutV cutT
  rw [hl]
  exact (h2.drop _).take _
theorem sli_str {z : Str} {lo hi : Option Int} (hz : z.length ≤ 100000) (q : k M (.str (cutS z lo hi))) : Sli X M (.str z) lo hi k := fun x H Q o ra e => by
  have := Rd.str_iff.mp ra
  subst this
  exact sW_of sl_str ⟨z, rfl, le_line hz, e.here o (Rd.str_iff.mpr rfl) q⟩
/-! in -/
theorem inV_int (i : Int) : ∀ ns : List Int, inV (.int i) (ns.map V.int) = decide (i ∈ ns)
  | [] => rfl
  | n :: ns => by
    have ih := inV_int i ns
    unfold inV at ih ⊢
    rw [List.map_cons, List.any_cons, ih]
    show (n == i || decide (i ∈ ns)) = _
    by_cases h : n = i
    · simp [h]
    · have h' : ¬ i = n := fun e => h e.symm
      simp [h, h']
theorem inV_str (i : Str) : ∀ ns : List Str, inV (.str i) (ns.map V.str) = decide (i ∈ ns)
  | [] => rfl
  | n :: ns => by
    have ih := inV_str i ns
    unfold inV at ih ⊢
    rw [List.map_cons, List.any_cons, ih]
    show (n == i || decide (i ∈ ns)) = _
    by_cases h : n = i
    · simp [h]
    · have h' : ¬ i = n := fun e => h e.symm
      have h2 : (n == i) = false := by simpa using h
      simp [h', h2]
theorem flat_int : ∀ ns : List Int, (ns.map V.int).all flatV = true
  | [] => rfl
  | n :: ns => flat_int ns
theorem flat_str : ∀ ns : List Str, (ns.map V.str).all flatV = true
  | [] => rfl
  | n :: ns => flat_str ns
theorem bin_inI {b : Bool} {ns : List Int} {i : Int} (q : k M (.bl (decide (i ∈ ns)))) : Bin X (compareOp .In) M (.int i) (Sq b (ns.map T.int)) k :=
  bin_of op_in_seq fun x y H Q o ra rb e => by
    obtain ⟨a, vs, rfl, z, h1, h2⟩ := rb.sq
    have := Rds.ints h2
    subst this
    have := Rd.int_iff.mp ra
    subst this
    refine ⟨a, _, rfl, h1.imp SqL.of SqT.of, rfl, flat_int ns, ?_⟩
    rw [if_neg Bool.false_ne_true, inV_int]
    exact e.here o (Rd.bl_iff.mpr rfl) q
theorem bin_notInI {b : Bool} {ns : List Int} {i : Int} (q : k M (.bl (!decide (i ∈ ns)))) : Bin X (compareOp .NotIn) M (.int i) (Sq b (ns.map T.int)) k :=
  bin_of op_notIn_seq fun x y H Q o ra rb e => by
    obtain ⟨a, vs, rfl, z, h1, h2⟩ := rb.sq
    have := Rds.ints h2
    subst this
    have := Rd.int_iff.mp ra
    subst this
    refine ⟨a, _, rfl, h1.imp SqL.of SqT.of, rfl, flat_int ns, ?_⟩
    rw [if_pos rfl, inV_int]
    exact e.here o (Rd.bl_iff.mpr rfl) q
theorem bin_inS {b : Bool} {ns : List Str} {ts : List T} {i : Str} (ht : ts = ns.map T.str) (q : k M (.bl (decide (i ∈ ns)))) : Bin X (compareOp .In) M (.str i) (Sq b ts) k :=
  bin_of op_in_seq fun x y H Q o ra rb e => by
    subst ht
    obtain ⟨a, vs, rfl, z, h1, h2⟩ := rb.sq
    have := Rds.strs h2
    subst this
    have := Rd.str_iff.mp ra
    subst this
    refine ⟨a, _, rfl, h1.imp SqL.of SqT.of, rfl, flat_str ns, ?_⟩
    rw [if_neg Bool.false_ne_true, inV_str]
    exact e.here o (Rd.bl_iff.mpr rfl) q
theorem bin_inL {ns : List Int} {i : Int} (q : k M (.bl (decide (i ∈ ns)))) : Bin X (compareOp .In) M (.int i) (.lst (ns.map T.int)) k := bin_inI (b := true) q
theorem bin_inT {ns : List Int} {i : Int} (q : k M (.bl (decide (i ∈ ns)))) : Bin X (compareOp .In) M (.int i) (.tup (ns.map T.int)) k := bin_inI (b := false) q
theorem bin_notInL {ns : List Int} {i : Int} (q : k M (.bl (!decide (i ∈ ns)))) : Bin X (compareOp .NotIn) M (.int i) (.lst (ns.map T.int)) k := bin_notInI (b := true) q
theorem bin_notInT {ns : List Int} {i : Int} (q : k M (.bl (!decide (i ∈ ns)))) : Bin X (compareOp .NotIn) M (.int i) (.tup (ns.map T.int)) k := bin_notInI (b := false) q
/-- one sign in a text -/
theorem bin_notInC {z : Str} {c : Nat} (q : k M (.bl (!decide (c ∈ z.cps.toList)))) : Bin X (compareOp .NotIn) M (.str ⟨#[c]⟩) (.str z) k :=
  bin_of op_notIn_sign fun x y H Q o ra rb e => ⟨c, z, Rd.str_iff.mp ra, Rd.str_iff.mp rb, e.here o (Rd.bl_iff.mpr rfl) q⟩
/-! is None -/
def isNonT : T → Bool
  | .non => true
  | _ => false
theorem isNonT_ok {Z : Addr → Prop} {H : Hp} {t : T} {v : V} (r : Rd Z H t v) : decide (v = .non) = isNonT t := by
  cases t with
  | non => rw [Rd.non_iff.mp r] <;> rfl
  | bl c => rw [Rd.bl_iff.mp r] <;> rfl
  | int c => rw [Rd.int_iff.mp r] <;> rfl
  | str c => rw [Rd.str_iff.mp r] <;> rfl
  | ty c => rw [Rd.ty_iff.mp r] <;> rfl
  | ptr c => rw [Rd.ptr_iff.mp r] <;> rfl
  | lst ts => obtain ⟨a, vs, rfl, _⟩ := Rd.lst_iff.mp r; rfl
  | tup ts => obtain ⟨a, vs, rfl, _⟩ := Rd.tup_iff.mp r; rfl
theorem bin_isN {t : T} (q : k M (.bl (isNonT t))) : Bin X (compareOp .Is) M t .non k :=
  bin_of op_isN fun x y H Q o ra rb e => ⟨Rd.non_iff.mp rb, by rw [isNonT_ok ra]; exact e.here o (Rd.bl_iff.mpr rfl) q⟩
/-! + and * of lists, tuples, texts -/
theorem bin_catL {ts us : List T} (hz : ts.length + us.length ≤ 100000) (q : k M (.lst (ts ++ us))) : Bin X (binaryOp .Add) M (.lst ts) (.lst us) k :=
  bin_of op_cat fun x y H Q o ra rb e => by
    obtain ⟨a, vs, rfl, z, h1, h2⟩ := Rd.lst_iff.mp ra
    obtain ⟨b, ws, rfl, z', g1, g2⟩ := Rd.lst_iff.mp rb
    exact ⟨a, b, vs, ws, rfl, rfl, h1, g1, by rw [h2.length, g2.length]; exact le_line hz, fun p hp => e.upd o hp (Rd.newL o hp (h2.append g2)) q⟩
theorem bin_catT {ts us : List T} (hz : ts.length + us.length ≤ 100000) (q : k M (.tup (ts ++ us))) : Bin X (binaryOp .Add) M (.tup ts) (.tup us) k :=
  bin_of op_catA fun x y H Q o ra rb e => by
    have ra' := ra
    have rb' := rb
    obtain ⟨a, vs, rfl, z, h1, h2⟩ := Rd.tup_iff.mp ra
    obtain ⟨b, ws, rfl, z', g1, g2⟩ := Rd.tup_iff.mp rb
    have l1 := h2.length
    have l2 := g2.length
    refine ⟨a, b, vs, ws, rfl, rfl, SqT.of h1, SqT.of g1, by rw [l1, l2]; exact le_line hz, fun e0 => ?_, fun _ e0 => ?_, fun _ _ p hp => e.upd o hp (Rd.newT o hp (h2.append g2)) q⟩
    · have : ts = [] := List.eq_nil_of_length_eq_zero (by rw [← l1, e0]; rfl)
      subst this
      exact e.here o rb' q
    · have : us = [] := List.eq_nil_of_length_eq_zero (by rw [← l2, e0]; rfl)
      subst this
      rw [List.append_nil] at q
      exact e.here o ra' q
theorem bin_catS {z w : Str} (hz : z.length + w.length ≤ 100000) (q : k M (.str (z ++ w))) : Bin X (binaryOp .Add) M (.str z) (.str w) k :=
  bin_of op_add_str fun x y H Q o ra rb e => ⟨z, w, Rd.str_iff.mp ra, Rd.str_iff.mp rb, le_line hz, e.here o (Rd.str_iff.mpr rfl) q⟩
theorem bin_repL {ts : List T} {i : Int} (h0 : 0 ≤ i) (h1 : i ≤ 1000) (hz : ts.length ≤ 100) (q : k M (.lst (List.replicate i.toNat ts).flatten)) : Bin X (binaryOp .Mult) M (.lst ts) (.int i) k :=
  bin_of op_rep fun x y H Q o ra rb e => by
    obtain ⟨a, vs, rfl, z, g1, g2⟩ := Rd.lst_iff.mp ra
    have hl := g2.length
    refine ⟨a, i, vs, rfl, Rd.int_iff.mp rb, g1, by omega, by omega, ?_, fun p hp => e.upd o hp (Rd.newL o hp (g2.repl _)) q⟩
    refine le_line (Nat.le_trans (Nat.mul_le_mul (show vs.length ≤ 100 by omega) (show i.toNat ≤ 1000 by omega)) (by decide))
end
end K3

set_option Elab.async false
set_option linter.all false
set_option maxRecDepth 100000
set_option maxHeartbeats 4000000
namespace K3
open PySem PySem.Spec PyProof.Rows L2
/-! ### modes that change -/
def putO : List (Addr × Own) → Nat → Own → List (Addr × Own)
  | [], _, _ => []
  | (a, _) :: r, 0, o => (a, o) :: r
  | x :: r, j + 1, o => x :: putO r j o
def Mo.put (M : Mo) (j : Nat) (o : Own) : Mo := ⟨M.Z0, M.H0, putO M.os j o⟩
def Mo.push (M : Mo) (p : Addr) (o : Own) : Mo := ⟨M.Z0, M.H0, (p, o) :: M.os⟩
def Mo.drop (M : Mo) : Mo := ⟨M.Z0, M.H0, M.os.tail⟩
theorem putO_fst : ∀ (l : List (Addr × Own)) (j : Nat) (o : Own), (putO l j o).map (·.1) = l.map (·.1)
  | [], _, _ => rfl
  | (a, _) :: r, 0, o => rfl
  | x :: r, j + 1, o => by
    show x.1 :: (putO r j o).map (·.1) = x.1 :: r.map (·.1)
    rw [putO_fst r j o]
theorem putO_mem : ∀ {l : List (Addr × Own)} {j : Nat} {o : Own} {a : Addr} {w : Own} {p : Addr × Own}, l[j]? = some (a, w) → p ∈ putO l j o → p = (a, o) ∨ p ∈ l
  | [], _, _, _, _, _, h, _ => by simp at h
  | (b, u) :: r, 0, o, a, w, p, h, m => by
    have e : (b, u) = (a, w) := by simpa using h
    cases e
    rcases List.mem_cons.mp m with rfl | m
    · exact .inl rfl
    · exact .inr (List.mem_cons_of_mem _ m)
  | x :: r, j + 1, o, a, w, p, h, m => by
    rcases List.mem_cons.mp m with rfl | m
    · exact .inr List.mem_cons_self
    · rcases putO_mem (l := r) (j := j) (by simpa using h) m with e | e
      · exact .inl e
      · exact .inr (List.mem_cons_of_mem _ e)
theorem Z_iff {M : Mo} {a : Addr} : M.Z a ↔ M.Z0 a ∨ a ∈ M.os.map (·.1) := by
  unfold Mo.Z
  refine or_congr Iff.rfl ⟨fun ⟨o, m⟩ => List.mem_map.mpr ⟨_, m, rfl⟩, fun m => ?_⟩
  obtain ⟨⟨b, o⟩, m', e⟩ := List.mem_map.mp m
  have e' : b = a := e
  subst e'
  exact ⟨o, m'⟩
theorem put_Z {M : Mo} {j : Nat} {o : Own} : (M.put j o).Z = M.Z := by
  funext a
  apply propext
  rw [Z_iff, Z_iff]
  show M.Z0 a ∨ a ∈ (putO M.os j o).map (·.1) ↔ _
  rw [putO_fst]
section
variable {M : Mo} {H : Hp} {p : Addr} {w o : Own} {j : Nat}
theorem Mo.Ok.at_ (k : M.Ok H) (h : M.os[j]? = some (p, w)) : M.Z p ∧ ¬ M.Z0 p ∧ OwnOk M.Z H p w := by
  have m := List.mem_of_getElem? h
  exact ⟨.inr ⟨w, m⟩, k.own _ m⟩
/-- what is owned has changed -/
theorem Mo.Ok.write (k : M.Ok H) (h : M.os[j]? = some (p, w)) {x : HO} (own : OwnOk M.Z (L2.upd H p x) p o) : (M.put j o).Ok (L2.upd H p x) ∧ Fr M H (M.put j o) (L2.upd H p x) := by
  obtain ⟨zp, z0, _⟩ := k.at_ h
  have f : Fk M.Z H M.Z (L2.upd H p x) := ⟨fun b u nb hb => ⟨by
    have : b ≠ p := fun e => nb (e ▸ zp)
    rw [upd_ne this]
    exact hb, nb⟩⟩
  refine ⟨⟨fun a za => ?_, ?_, fun q m => ?_⟩, ⟨rfl, rfl, ?_⟩⟩
  · have : a ≠ p := fun e => z0 (e ▸ za)
    rw [upd_ne this]
    exact k.base a za
  · show ((putO M.os j o).map (·.1)).Nodup
    rw [putO_fst]
    exact k.nd
  · rw [put_Z]
    rcases putO_mem h m with rfl | m'
    · exact ⟨z0, own⟩
    · obtain ⟨zq, oq⟩ := k.own q m'
      refine ⟨zq, ?_⟩
      by_cases hq : q.1 = p
      · have e : q = (p, o) := by
          have nd : ((putO M.os j o).map (·.1)).Nodup := by rw [putO_fst]; exact k.nd
          have m1 : (p, o) ∈ putO M.os j o := by
            clear own nd m' oq zq hq m
            revert h
            generalize M.os = l
            intro h
            clear f z0 zp k
            induction l generalizing j with
            | nil => simp at h
            | cons y r ih =>
              cases j with
              | zero =>
                have e : y = (p, w) := by simpa using h
                subst e
                exact List.mem_cons_self
              | succ j => exact List.mem_cons_of_mem _ (ih (by simpa using h))
          obtain ⟨i1, h1⟩ := List.getElem?_of_mem (show q ∈ putO M.os j o from m)
          obtain ⟨i2, h2⟩ := List.getElem?_of_mem m1
          have e1 : ((putO M.os j o).map (·.1))[i1]? = some p := by rw [List.getElem?_map, h1]; simp [hq]
          have e2 : ((putO M.os j o).map (·.1))[i2]? = some p := by rw [List.getElem?_map, h2]; rfl
          have e3 := nd_ix nd e1 e2
          subst e3
          rw [h1] at h2
          exact Option.some.inj h2
        subst e
        exact own
      · obtain ⟨a, u⟩ := q
        cases u with
        | lst ts =>
          obtain ⟨vs, e, r⟩ := oq
          exact ⟨vs, by rw [upd_ne hq]; exact e, Rds.mono f ts vs r⟩
        | tin n =>
          obtain ⟨x1, b1, c1, e, r⟩ := oq
          exact ⟨x1, b1, c1, by rw [upd_ne hq]; exact e, r⟩
  · rw [put_Z]
    exact f
/-- a new list is taken as one's own -/
theorem Mo.Ok.push (k : M.Ok H) (hp : H p = none) {vs : List V} {ts : List T} (r : Rds M.Z H ts vs) : (M.push p (.lst ts)).Ok (L2.upd H p (.lst vs)) ∧ Fr M H (M.push p (.lst ts)) (L2.upd H p (.lst vs)) := by
  have np : ¬ M.Z p := k.new hp
  have ne : ∀ b u, H b = some u → b ≠ p := fun b u h => ne_of_none h hp
  have f : Fk M.Z H (M.push p (.lst ts)).Z (L2.upd H p (.lst vs)) := ⟨fun b u nb hb => ⟨by rw [upd_ne (ne b u hb)]; exact hb, fun z => by
    rcases Z_iff.mp z with z | z
    · exact nb (.inl z)
    · rcases List.mem_cons.mp z with e | z
      · exact ne b u hb e
      · exact nb (Z_iff.mpr (.inr z))⟩⟩
  refine ⟨⟨fun a za => ?_, ?_, fun q m => ?_⟩, ⟨rfl, rfl, f⟩⟩
  · have : a ≠ p := fun e => np (e ▸ .inl za)
    rw [upd_ne this]
    exact k.base a za
  · refine List.nodup_cons.mpr ⟨fun m => np (Z_iff.mpr (.inr m)), k.nd⟩
  · rcases List.mem_cons.mp m with rfl | m
    · exact ⟨fun z => np (.inl z), vs, upd_same, Rds.mono f ts vs r⟩
    · obtain ⟨zq, oq⟩ := k.own q m
      refine ⟨zq, ?_⟩
      obtain ⟨a, u⟩ := q
      have ha : a ≠ p := fun e => np (e ▸ .inr ⟨u, m⟩)
      cases u with
      | lst ts2 =>
        obtain ⟨vs2, e, r2⟩ := oq
        exact ⟨vs2, by rw [upd_ne ha]; exact e, Rds.mono f ts2 vs2 r2⟩
      | tin n =>
        obtain ⟨x1, b1, c1, e, r2⟩ := oq
        exact ⟨x1, b1, c1, by rw [upd_ne ha]; exact e, r2⟩
/-- the last own list is no longer changed -/
theorem Mo.Ok.close {ts : List T} {r : List (Addr × Own)} (k : M.Ok H) (h : M.os = (p, .lst ts) :: r) : M.drop.Ok H ∧ Fr M H M.drop H ∧ Rd M.drop.Z H (.lst ts) (.ref p) := by
  have hd : M.drop.os = r := by show M.os.tail = r; rw [h] <;> rfl
  have f : Fk M.Z H M.drop.Z H := ⟨fun b u nb hb => ⟨hb, fun z => nb (by
    rcases Z_iff.mp z with z | z
    · exact .inl z
    · refine Z_iff.mpr (.inr ?_)
      rw [hd] at z
      rw [h]
      exact List.mem_cons_of_mem _ z)⟩⟩
  have nd := k.nd
  rw [h] at nd
  obtain ⟨n1, n2⟩ := List.nodup_cons.mp nd
  obtain ⟨zp, z0, vs, e, rr⟩ := k.at_ (j := 0) (p := p) (w := .lst ts) (by rw [h] <;> rfl)
  have np : ¬ M.drop.Z p := fun z => by
    rcases Z_iff.mp z with z | z
    · exact z0 z
    · rw [hd] at z
      exact n1 z
  refine ⟨⟨k.base, by rw [hd]; exact n2, fun q m => ?_⟩, ⟨rfl, rfl, f⟩, Rd.lst_iff.mpr ⟨p, vs, rfl, np, e, Rds.mono f ts vs rr⟩⟩
  rw [hd] at m
  obtain ⟨zq, oq⟩ := k.own q (by rw [h]; exact List.mem_cons_of_mem _ m)
  refine ⟨zq, ?_⟩
  obtain ⟨a, u⟩ := q
  cases u with
  | lst ts2 =>
    obtain ⟨vs2, e2, r2⟩ := oq
    exact ⟨vs2, e2, Rds.mono f ts2 vs2 r2⟩
  | tin n => exact oq
/-- one way of saying what is owned for another -/
theorem Mo.Ok.say (k : M.Ok H) (h : M.os[j]? = some (p, w)) (own : OwnOk M.Z H p o) : (M.put j o).Ok H ∧ Fr M H (M.put j o) H := by
  obtain ⟨zp, z0, ow⟩ := k.at_ h
  obtain ⟨vs, e⟩ := ow.some
  have e2 : L2.upd H p (.lst vs) = H := by
    funext b
    by_cases hb : b = p
    · subst hb
      rw [upd_same, e]
    · rw [upd_ne hb]
  have q := k.write h (x := .lst vs) (o := o) (by rw [e2]; exact own)
  rw [e2] at q
  exact q
end
/-! ### new lists -/
def EndN (M : Mo) (H : Hp) (k : Mo → List T → Prop) (Q : VK) : Prop := ∀ p H1 M1 ts vs, Fr M H M1 H1 → M1.Ok H1 → H1 p = none → Rds M1.Z H1 ts vs → k M1 ts → Q (.ref p) (L2.upd H1 p (.lst vs))
def WpN (X : Cx) (M : Mo) (e : Expr) (sl : Sl) (k : Mo → List T → Prop) : Prop := ∀ σ H Q, M.Ok H → Sld M.Z H σ sl → EndN M H k Q → tW X e σ H Q
section
variable {X : Cx} {M : Mo} {sl : Sl} {k : KT} {kn : Mo → List T → Prop} {pos : Pos} {D : DT}
theorem wpn_lst {es : List Expr} (h : WpA X M es sl fun M1 ts => ts.length ≤ 100000 ∧ kn M1 ts) : WpN X M (.List es pos) sl kn := fun σ H Q o s e =>
  tW_of (pe_lst pa_tW) (h σ H _ o s fun vs H1 M1 ts f1 o1 r1 k1 => ⟨by rw [r1.length]; exact le_line k1.1, fun p hp => e p H1 M1 ts vs f1 o1 hp r1 k1.2⟩)
theorem wpn_list {a : Expr} {p : Pos} (hm : X.mg "list" = none) (hv : bootBuiltins "list" = some (.type "list")) (hg : Gl X "list") (he : starEach [a] X.env = (false, eval a X.env) :: starEach [] X.env)
    (h : Wp X M a sl fun M1 t => ∃ b ts, t = Sq b ts ∧ kn M1 ts) : WpN X M (.Call (.Name "list" p) [a] [] pos) sl kn := fun σ H Q o s e =>
  tW_of (pe_callTy call_list_of hg hm hv (pa_cons pe_tW pa_nil he) (by decide) (by decide) he rfl) (h σ H _ o s fun v H1 M1 t f1 o1 r1 ⟨b, ts, ht, k1⟩ => by
    subst ht
    obtain ⟨a, vs, rfl, z, h1, h2⟩ := r1.sq
    exact ⟨a, vs, rfl, h1.imp SqL.of SqT.of, fun p hp => e p H1 M1 ts vs f1 o1 hp h2 k1⟩)
theorem wpn_rep {a b : Expr} (h : Wp X M a sl fun M1 ta => Wp X M1 b sl fun M2 tb => ∃ ts i, ta = .lst ts ∧ tb = .int i ∧ 0 ≤ i ∧ i ≤ 1000 ∧ ts.length ≤ 100 ∧ kn M2 (List.replicate i.toNat ts).flatten) : WpN X M (.BinOp a .Mult b pos) sl kn := fun σ H Q o s e =>
  tW_of (pe_op op_rep pe_tW pe_tW) (h σ H _ o s fun v1 H1 M1 t1 f1 o1 r1 k1 => k1 σ H1 _ o1 (f1.sld s) fun v2 H2 M2 t2 f2 o2 r2 ⟨ts, i, e1, e2, h0, h1, hz, kk⟩ => by
    subst e1 e2
    obtain ⟨a, vs, rfl, z, g1, g2⟩ := Rd.lst_iff.mp (f2.rd r1)
    have hl := g2.length
    exact ⟨a, i, vs, rfl, Rd.int_iff.mp r2, g1, by omega, by omega, le_line (Nat.le_trans (Nat.mul_le_mul (show vs.length ≤ 100 by omega) (show i.toNat ≤ 1000 by omega)) (by decide)),
      fun p hp => e p H2 M2 _ _ (f1.trans f2) o2 hp (g2.repl _) kk⟩)
/-! ### statements -/
theorem wps_of {st : Stmt} {t : TS} (h : PS X st t) (q : ∀ σ H E, M.Ok H → Sld M.Z H σ sl → EndS M H D E → t E σ H) : WpS X M st sl D := fun σ H E o s e => tWS_of h (q σ H E o s e)
theorem wpb_nil (h : D.nx M sl) : WpB X M [] sl D := fun σ H E o s e => tWB_of pss_nil (e.nx σ H M sl Fr.refl o s h)
theorem wpb_cons {st : Stmt} {rest : List Stmt} (h : WpS X M st sl { D with nx := fun M1 sl1 => WpB X M1 rest sl1 D }) : WpB X M (st :: rest) sl D := fun σ H E o s e =>
  tWB_of (pss_cons ps_tW pss_tW) (h σ H { E with nx := tWB X rest E } o s ⟨fun σ' H' M' sl' f o' s' hk => hk σ' H' E o' s' (e.fr f), e.rt, e.bk, e.ct, e.xc⟩)
theorem EndS.step {H : Hp} {E : Ends} (e : EndS M H D E) {σ' : L2.St} {H' : Hp} {M' : Mo} {sl' : Sl} (f : Fr M H M' H') (o : M'.Ok H') (s : Sld M'.Z H' σ' sl') (h : D.nx M' sl') : E.nx σ' H' := e.nx σ' H' M' sl' f o s h
theorem wps_set (i : Nat) {x : Str} {e : Expr} {p' : Pos} (hN : X.N.Nodup) (hi : X.N[i]? = some x) (hx : Loc X.env.scope x) (hf : X.fn x = true) (hs : swapsWith e (some (.Name x p')) pos.line X.env = pure false)
    (h : Wp X M e sl fun M1 t => D.nx M1 (sl.set i (some t))) : WpS X M (.Assign [.Name x p'] e pos) sl D :=
  wps_of (ps_set (i := i) hN hi hx pe_tW hs (.inl hf)) fun σ H E o s e => h σ H _ o s fun v H1 M1 t f1 o1 r1 k1 => e.step f1 o1 ((f1.sld s).set r1) k1
/-- a new list, taken as one's own -/
theorem wps_own (i : Nat) {x : Str} {e : Expr} {p' : Pos} (hN : X.N.Nodup) (hi : X.N[i]? = some x) (hx : Loc X.env.scope x) (hf : X.fn x = true) (hs : swapsWith e (some (.Name x p')) pos.line X.env = pure false)
    (h : WpN X M e sl fun M1 ts => ∀ p, D.nx (M1.push p (.lst ts)) (sl.set i (some (.ptr p)))) : WpS X M (.Assign [.Name x p'] e pos) sl D :=
  wps_of (ps_set (i := i) hN hi hx pe_tW hs (.inl hf)) fun σ H E o s e => h σ H _ o s fun p H1 M1 ts vs f1 o1 hp r1 k1 => by
    obtain ⟨o2, f2⟩ := o1.push hp r1
    exact e.step (f1.trans f2) o2 (((f1.trans f2).sld s).set (Rd.ptr_iff.mpr rfl)) (k1 p)
theorem wps_expr {e : Expr} (hs : swapsWith e none pos.line X.env = pure false) (h : Wp X M e sl fun M1 _ => D.nx M1 sl) : WpS X M (.Expr e pos) sl D :=
  wps_of (ps_expr pe_tW hs) fun σ H E o s e => h σ H _ o s fun v H1 M1 t f1 o1 r1 k1 => e.step f1 o1 (f1.sld s) k1
theorem wps_ret {e : Expr} (h : Wp X M e sl D.rt) : WpS X M (.Return (some e) pos) sl D :=
  wps_of (ps_ret pe_tW) fun σ H E o s e => h σ H _ o s e.rt
theorem wps_if {c : Expr} {a b : List Stmt} (h : WpT X M c sl fun M1 d => if d = true then WpB X M1 a sl D else WpB X M1 b sl D) : WpS X M (.If c a b pos) sl D :=
  wps_of (ps_if pt_tW pss_tW pss_tW) fun σ H E o s e => h σ H _ o s fun d H1 M1 f1 o1 k1 => by
    cases d with
    | true => exact k1 σ H1 E o1 (f1.sld s) (e.fr f1)
    | false => exact k1 σ H1 E o1 (f1.sld s) (e.fr f1)
/-- a, b = .., .. -/
theorem wps_par (i j : Nat) {x y : Str} {a b : Expr} {px py pt : Pos} {kt k2 pt2} (hc : X.calm = true) (hN : X.N.Nodup) (hi : X.N[i]? = some x) (hj : X.N[j]? = some y) (hij : i ≠ j) (hx : X.env.scope.names.lookup x = some .local) (hy : X.env.scope.names.lookup y = some .local)
    (hw : swappedStores [.Tuple [.Name x px, .Name y py] kt pt] (.Tuple [a, b] k2 pt2) X.env = pure (some [x, y])) (hs : swapsWithSole [.Tuple [.Name x px, .Name y py] kt pt] (.Tuple [a, b] k2 pt2) pos.line X.env = pure false)
    (h : WpA X M [a, b] sl fun M1 ts => ∃ t u, ts = [t, u] ∧ D.nx M1 ((sl.set i (some t)).set j (some u))) : WpS X M (.Assign [.Tuple [.Name x px, .Name y py] kt pt] (.Tuple [a, b] k2 pt2) pos) sl D :=
  wps_of (ps_par hc hN hi hj hij hx hy pa_tW hw hs) fun σ H E o s e => h σ H _ o s fun vs H1 M1 ts f1 o1 r1 ⟨t, u, ht, k1⟩ => by
    subst ht
    obtain ⟨v, w, rfl, rv, rw⟩ := Rds.two_iff r1
    exact ⟨v, w, rfl, e.step f1 o1 (((f1.sld s).set rv).set rw) k1⟩
theorem wps_par3 (i j l : Nat) {x y z : Str} {a b c : Expr} {px py pz pt : Pos} {kt k2 pt2} (hc : X.calm = true) (hN : X.N.Nodup) (hi : X.N[i]? = some x) (hj : X.N[j]? = some y) (hl : X.N[l]? = some z) (hij : i ≠ j) (hil : i ≠ l) (hjl : j ≠ l)
    (hx : X.env.scope.names.lookup x = some .local) (hy : X.env.scope.names.lookup y = some .local) (hz : X.env.scope.names.lookup z = some .local)
    (hw : swappedStores [.Tuple [.Name x px, .Name y py, .Name z pz] kt pt] (.Tuple [a, b, c] k2 pt2) X.env = pure (some [x, y, z])) (hs : swapsWithSole [.Tuple [.Name x px, .Name y py, .Name z pz] kt pt] (.Tuple [a, b, c] k2 pt2) pos.line X.env = pure false)
    (h : WpA X M [a, b, c] sl fun M1 ts => ∃ t u v, ts = [t, u, v] ∧ D.nx M1 (((sl.set i (some t)).set j (some u)).set l (some v))) : WpS X M (.Assign [.Tuple [.Name x px, .Name y py, .Name z pz] kt pt] (.Tuple [a, b, c] k2 pt2) pos) sl D :=
  wps_of (ps_par3 hc hN hi hj hl hij hil hjl hx hy hz pa_tW hw hs) fun σ H E o s e => h σ H _ o s fun vs H1 M1 ts f1 o1 r1 ⟨t, u, v, ht, k1⟩ => by
    subst ht
    obtain ⟨v1, r, rfl, rv, rr⟩ := Rds.cons_iff.mp r1
    obtain ⟨v2, v3, rfl, r2, r3⟩ := Rds.two_iff rr
    exact ⟨v1, v2, v3, rfl, e.step f1 o1 ((((f1.sld s).set rv).set r2).set r3) k1⟩
/-- .. two new lists, both one's own -/
theorem wps_par_own (i j : Nat) {x y : Str} {a b : Expr} {px py pt : Pos} {kt k2 pt2} (hc : X.calm = true) (hN : X.N.Nodup) (hi : X.N[i]? = some x) (hj : X.N[j]? = some y) (hij : i ≠ j) (hx : X.env.scope.names.lookup x = some .local) (hy : X.env.scope.names.lookup y = some .local)
    (hw : swappedStores [.Tuple [.Name x px, .Name y py] kt pt] (.Tuple [a, b] k2 pt2) X.env = pure (some [x, y])) (hs : swapsWithSole [.Tuple [.Name x px, .Name y py] kt pt] (.Tuple [a, b] k2 pt2) pos.line X.env = pure false)
    (he : starEach [a, b] X.env = (false, eval a X.env) :: starEach [b] X.env) (he2 : starEach [b] X.env = (false, eval b X.env) :: starEach [] X.env)
    (h : WpN X M a sl fun M1 ts => ∀ p, WpN X (M1.push p (.lst ts)) b sl fun M2 us => ∀ q, D.nx (M2.push q (.lst us)) ((sl.set i (some (.ptr p))).set j (some (.ptr q)))) : WpS X M (.Assign [.Tuple [.Name x px, .Name y py] kt pt] (.Tuple [a, b] k2 pt2) pos) sl D :=
  wps_of (ps_par hc hN hi hj hij hx hy (pa_cons pe_tW (pa_cons pe_tW pa_nil he2) he) hw hs) fun σ H E o s e => h σ H _ o s fun p H1 M1 ts vs f1 o1 hp r1 k1 => by
    obtain ⟨o2, f2⟩ := o1.push hp r1
    refine k1 p σ _ _ o2 ((f1.trans f2).sld s) fun q H3 M3 us ws f3 o3 hq r3 k3 => ?_
    obtain ⟨o4, f4⟩ := o3.push hq r3
    exact ⟨_, _, rfl, e.step (((f1.trans f2).trans f3).trans f4) o4 ((((((f1.trans f2).trans f3).trans f4).sld s).set (Rd.ptr_iff.mpr rfl)).set (Rd.ptr_iff.mpr rfl)) (k3 q)⟩
/-- an own list is no longer changed: from here on it is a thing -/
theorem wpb_close (i : Nat) {p : Addr} {ts : List T} {r : List (Addr × Own)} {sts : List Stmt} (hi : sl[i]? = some (some (.ptr p))) (ho : M.os = (p, .lst ts) :: r) (h : WpB X ⟨M.Z0, M.H0, r⟩ sts (sl.set i (some (.lst ts))) D) : WpB X M sts sl D := fun σ H E o s e => by
  obtain ⟨o1, f1, r1⟩ := o.close ho
  have ed : M.drop = ⟨M.Z0, M.H0, r⟩ := by
    unfold Mo.drop
    rw [ho] <;> rfl
  rw [ed] at o1 f1 r1
  refine h σ H E o1 ?_ (e.fr f1)
  obtain ⟨v, hv, rv⟩ := s.at_ i _ hi
  have := Rd.ptr_iff.mp rv
  subst this
  have q := (f1.sld s).set (i := i) (v := .ref p) r1
  have es : σ.set i (some (V.ref p)) = σ := by
    apply List.ext_getElem?
    intro n
    by_cases hn : i = n
    · subst hn
      rw [List.getElem?_set_self (List.getElem?_eq_some_iff.mp hv).1, hv]
    · rw [List.getElem?_set_ne hn]
  rw [es] at q
  exact q
/-- the box, opened and shut -/
theorem wpb_openTin {j : Nat} {a : Addr} {n : Nat} {sts : List Stmt} (ho : M.os[j]? = some (a, .tin n)) (h : ∀ x b c, TinOk n x b c → WpB X (M.put j (.lst [.int x, .int b, .int c])) sts sl D) : WpB X M sts sl D := fun σ H E o s e => by
  obtain ⟨_, _, x, b, c, ha, ht⟩ := o.at_ ho
  obtain ⟨o1, f1⟩ := o.say ho (o := .lst [.int x, .int b, .int c]) ⟨_, ha, Rds.ofInts [x, b, c]⟩
  exact h x b c ht σ H E o1 (f1.sld s) (e.fr f1)
theorem wpb_shutTin {j : Nat} {a : Addr} {n : Nat} {x b c : Int} {sts : List Stmt} (ho : M.os[j]? = some (a, .lst [.int x, .int b, .int c])) (ht : TinOk n x b c) (h : WpB X (M.put j (.tin n)) sts sl D) : WpB X M sts sl D := fun σ H E o s e => by
  obtain ⟨_, _, vs, ha, hr⟩ := o.at_ ho
  have := Rds.ints (ns := [x, b, c]) hr
  subst this
  obtain ⟨o1, f1⟩ := o.say ho (o := .tin n) ⟨x, b, c, ha, ht⟩
  exact h σ H E o1 (f1.sld s) (e.fr f1)
/-- one's own list read: an item, its length -/
theorem idx_own {j : Nat} {p : Addr} {ts : List T} {i : Int} {t : T} (ho : M.os[j]? = some (p, .lst ts)) (h0 : 0 ≤ i) (ht : ts[i.toNat]? = some t) (q : k M t) : Idx X M (.ptr p) (.int i) k := fun x y H Q o ra rb e => by
  obtain ⟨_, _, vs, ha, hr⟩ := o.at_ ho
  have := Rd.ptr_iff.mp ra
  subst this
  have := Rd.int_iff.mp rb
  subst this
  obtain ⟨v, hv, r⟩ := hr.get ht
  exact iW_of ix_list ⟨p, vs, i, v, rfl, rfl, SqL.of ha, atI_int h0 hv, e.here o r q⟩
theorem cal_lenO {j : Nat} {p : Addr} {ts : List T} (ho : M.os[j]? = some (p, .lst ts)) (q : k M (.int (ts.length : Int))) : Cal X (.builtin "len") M [.ptr p] k :=
  cal_of call_len_seq fun vs H Q o r e => by
    obtain ⟨_, _, vs, ha, hr⟩ := o.at_ ho
    obtain ⟨v, rfl, h⟩ := Rds.one_iff r
    have := Rd.ptr_iff.mp h
    subst this
    refine ⟨p, vs, rfl, .inl (SqL.of ha), ?_⟩
    rw [hr.length]
    exact e.here o (Rd.int_iff.mpr rfl) q
/-- xs.append(e), xs one's own -/
theorem wps_append (i j : Nat) {x : Str} {a : Expr} {p : Addr} {p1 p2 p3 : Pos} (hsl : sl[i]? = some (some (.ptr p))) (hN : X.N[i]? = some x) (hv : Vis X.env.scope x) {w : Own} (hw : M.os[j]? = some (p, w))
    (hbase : attributeBase (.Name x p1) "append" X.env (eval (.Name x p1) X.env) = eval (.Name x p1) X.env)
    (hfew : ((backTo p3 (starEach [a] X.env)).all (fun x => !x.1) && (backToKw p3 (keywordEach [] X.env)).all (fun x => x.1.isSome) && decide ([a].length + ([] : List Keyword).length + (if ([] : List Keyword).isEmpty then 0 else 1) < 30)) = true)
    (hline : (p2.endLine == p3.line) = true) (he : starEach [a] X.env = (false, eval a X.env) :: starEach [] X.env) (hs : swapsWith (.Call (.Attribute (.Name x p1) "append" p2) [a] [] p3) none pos.line X.env = pure false)
    (h : Wp X M a sl fun M1 t => ∃ ts, M1.os[j]? = some (p, .lst ts) ∧ ts.length < 100000 ∧ D.nx (M1.put j (.lst (ts ++ [t]))) sl)
    (hd : (x == ("__debug__" : Str)) = false := by decide) (hcd : (x == ("__classdict__" : Str)) = false := by decide) :
    WpS X M (.Expr (.Call (.Attribute (.Name x p1) "append" p2) [a] [] p3) pos) sl D :=
  wps_of (ps_expr (pe_bm PySem.F.plainAttrs_list PySem.F.slot_list_append PySem.F.type_list_append mt_append (pe_var hN hv hd hcd) (pa_cons pe_tW pa_nil he) hbase hfew hline he rfl) hs) fun σ H E o s e => by
    obtain ⟨v, hv, rv⟩ := s.at_ i _ hsl
    have := Rd.ptr_iff.mp rv
    subst this
    obtain ⟨_, _, ow⟩ := o.at_ hw
    obtain ⟨vs0, e0⟩ := ow.some
    refine ⟨.ref p, hv, .inl ⟨rfl, vs0, SqL.of e0⟩, h σ H _ o s fun u H1 M1 t f1 o1 r1 ⟨ts, ho, hz, k1⟩ => ?_⟩
    obtain ⟨_, _, vs, ha, hr⟩ := o1.at_ ho
    obtain ⟨o2, f2⟩ := o1.write ho (x := .lst (vs ++ [u])) (o := .lst (ts ++ [t])) ⟨_, upd_same, by
      have zp := (o1.at_ ho).1
      have f : Fk M1.Z H1 M1.Z (L2.upd H1 p (.lst (vs ++ [u]))) := ⟨fun b w nb hb => ⟨by
        have : b ≠ p := fun e => nb (e ▸ zp)
        rw [upd_ne this]
        exact hb, nb⟩⟩
      exact Rds.mono f _ _ (hr.append (Rds.one r1))⟩
    exact ⟨p, vs, u, rfl, rfl, ha, by rw [hr.length]; exact lt_line hz, e.step (f1.trans f2) o2 ((f1.trans f2).sld s) k1⟩
theorem own_write {M1 : Mo} {H1 : Hp} {j : Nat} {p : Addr} {w : Own} {ts : List T} {vs : List V} (o1 : M1.Ok H1) (ho : M1.os[j]? = some (p, w)) (r : Rds M1.Z H1 ts vs) : (M1.put j (.lst ts)).Ok (L2.upd H1 p (.lst vs)) ∧ Fr M1 H1 (M1.put j (.lst ts)) (L2.upd H1 p (.lst vs)) :=
  o1.write ho (x := .lst vs) (o := .lst ts) ⟨_, upd_same, by
    have zp := (o1.at_ ho).1
    have f : Fk M1.Z H1 M1.Z (L2.upd H1 p (.lst vs)) := ⟨fun b w nb hb => ⟨by
      have : b ≠ p := fun e => nb (e ▸ zp)
      rw [upd_ne this]
      exact hb, nb⟩⟩
    exact Rds.mono f _ _ r⟩
/-- xs.extend(e) -/
theorem wps_extend (i j : Nat) {x : Str} {a : Expr} {p : Addr} {p1 p2 p3 : Pos} (hsl : sl[i]? = some (some (.ptr p))) (hN : X.N[i]? = some x) (hv : Vis X.env.scope x) {w : Own} (hw : M.os[j]? = some (p, w))
    (hbase : attributeBase (.Name x p1) "extend" X.env (eval (.Name x p1) X.env) = eval (.Name x p1) X.env)
    (hfew : ((backTo p3 (starEach [a] X.env)).all (fun x => !x.1) && (backToKw p3 (keywordEach [] X.env)).all (fun x => x.1.isSome) && decide ([a].length + ([] : List Keyword).length + (if ([] : List Keyword).isEmpty then 0 else 1) < 30)) = true)
    (hline : (p2.endLine == p3.line) = true) (he : starEach [a] X.env = (false, eval a X.env) :: starEach [] X.env) (hs : swapsWith (.Call (.Attribute (.Name x p1) "extend" p2) [a] [] p3) none pos.line X.env = pure false)
    (h : Wp X M a sl fun M1 t => ∃ ts us, t = .lst us ∧ M1.os[j]? = some (p, .lst ts) ∧ ts.length + us.length ≤ 100000 ∧ D.nx (M1.put j (.lst (ts ++ us))) sl)
    (hd : (x == ("__debug__" : Str)) = false := by decide) (hcd : (x == ("__classdict__" : Str)) = false := by decide) :
    WpS X M (.Expr (.Call (.Attribute (.Name x p1) "extend" p2) [a] [] p3) pos) sl D :=
  wps_of (ps_expr (pe_bm PySem.F.plainAttrs_list PySem.F.slot_list_extend PySem.F.type_list_extend mt_extend (pe_var hN hv hd hcd) (pa_cons pe_tW pa_nil he) hbase hfew hline he rfl) hs) fun σ H E o s e => by
    obtain ⟨v, hv, rv⟩ := s.at_ i _ hsl
    have := Rd.ptr_iff.mp rv
    subst this
    obtain ⟨_, _, ow⟩ := o.at_ hw
    obtain ⟨vs0, e0⟩ := ow.some
    refine ⟨.ref p, hv, .inl ⟨rfl, vs0, SqL.of e0⟩, h σ H _ o s fun u H1 M1 t f1 o1 r1 ⟨ts, us, ht, ho, hz, k1⟩ => ?_⟩
    subst ht
    obtain ⟨_, _, vs, ha, hr⟩ := o1.at_ ho
    obtain ⟨b, ws, rfl, zb, hb, hrb⟩ := Rd.lst_iff.mp r1
    obtain ⟨o2, f2⟩ := own_write o1 ho (hr.append hrb)
    exact ⟨p, b, vs, ws, rfl, rfl, ha, hb, by rw [hr.length, hrb.length]; exact le_line hz, e.step (f1.trans f2) o2 ((f1.trans f2).sld s) k1⟩
/-- xs.pop(e) -/
theorem wp_pop (i j : Nat) {x : Str} {a : Expr} {p : Addr} {p1 p2 p3 : Pos} (hsl : sl[i]? = some (some (.ptr p))) (hN : X.N[i]? = some x) (hv : Vis X.env.scope x) {w : Own} (hw : M.os[j]? = some (p, w))
    (hbase : attributeBase (.Name x p1) "pop" X.env (eval (.Name x p1) X.env) = eval (.Name x p1) X.env)
    (hfew : ((backTo p3 (starEach [a] X.env)).all (fun x => !x.1) && (backToKw p3 (keywordEach [] X.env)).all (fun x => x.1.isSome) && decide ([a].length + ([] : List Keyword).length + (if ([] : List Keyword).isEmpty then 0 else 1) < 30)) = true)
    (hline : (p2.endLine == p3.line) = true) (he : starEach [a] X.env = (false, eval a X.env) :: starEach [] X.env)
    (h : Wp X M a sl fun M1 t => ∃ ts n u, t = .int n ∧ M1.os[j]? = some (p, .lst ts) ∧ 0 ≤ n ∧ n < 100000 ∧ ts[n.toNat]? = some u ∧ k (M1.put j (.lst (ts.eraseIdx n.toNat))) u)
    (hd : (x == ("__debug__" : Str)) = false := by decide) (hcd : (x == ("__classdict__" : Str)) = false := by decide) :
    Wp X M (.Call (.Attribute (.Name x p1) "pop" p2) [a] [] p3) sl k :=
  wp_of (pe_bm PySem.F.plainAttrs_list PySem.F.slot_list_pop PySem.F.type_list_pop mt_popAt (pe_var hN hv hd hcd) (pa_cons pe_tW pa_nil he) hbase hfew hline he rfl) fun σ H Q o s e => by
    obtain ⟨v, hv, rv⟩ := s.at_ i _ hsl
    have := Rd.ptr_iff.mp rv
    subst this
    obtain ⟨_, _, ow⟩ := o.at_ hw
    obtain ⟨vs0, e0⟩ := ow.some
    refine ⟨.ref p, hv, .inl ⟨rfl, vs0, SqL.of e0⟩, h σ H _ o s fun u H1 M1 t f1 o1 r1 ⟨ts, n, y, ht, ho, h0, h1, hy, k1⟩ => ?_⟩
    subst ht
    have := Rd.int_iff.mp r1
    subst this
    obtain ⟨_, _, vs, ha, hr⟩ := o1.at_ ho
    obtain ⟨o2, f2⟩ := own_write o1 ho (hr.eraseIdx n.toNat)
    obtain ⟨vy, hvy, ry⟩ := hr.get hy
    have hlt : n.toNat < vs.length := (List.getElem?_eq_some_iff.mp hvy).1
    exact ⟨p, vs, n, n.toNat, vy, rfl, rfl, ha, by omega, by omega, seqIndex_of h0 (by omega), hvy, e vy _ _ y (f1.trans f2) o2 (f2.rd ry) k1⟩
/-- xs[i] = e -/
theorem wps_setItem (i j : Nat) {x : Str} {a b : Expr} {p : Addr} {p1 p2 : Pos} (hsl : sl[i]? = some (some (.ptr p))) (hN : X.N[i]? = some x) (hv : Vis X.env.scope x)
    (ha : ∀ v, assign (.Subscript (.Name x p1) b p2) X.env v = (do
      let ov ← holding [v] (eval (.Name x p1) X.env)
      let iv ← holding [v, ov] (eval b X.env)
      standAt p2
      holding [v, ov, iv] (setItem ov iv v)
      release [v, ov, iv] []))
    (hs : swapsWithSole [.Subscript (.Name x p1) b p2] a pos.line X.env = pure false) (hw : swappedStores [.Subscript (.Name x p1) b p2] a X.env = pure none) (h1 : (assignEach [.Subscript (.Name x p1) b p2] X.env).map (·.2) = [assign (.Subscript (.Name x p1) b p2) X.env])
    (h : Wp X M a sl fun M1 t => Wp X M1 b sl fun M2 u => ∃ ts n, u = .int n ∧ M2.os[j]? = some (p, .lst ts) ∧ 0 ≤ n ∧ n < ts.length ∧ D.nx (M2.put j (.lst (ts.set n.toNat t))) sl)
    (hd : (x == ("__debug__" : Str)) = false := by decide) (hcd : (x == ("__classdict__" : Str)) = false := by decide) :
    WpS X M (.Assign [.Subscript (.Name x p1) b p2] a pos) sl D :=
  wps_of (ps_asg pe_tW (pg_sub (pe_var hN hv hd hcd) pe_tW set_list ha) hs hw h1) fun σ H E o s e => h σ H _ o s fun v H1 M1 t f1 o1 r1 k1 => by
    obtain ⟨v0, hv0, rv⟩ := s.at_ i _ hsl
    have := Rd.ptr_iff.mp rv
    subst this
    refine ⟨.ref p, hv0, k1 σ H1 _ o1 (f1.sld s) fun u H2 M2 t2 f2 o2 r2 ⟨ts, n, ht, ho, h0, hn, k2⟩ => ?_⟩
    subst ht
    have := Rd.int_iff.mp r2
    subst this
    obtain ⟨_, _, vs, ha, hr⟩ := o2.at_ ho
    obtain ⟨o3, f3⟩ := own_write o2 ho (hr.set n.toNat (f2.rd r1))
    refine ⟨p, vs, n, n.toNat, rfl, rfl, ha, ?_, e.step ((f1.trans f2).trans f3) o3 (((f1.trans f2).trans f3).sld s) k2⟩
    have hl := hr.length
    unfold ixN
    rw [if_pos h0, if_pos (by omega)]
end
end K3

set_option Elab.async false
set_option linter.all false
set_option maxRecDepth 100000
set_option maxHeartbeats 4000000
set_option autoImplicit false
namespace K3
open PySem PySem.Spec PyProof.Rows L2 RZ
/-! ### what is walked -/
/-- J yields ts, while P stands -/
structure Src (J : It) (ts : List T) (P : (Addr → Prop) → Hp → Prop) : Prop where
  stay : ∀ {Z H Z' H'}, Fk Z H Z' H' → P Z H → P Z' H'
  go : ∀ {Z H i}, P Z H → i < ts.length → J.go i H
  stop : ∀ {Z H i}, P Z H → i = ts.length → J.stop i H
  yld : ∀ {M : Mo} {H i x H'}, M.Ok H → P M.Z H → i < ts.length → J.yld i H x H' → ∃ t, ts[i]? = some t ∧ Same H H' ∧ Rd M.Z H' t x
def tWI (X : Cx) (tg iter : Expr) : TI := fun σ H R => ∀ pins s, Inv X pins σ H s → wpAny (model X.prog X.w) X.A (eval iter X.env) (fun v s1 => wpAny (model X.prog X.w) X.A (pyIter v) (PIE X pins σ tg R) X.xe s1) X.xe s
def EndI (M : Mo) (H : Hp) (k : Mo → List T → Prop) (R : It → Hp → Prop) : Prop := ∀ J H1 M1 ts P, Fr M H M1 H1 → M1.Ok H1 → Src J ts P → P M1.Z H1 → k M1 ts → R J H1
def WpI (X : Cx) (M : Mo) (tg iter : Expr) (sl : Sl) (k : Mo → List T → Prop) : Prop := ∀ σ H R, M.Ok H → Sld M.Z H σ sl → EndI M H k R → tWI X tg iter σ H R
def LstAt (a : Addr) (ts : List T) (vs : List V) (Z : Addr → Prop) (H : Hp) : Prop := ¬ Z a ∧ H a = some (.lst vs) ∧ Rds Z H ts vs
def TupAt (a : Addr) (ts : List T) (vs : List V) (Z : Addr → Prop) (H : Hp) : Prop := ¬ Z a ∧ H a = some (.tup vs) ∧ Rds Z H ts vs
theorem LstAt.stay {a : Addr} {ts : List T} {vs : List V} {Z H Z' H'} (f : Fk Z H Z' H') (p : LstAt a ts vs Z H) : LstAt a ts vs Z' H' := by
  obtain ⟨z, h, r⟩ := p
  obtain ⟨h', z'⟩ := f.kept _ _ z h
  exact ⟨z', h', Rds.mono f ts vs r⟩
theorem TupAt.stay {a : Addr} {ts : List T} {vs : List V} {Z H Z' H'} (f : Fk Z H Z' H') (p : TupAt a ts vs Z H) : TupAt a ts vs Z' H' := by
  obtain ⟨z, h, r⟩ := p
  obtain ⟨h', z'⟩ := f.kept _ _ z h
  exact ⟨z', h', Rds.mono f ts vs r⟩
theorem Rds.ix {Z : Addr → Prop} {H : Hp} {ts : List T} {vs : List V} {i : Nat} (r : Rds Z H ts vs) (hi : i < ts.length) : ∃ t v, ts[i]? = some t ∧ vs[i]? = some v ∧ Rd Z H t v := by
  obtain ⟨v, hv, h⟩ := r.get (i := i) (t := ts[i]) (List.getElem?_eq_getElem hi)
  exact ⟨_, v, List.getElem?_eq_getElem hi, hv, h⟩
theorem src_list {K : PySem.W.Frag} {a : Addr} {ts : List T} {vs : List V} : Src (Itl K a) ts (LstAt a ts vs) where
  stay := LstAt.stay
  go := fun ⟨z, h, r⟩ hi => by
    obtain ⟨t, v, _, hv, _⟩ := r.ix hi
    exact ⟨vs, v, SqL.of h, hv⟩
  stop := fun ⟨z, h, r⟩ hie => have hi := Nat.le_of_eq (Eq.symm hie); ⟨vs, SqL.of h, by rw [r.length]; exact hi⟩
  yld := fun o ⟨z, h, r⟩ hi y => by
    obtain ⟨e, y⟩ := y
    subst e
    obtain ⟨t, v, ht, hv, hr⟩ := r.ix hi
    have := y _ (SqL.of h)
    rw [hv] at this
    cases this
    exact ⟨t, ht, Same.refl _, hr⟩
theorem src_tup {K : PySem.W.Frag} {a : Addr} {ts : List T} {vs : List V} : Src (Itt K a) ts (TupAt a ts vs) where
  stay := TupAt.stay
  go := fun ⟨z, h, r⟩ hi => by
    obtain ⟨t, v, _, hv, _⟩ := r.ix hi
    exact ⟨vs, v, SqT.of h, hv⟩
  stop := fun ⟨z, h, r⟩ hie => have hi := Nat.le_of_eq (Eq.symm hie); ⟨vs, SqT.of h, by rw [r.length]; exact hi⟩
  yld := fun o ⟨z, h, r⟩ hi y => by
    obtain ⟨e, y⟩ := y
    subst e
    obtain ⟨t, v, ht, hv, hr⟩ := r.ix hi
    have := y _ (SqT.of h)
    rw [hv] at this
    cases this
    exact ⟨t, ht, Same.refl _, hr⟩
def rng (n : Nat) : List Int := (List.range n).map fun (i : Nat) => ((i : Nat) : Int)
theorem rng_len (n : Nat) : (rng n).length = n := by unfold rng; rw [List.length_map, List.length_range]
theorem rng_get {n i : Nat} (h : i < n) : (rng n)[i]? = some (i : Int) := by
  unfold rng
  rw [List.getElem?_map, List.getElem?_range h]
  rfl
theorem rng_mem {n : Nat} {i : Int} : i ∈ rng n ↔ 0 ≤ i ∧ i < n := by
  unfold rng
  rw [List.mem_map]
  constructor
  · rintro ⟨j, hj, rfl⟩
    have := List.mem_range.mp hj
    omega
  · rintro ⟨h0, h1⟩
    exact ⟨i.toNat, List.mem_range.mpr (by omega), by omega⟩
theorem src_range {n : Nat} : Src (Itr 0 n) ((rng n).map T.int) (fun _ _ => True) where
  stay := fun _ h => h
  go := fun _ hi => by
    rw [List.length_map, rng_len] at hi
    exact hi
  stop := fun _ hie => have hi := Nat.le_of_eq (Eq.symm hie); by
    rw [List.length_map, rng_len] at hi
    exact hi
  yld := fun o _ hi y => by
    obtain ⟨e, rfl⟩ := y
    subst e
    rw [List.length_map, rng_len] at hi
    refine ⟨.int _, by rw [List.getElem?_map, rng_get hi]; rfl, Same.refl _, Rd.int_iff.mpr ?_⟩
    rw [Int.zero_add]
def signs (x : Str) : List T := x.cps.toList.map fun c => T.str ⟨#[c]⟩
theorem src_str {x : Str} : Src (Its x) (signs x) (fun _ _ => True) where
  stay := fun _ h => h
  go := fun _ hi => by
    unfold signs at hi
    rw [List.length_map, Array.length_toList] at hi
    exact hi
  stop := fun _ hie => have hi := Nat.le_of_eq (Eq.symm hie); by
    unfold signs at hi
    rw [List.length_map, Array.length_toList] at hi
    exact hi
  yld := fun o _ hi y => by
    obtain ⟨e, c, hc, rfl⟩ := y
    subst e
    refine ⟨.str ⟨#[c]⟩, ?_, Same.refl _, Rd.str_iff.mpr rfl⟩
    unfold signs
    rw [List.getElem?_map, Array.getElem?_toList, hc]
    rfl
section
variable {X : Cx} {M : Mo} {sl : Sl} {k : KT} {ki : Mo → List T → Prop} {pos : Pos} {tg : Expr}
theorem tWI_of {iter : Expr} {wi : TI} (h : PI X tg iter wi) {σ : L2.St} {H : Hp} {R : It → Hp → Prop} (q : wi σ H R) : tWI X tg iter σ H R := fun pins s I => h.run pins s σ H R I q
theorem pi_tW {iter : Expr} : PI X tg iter (tWI X tg iter) := ⟨fun pins s _ _ _ I h => h pins s I⟩
theorem wpi_lst {e : Expr} (h : Wp X M e sl fun M1 t => ∃ ts, t = .lst ts ∧ ki M1 ts) : WpI X M tg e sl ki := fun σ H R o s e =>
  tWI_of (pi_list pe_tW) (h σ H _ o s fun v H1 M1 t f1 o1 r1 ⟨ts, ht, k1⟩ => by
    subst ht
    obtain ⟨a, vs, rfl, z, hh, r⟩ := Rd.lst_iff.mp r1
    exact ⟨a, rfl, ⟨vs, SqL.of hh⟩, e _ H1 M1 ts _ f1 o1 (src_list (vs := vs)) ⟨z, hh, r⟩ k1⟩)
theorem wpi_tup {e : Expr} (h : Wp X M e sl fun M1 t => ∃ ts, t = .tup ts ∧ ki M1 ts) : WpI X M tg e sl ki := fun σ H R o s e =>
  tWI_of (pi_tup pe_tW) (h σ H _ o s fun v H1 M1 t f1 o1 r1 ⟨ts, ht, k1⟩ => by
    subst ht
    obtain ⟨a, vs, rfl, z, hh, r⟩ := Rd.tup_iff.mp r1
    exact ⟨a, rfl, ⟨vs, SqT.of hh⟩, e _ H1 M1 ts _ f1 o1 (src_tup (vs := vs)) ⟨z, hh, r⟩ k1⟩)
/-- a list or a tuple -/
theorem wpi_sq {e : Expr} (h : Wp X M e sl fun M1 t => ∃ b ts, t = Sq b ts ∧ ki M1 ts) : WpI X M tg e sl ki := fun σ H R o s e' => by
  intro pins s0 I
  refine thn (h σ H (fun v H1 => ∃ a vs Z1 M1 ts, v = .ref a ∧ Fr M H M1 H1 ∧ M1.Ok H1 ∧ Z1 = M1.Z ∧ ki M1 ts ∧ (LstAt a ts vs M1.Z H1 ∨ TupAt a ts vs M1.Z H1)) o s (fun v H1 M1 t f1 o1 r1 ⟨b, ts, ht, k1⟩ => ?_) pins s0 I) fun u s1 ⟨v, H1, I1, rv, a, vs, _, M1, ts, ev, f1, o1, _, k1, q⟩ => ?_
  · subst ht
    cases b with
    | true =>
      obtain ⟨a, vs, rfl, z, hh, r⟩ := Rd.lst_iff.mp r1
      exact ⟨a, vs, _, M1, ts, rfl, f1, o1, rfl, k1, .inl ⟨z, hh, r⟩⟩
    | false =>
      obtain ⟨a, vs, rfl, z, hh, r⟩ := Rd.tup_iff.mp r1
      exact ⟨a, vs, _, M1, ts, rfl, f1, o1, rfl, k1, .inr ⟨z, hh, r⟩⟩
  · subst ev
    obtain rfl : u = Value.ref a := rv
    rcases q with q | q
    · obtain ⟨its, rvs, p, hz⟩ := I1.list (SqL.of q.2.1)
      refine wpAny_pyIter_list p.isList ?_
      refine ⟨s1.heap.objs.size, [s1.heap.objs.size], _, _, H1, rfl, I1.kept (t' := s1.toks) fun b o e => Heap.get?_push_of_some _ e, turn_list a _, ⟨_, Heap.get?_push_size _ rfl, rfl, rfl⟩, fun b hb => ?_, e' _ H1 M1 ts _ f1 o1 (src_list (vs := vs)) q k1⟩
      have e : b = s1.heap.objs.size := by simpa using hb
      subst e
      exact I1.fpOk (Nat.le_refl _) (I1.hok.fresh (Nat.le_refl _))
    · obtain ⟨its, rvs, p, hz⟩ := I1.tuple (SqT.of q.2.1)
      refine wpAny_pyIter_tuple (show s1.heap.IsTuple a its.toArray from p) ?_
      refine ⟨s1.heap.objs.size, [s1.heap.objs.size], _, _, H1, rfl, I1.kept (t' := s1.toks) fun b o e => Heap.get?_push_of_some _ e, turn_tuple a _, ⟨_, Heap.get?_push_size _ rfl, rfl, rfl⟩, fun b hb => ?_, e' _ H1 M1 ts _ f1 o1 (src_tup (vs := vs)) q k1⟩
      have e : b = s1.heap.objs.size := by simpa using hb
      subst e
      exact I1.fpOk (Nat.le_refl _) (I1.hok.fresh (Nat.le_refl _))
theorem wpi_str {e : Expr} (h : Wp X M e sl fun M1 t => ∃ x, t = .str x ∧ ki M1 (signs x)) : WpI X M tg e sl ki := fun σ H R o s e =>
  tWI_of (pi_str pe_tW) (h σ H _ o s fun v H1 M1 t f1 o1 r1 ⟨x, ht, k1⟩ => by
    subst ht
    exact ⟨x, Rd.str_iff.mp r1, e _ H1 M1 _ _ f1 o1 src_str trivial k1⟩)
theorem wpi_range {e : Expr} {p : Pos} (hm : X.mg "range" = none) (hg : Gl X "range") (hs : starEach [e] X.env = [(false, eval e X.env)]) (h : Wp X M e sl fun M1 t => ∃ n : Nat, t = .int n ∧ n ≤ 100000 ∧ ki M1 ((rng n).map T.int)) : WpI X M tg (.Call (.Name "range" p) [e] [] pos) sl ki := fun σ H R o s e =>
  tWI_of (pi_range1 hg hm (pa_cons pe_tW pa_nil hs) hs) (h σ H _ o s fun v H1 M1 t f1 o1 r1 ⟨n, ht, hn, k1⟩ => by
    subst ht
    refine ⟨(n : Int), by rw [Rd.int_iff.mp r1], by omega, by omega, ?_⟩
    have e1 : ((n : Int)).toNat = n := by omega
    rw [e1]
    exact e _ H1 M1 _ _ f1 o1 src_range trivial k1)
/-! zip: two lists or two tuples -/
def zipT : List T → List T → List T
  | t :: ts, u :: us => .tup [t, u] :: zipT ts us
  | _, _ => []
theorem zipT_len : ∀ ts us : List T, (zipT ts us).length = min ts.length us.length
  | [], us => by cases us <;> rfl
  | t :: ts, [] => rfl
  | t :: ts, u :: us => by
    show (zipT ts us).length + 1 = _
    rw [zipT_len ts us]
    simp only [List.length_cons]
    omega
theorem zipT_get : ∀ {ts us : List T} {i : Nat} {t u : T}, ts[i]? = some t → us[i]? = some u → (zipT ts us)[i]? = some (.tup [t, u])
  | [], us, i, t, u, h, _ => by simp at h
  | t :: ts, [], i, _, u, _, h => by simp at h
  | t :: ts, u :: us, 0, _, _, h, g => by
    cases h
    cases g
    rfl
  | t :: ts, u :: us, i + 1, _, _, h, g => zipT_get (ts := ts) (us := us) (i := i) (by simpa using h) (by simpa using g)
theorem src_zipL {K : PySem.W.Frag} {a b : Addr} {ts us : List T} {vs ws : List V} : Src (Itz K a b) (zipT ts us) (fun Z H => LstAt a ts vs Z H ∧ LstAt b us ws Z H) where
  stay := fun f h => ⟨h.1.stay f, h.2.stay f⟩
  go := fun {Z H i} ⟨⟨z, h, r⟩, ⟨z2, h2, r2⟩⟩ hi => by
    rw [zipT_len] at hi
    obtain ⟨t, v, _, hv, _⟩ := r.ix (i := i) (by omega)
    obtain ⟨t2, v2, _, hv2, _⟩ := r2.ix (i := i) (by omega)
    exact ⟨vs, ws, v, v2, SqL.of h, SqL.of h2, hv, hv2⟩
  stop := fun ⟨⟨z, h, r⟩, ⟨z2, h2, r2⟩⟩ hie => have hi := Nat.le_of_eq (Eq.symm hie); by
    rw [zipT_len] at hi
    refine ⟨vs, ws, SqL.of h, SqL.of h2, ?_⟩
    rw [r.length, r2.length]
    omega
  yld := fun {M H i x H'} o ⟨⟨z, h, r⟩, ⟨z2, h2, r2⟩⟩ hi y => by
    rw [zipT_len] at hi
    obtain ⟨t, v, ht, hv, hr⟩ := r.ix (i := i) (by omega)
    obtain ⟨t2, v2, ht2, hv2, hr2⟩ := r2.ix (i := i) (by omega)
    obtain ⟨A, x1, x2, rfl, nA, rfl, y1, y2⟩ := y
    have e1 := y1 _ (SqL.of h)
    rw [hv] at e1
    cases e1
    have e2 := y2 _ (SqL.of h2)
    rw [hv2] at e2
    cases e2
    exact ⟨_, zipT_get ht ht2, same_upd nA, Rd.newT o nA (Rds.cons hr (Rds.one hr2))⟩
theorem src_zipT {K : PySem.W.Frag} {a b : Addr} {ts us : List T} {vs ws : List V} : Src (ItzT K a b) (zipT ts us) (fun Z H => TupAt a ts vs Z H ∧ TupAt b us ws Z H) where
  stay := fun f h => ⟨h.1.stay f, h.2.stay f⟩
  go := fun {Z H i} ⟨⟨z, h, r⟩, ⟨z2, h2, r2⟩⟩ hi => by
    rw [zipT_len] at hi
    obtain ⟨t, v, _, hv, _⟩ := r.ix (i := i) (by omega)
    obtain ⟨t2, v2, _, hv2, _⟩ := r2.ix (i := i) (by omega)
    exact ⟨vs, ws, v, v2, SqT.of h, SqT.of h2, hv, hv2⟩
  stop := fun ⟨⟨z, h, r⟩, ⟨z2, h2, r2⟩⟩ hie => have hi := Nat.le_of_eq (Eq.symm hie); by
    rw [zipT_len] at hi
    refine ⟨vs, ws, SqT.of h, SqT.of h2, ?_⟩
    rw [r.length, r2.length]
    omega
  yld := fun {M H i x H'} o ⟨⟨z, h, r⟩, ⟨z2, h2, r2⟩⟩ hi y => by
    rw [zipT_len] at hi
    obtain ⟨t, v, ht, hv, hr⟩ := r.ix (i := i) (by omega)
    obtain ⟨t2, v2, ht2, hv2, hr2⟩ := r2.ix (i := i) (by omega)
    obtain ⟨A, x1, x2, rfl, nA, rfl, y1, y2⟩ := y
    have e1 := y1 _ (SqT.of h)
    rw [hv] at e1
    cases e1
    have e2 := y2 _ (SqT.of h2)
    rw [hv2] at e2
    cases e2
    exact ⟨_, zipT_get ht ht2, same_upd nA, Rd.newT o nA (Rds.cons hr (Rds.one hr2))⟩
theorem wpi_zip {e e2 : Expr} {p tpos : Pos} {elts : List Expr} {kk : Nat} (hm : X.mg "zip" = none) (hg : Gl X "zip") (hs : starEach [e, e2] X.env = (false, eval e X.env) :: starEach [e2] X.env) (hpl : (backTo pos (starEach [e2] X.env)).any (·.1) = false)
    (h : WpA X M [e, e2] sl fun M1 ts => ∃ b us ws, ts = [Sq b us, Sq b ws] ∧ ki M1 (zipT us ws)) : WpI X M (.Tuple elts kk tpos) (.Call (.Name "zip" p) [e, e2] [] pos) sl ki := fun σ H R o s e =>
  tWI_of (pi_zipA hg hm pa_tW hs hpl) (h σ H _ o s fun vs H1 M1 ts f1 o1 r1 ⟨b, us, ws, ht, k1⟩ => by
    subst ht
    obtain ⟨v, w, rfl, rv, rw⟩ := Rds.two_iff r1
    cases b with
    | true =>
      obtain ⟨a, vs, rfl, z, hh, r⟩ := Rd.lst_iff.mp rv
      obtain ⟨a2, vs2, rfl, z2, hh2, r2⟩ := Rd.lst_iff.mp rw
      exact ⟨a, a2, vs, vs2, rfl, .inl ⟨SqL.of hh, SqL.of hh2, e _ H1 M1 _ _ f1 o1 (src_zipL (vs := vs) (ws := vs2)) ⟨⟨z, hh, r⟩, ⟨z2, hh2, r2⟩⟩ k1⟩⟩
    | false =>
      obtain ⟨a, vs, rfl, z, hh, r⟩ := Rd.tup_iff.mp rv
      obtain ⟨a2, vs2, rfl, z2, hh2, r2⟩ := Rd.tup_iff.mp rw
      exact ⟨a, a2, vs, vs2, rfl, .inr ⟨SqT.of hh, SqT.of hh2, e _ H1 M1 _ _ f1 o1 (src_zipT (vs := vs) (ws := vs2)) ⟨⟨z, hh, r⟩, ⟨z2, hh2, r2⟩⟩ k1⟩⟩)
end
end K3

set_option Elab.async false
set_option linter.all false
set_option maxRecDepth 100000
set_option maxHeartbeats 4000000
set_option autoImplicit false
namespace K3
open PySem PySem.Spec PyProof.Rows L2
/-! ### targets -/
def gW (X : Cx) (tg : Expr) : TG := fun v σ H Q => ∀ pins s u, Inv X pins σ H s → RelV v u → wpAny (model X.prog X.w) X.A (assign tg X.env u) (fun _ s' => ∃ σ' H', Inv X pins σ' H' s' ∧ Q σ' H') X.xe s
theorem pg_tW {X : Cx} {tg : Expr} : PG X tg (gW X tg) := ⟨fun pins s _ _ _ u _ I r h => h pins s u I r⟩
/-- the target takes a thing to these slots, which change at is alone -/
def TgOk (X : Cx) (tg : Expr) (f : Sl → T → Option Sl) (is : List Nat) : Prop := ∀ (M : Mo) (t : T) (v : V) (σ : L2.St) (sl sl' : Sl) (H : Hp) (Q : L2.St → Hp → Prop), M.Ok H → Sld M.Z H σ sl → Rd M.Z H t v → f sl t = some sl' →
  (∀ σ', Sld M.Z H σ' sl' → σ'.length = σ.length → (∀ n, n ∉ is → σ'[n]? = σ[n]?) → Q σ' H) → gW X tg v σ H Q
def fName (i : Nat) : Sl → T → Option Sl := fun sl t => some (sl.set i (some t))
def fPair (i j : Nat) : Sl → T → Option Sl := fun sl t => match t with
  | .tup [a, b] => some ((sl.set i (some a)).set j (some b))
  | _ => none
section
variable {X : Cx} {M : Mo} {sl : Sl} {k : KT} {ki : Mo → List T → Prop} {pos : Pos} {D : DT}
theorem tg_name (i : Nat) {x : Str} (hN : X.N.Nodup) (hi : X.N[i]? = some x) (hx : Loc X.env.scope x) (hf : X.fn x = true ∨ X.env.scope.names.lookup x = some .local) : TgOk X (.Name x pos) (fName i) [i] := fun M t v σ sl sl' H Q o s r e q => by
  cases e
  intro pins s1 u I rv
  exact (pg_name (i := i) (pos := pos) hN hi hx hf).run pins s1 σ H v u Q I rv (q _ (s.set r) (by rw [List.length_set]) fun n hn => by rw [List.getElem?_set_ne (fun e => hn (by simp [e]))])
theorem tg_pair (i j : Nat) {x y : Str} {kk : Nat} {px py : Pos} (hc : X.calm = true) (hN : X.N.Nodup) (hi : X.N[i]? = some x) (hj : X.N[j]? = some y) (hx : Loc X.env.scope x) (hy : Loc X.env.scope y) (hf : X.fn x = true ∨ X.env.scope.names.lookup x = some .local) (hf2 : X.fn y = true ∨ X.env.scope.names.lookup y = some .local) :
    TgOk X (.Tuple [.Name x px, .Name y py] kk pos) (fPair i j) [i, j] := fun M t v σ sl sl' H Q o s r e q => by
  obtain ⟨a, b, rfl, rfl⟩ : ∃ a b, t = .tup [a, b] ∧ sl' = (sl.set i (some a)).set j (some b) := by
    unfold fPair at e
    split at e
    · cases e
      exact ⟨_, _, rfl, rfl⟩
    · cases e
  intro pins s1 u I rv
  refine (pg_tup (pos := pos) (k := kk) hc (pgs_cons (pg_name (i := i) hN hi hx hf) (pgs_cons (pg_name (i := j) hN hj hy hf2) pgs_nil))).run pins s1 σ H v u Q I rv ?_
  obtain ⟨ad, vs, rfl, z, hh, rr⟩ := Rd.tup_iff.mp r
  obtain ⟨w1, w2, rfl, r1, r2⟩ := Rds.two_iff rr
  refine ⟨ad, _, rfl, SqT.of hh, rfl, w1, [w2], rfl, w2, [], rfl, rfl, ?_⟩
  refine q _ ((s.set r1).set r2) (by rw [List.length_set, List.length_set]) fun n hn => ?_
  rw [List.getElem?_set_ne (fun e => hn (by simp [e])), List.getElem?_set_ne (fun e => hn (by simp [e]))]
/-! ### for -/
theorem wps_for {tg iter : Expr} {body : List Stmt} {f : Sl → T → Option Sl} {is : List Nat} (hp : PassesOwn (model X.prog X.w) X.A X.env X.xe) (hc : X.calm = true) (htg : TgOk X tg f is) (hs : ∀ x, foldedSetIterable iter X.env x = pure x)
    (h : WpI X M tg iter sl fun M1 ts => ∃ I : Nat → Mo → Sl → Prop, I 0 M1 sl ∧ (∀ i M2 sl2 t, ts[i]? = some t → I i M2 sl2 → ∃ sl3, f sl2 t = some sl3 ∧ WpB X M2 body sl3 { D with nx := I (i + 1), ct := I (i + 1), bk := D.nx }) ∧ ∀ M2 sl2, I ts.length M2 sl2 → D.nx M2 sl2) :
    WpS X M (.For tg iter body [] pos) sl D :=
  wps_of (ps_for hp hc pi_tW pg_tW pss_tW hs) fun σ H E o s e => h σ H _ o s fun J H1 M1 ts P f1 o1 src p1 ⟨I, i0, step, fin⟩ => by
    refine ⟨fun i m σ' H' => m = ts.length - i ∧ i ≤ ts.length ∧ ∃ M' sl', Fr M H M' H' ∧ M'.Ok H' ∧ P M'.Z H' ∧ Sld M'.Z H' σ' sl' ∧ I i M' sl', ⟨ts.length, by simp, Nat.zero_le _, M1, sl, f1, o1, p1, f1.sld s, i0⟩, ?_⟩
    rintro i m σ' H' ⟨rfl, hi, M', sl', f2, o2, p2, s2, ii⟩
    by_cases hlt : i < ts.length
    · refine .inr ⟨src.go p2 hlt, fun σ3 H3 => ∃ M3 sl3, Fr M H M3 H3 ∧ M3.Ok H3 ∧ P M3.Z H3 ∧ Sld M3.Z H3 σ3 sl3 ∧ I (i + 1) M3 sl3, fun σ3 H3 ⟨M3, sl3, g1, g2, g3, g4, g5⟩ => ⟨ts.length - (i + 1), by omega, rfl, hlt, M3, sl3, g1, g2, g3, g4, g5⟩, fun x H3 y => ?_⟩
      obtain ⟨t, ht, sm, rt⟩ := src.yld o2 p2 hlt y
      obtain ⟨sl3, hf3, wb⟩ := step i M' sl' t ht ii
      have f3 : Fr M' H' M' H3 := Fr.same sm
      have o3 := o2.same sm
      refine htg M' t x σ' sl' sl3 H3 _ o3 (f3.sld s2) rt hf3 fun σ4 s4 _ _ => ?_
      refine wb σ4 H3 _ o3 s4 ⟨fun σ5 H5 M5 sl5 f5 o5 s5 q5 => ⟨M5, sl5, (f2.trans f3).trans f5, o5, src.stay (f3.trans f5).fk p2, s5, q5⟩, e.rt.fr (f2.trans f3), fun σ5 H5 M5 sl5 f5 o5 s5 q5 => e.nx σ5 H5 M5 sl5 ((f2.trans f3).trans f5) o5 s5 q5, fun σ5 H5 M5 sl5 f5 o5 s5 q5 => ⟨M5, sl5, (f2.trans f3).trans f5, o5, src.stay (f3.trans f5).fk p2, s5, q5⟩, fun n d M5 H5 f5 => e.xc n d M5 H5 ((f2.trans f3).trans f5)⟩
    · have ei : i = ts.length := by omega
      subst ei
      exact .inl ⟨src.stop p2 rfl, e.step f2 o2 s2 (fin M' sl' ii)⟩
/-! ### comprehensions -/
/-- within the block of a comprehension -/
def WpX (X : Cx) (scope : Scope) (M : Mo) (e : Expr) (sl : Sl) (k : KT) : Prop := ∀ (s : Shared) (H : Hp) (C : Addr) (cl : List (Str × Addr)) (fp : List Addr), Wp (X.blk s H scope (compEnvC scope cl C X.env) fp) M e sl k
def tWTs (X : Cx) (ifs : List Expr) : TT := fun σ H Q => ∀ pins s, Inv X pins σ H s → wpAny (model X.prog X.w) X.A (forIn ifs true fun c r => if r = true then do let ok ← isTrue c X.env (eval c X.env); pure (ForInStep.yield ok) else pure (ForInStep.yield r)) (TP X pins σ Q) X.xe s
def WpTs (X : Cx) (M : Mo) (ifs : List Expr) (sl : Sl) (k : Mo → Bool → Prop) : Prop := ∀ σ H Q, M.Ok H → Sld M.Z H σ sl → EndB M H k Q → tWTs X ifs σ H Q
theorem wpts_nil {kb : Mo → Bool → Prop} (h : kb M true) : WpTs X M [] sl kb := fun σ H Q o s e pins s1 I => pts_nil.run pins s1 σ H Q I (e.here o h)
theorem wpts_one {c : Expr} {kb : Mo → Bool → Prop} (h : WpT X M c sl kb) : WpTs X M [c] sl kb := fun σ H Q o s e pins s1 I => (pts_one pt_tW).run pins s1 σ H Q I (h σ H Q o s e)
def WpXT (X : Cx) (scope : Scope) (M : Mo) (ifs : List Expr) (sl : Sl) (k : Mo → Bool → Prop) : Prop := ∀ (s : Shared) (H : Hp) (C : Addr) (cl : List (Str × Addr)) (fp : List Addr), WpTs (X.blk s H scope (compEnvC scope cl C X.env) fp) M ifs sl k
theorem wipe_at : ∀ {vs : List Nat} {σ : L2.St} {n : Nat}, n ∈ vs → n < σ.length → (wipe σ vs)[n]? = some none
  | [], σ, n, h, _ => by simp at h
  | v :: vs, σ, n, h, hn => by
    show ((wipe σ vs).set v none)[n]? = _
    by_cases e : v = n
    · subst e
      rw [List.getElem?_set_self (by rw [wipe_length]; exact hn)]
    · rw [List.getElem?_set_ne e]
      exact wipe_at (by rcases List.mem_cons.mp h with h | h; exact absurd h.symm e; exact h) hn
theorem wipe_off : ∀ {vs : List Nat} {σ : L2.St} {n : Nat}, n ∉ vs → (wipe σ vs)[n]? = σ[n]?
  | [], _, _, _ => rfl
  | v :: vs, σ, n, h => by
    show ((wipe σ vs).set v none)[n]? = _
    rw [List.getElem?_set_ne (fun e => h (by simp [e]))]
    exact wipe_off fun m => h (List.mem_cons_of_mem _ m)
theorem wipe_eq {vs : List Nat} {σ σ' : L2.St} (hl : σ'.length = σ.length) (h : ∀ n, n ∉ vs → σ'[n]? = σ[n]?) : wipe σ' vs = wipe σ vs := by
  apply List.ext_getElem?
  intro n
  by_cases m : n ∈ vs
  · by_cases hn : n < σ.length
    · rw [wipe_at m hn, wipe_at m (by rw [hl]; exact hn)]
    · rw [List.getElem?_eq_none (by rw [wipe_length]; omega), List.getElem?_eq_none (by rw [wipe_length]; omega)]
  · rw [wipe_off m, wipe_off m, h n m]
theorem wipe_wipe (σ : L2.St) (vs : List Nat) : wipe (wipe σ vs) vs = wipe σ vs := wipe_eq (wipe_length σ vs) fun n hn => wipe_off hn
/-- what a comprehension's turns are to do: I by the turn, the mode and what is made so far; the new list is one's own within -/
def LcTurns (X : Cx) (scope : Scope) (f : Sl → T → Option Sl) (ifs : List Expr) (elt : Expr) (sl : Sl) (ts : List T) (I : Nat → Mo → List T → Prop) : Prop :=
  ∀ i M2 acc t, ts[i]? = some t → I i M2 acc → ∀ D, ∃ sl3, f sl t = some sl3 ∧ WpXT X scope (M2.push D (.lst acc)) ifs sl3 fun M3 b =>
    if b = true then WpX X scope M3 elt sl3 (fun M4 y => ∃ M5, M4 = M5.push D (.lst acc) ∧ acc.length < 100000 ∧ I (i + 1) M5 (acc ++ [y])) else ∃ M5, M3 = M5.push D (.lst acc) ∧ I (i + 1) M5 acc
theorem push_put {M : Mo} {D : Addr} {o o' : Own} : (M.push D o).put 0 o' = M.push D o' := rfl
theorem lc_reading {tg elt : Expr} {ifs : List Expr} {scope : Scope} {f : Sl → T → Option Sl} {is vs : List Nat} (htg : ∀ (s : Shared) (H : Hp) (C : Addr) (cl : List (Str × Addr)) (fp : List Addr), TgOk (X.blk s H scope (compEnvC scope cl C X.env) fp) tg f is) (hsub : ∀ i ∈ is, i ∈ vs) (hno : ∀ i ∈ vs, sl[i]? = some none ∨ sl[i]? = none)
    {J : It} {ts : List T} {P : (Addr → Prop) → Hp → Prop} {σ : L2.St} {H0 H1 : Hp} {M0 M1 : Mo} {Q : VK} {kn : Mo → List T → Prop} (f01 : Fr M0 H0 M1 H1) (o1 : M1.Ok H1) (src : Src J ts P) (p1 : P M1.Z H1) (s1 : Sld M1.Z H1 σ sl) {I : Nat → Mo → List T → Prop} (i0 : I 0 M1 []) (turns : LcTurns X scope f ifs elt sl ts I)
    (fin : ∀ M2 acc, I ts.length M2 acc → ∀ D H2, (M2.push D (.lst acc)).Ok H2 → Fr M0 H0 (M2.push D (.lst acc)) H2 → Q (.ref D) H2) :
    ∀ D, H1 D = none → ∃ W : Nat → Nat → Hp → Prop, (∃ m, W 0 m (upd H1 D (.lst []))) ∧ ∀ i m H, W i m H →
      (J.stop i H ∧ Q (.ref D) H) ∨ (J.go i H ∧ ∃ Nx : Hp → Prop, (∀ H', Nx H' → ∃ m', m' < m ∧ W (i + 1) m' H') ∧ ∀ x H', J.yld i H x H' →
        (fun (v : V) (σ : L2.St) (H : Hp) (Q : L2.St → Hp → Prop) => ∀ s0 H0 C cl fp, gW (X.blk s0 H0 scope (compEnvC scope cl C X.env) fp) tg v σ H Q) x (wipe σ vs) H' fun σ2 H2 => wipe σ2 vs = wipe σ vs ∧ (fun (σ : L2.St) (H : Hp) (Q : Bool → Hp → Prop) => ∀ s0 H0 C cl fp, tWTs (X.blk s0 H0 scope (compEnvC scope cl C X.env) fp) ifs σ H Q) σ2 H2 fun b H3 =>
          if b = true then (fun (σ : L2.St) (H : Hp) (Q : VK) => ∀ s0 H0 C cl fp, tW (X.blk s0 H0 scope (compEnvC scope cl C X.env) fp) elt σ H Q) σ2 H3 fun y H4 => ∃ acc, H4 D = some (.lst acc) ∧ acc.length < sizeLine ∧ Nx (upd H4 D (.lst (acc ++ [y]))) else Nx H3) := by
  intro D hD
  refine ⟨fun i m H => m = ts.length - i ∧ i ≤ ts.length ∧ ∃ M' acc, Fr M0 H0 (M'.push D (.lst acc)) H ∧ (M'.push D (.lst acc)).Ok H ∧ P (M'.push D (.lst acc)).Z H ∧ Sld (M'.push D (.lst acc)).Z H σ sl ∧ I i M' acc, ?_, ?_⟩
  · obtain ⟨o2, f2⟩ := o1.push hD (Rds.nil (Z := M1.Z) (H := H1))
    exact ⟨ts.length, by simp, Nat.zero_le _, M1, [], f01.trans f2, o2, src.stay f2.fk p1, f2.sld s1, i0⟩
  · rintro i m H ⟨rfl, hi, M', acc, f2, o2, p2, s2, ii⟩
    by_cases hlt : i < ts.length
    · refine .inr ⟨src.go p2 hlt, fun H3 => ∃ M' acc, Fr M0 H0 (M'.push D (.lst acc)) H3 ∧ (M'.push D (.lst acc)).Ok H3 ∧ P (M'.push D (.lst acc)).Z H3 ∧ Sld (M'.push D (.lst acc)).Z H3 σ sl ∧ I (i + 1) M' acc, fun H3 ⟨M3, acc3, g1, g2, g3, g4, g5⟩ => ⟨ts.length - (i + 1), by omega, rfl, hlt, M3, acc3, g1, g2, g3, g4, g5⟩, fun x H3 y => ?_⟩
      obtain ⟨t, ht, sm, rt⟩ := src.yld o2 p2 hlt y
      obtain ⟨sl3, hf3, wt⟩ := turns i M' acc t ht ii D
      have f3 : Fr (M'.push D (.lst acc)) H (M'.push D (.lst acc)) H3 := Fr.same sm
      have o3 := o2.same sm
      have sw : Sld (M'.push D (.lst acc)).Z H3 (wipe σ vs) sl := (f3.sld s2).wipe vs hno
      show ∀ s0 H0 C cl fp, gW (X.blk s0 H0 scope (compEnvC scope cl C X.env) fp) tg x (wipe σ vs) H3 _
      intro a1 a2 a3 a4 a5
      refine htg a1 a2 a3 a4 a5 _ t x (wipe σ vs) sl sl3 H3 _ o3 sw rt hf3 fun σ4 s4 hl4 hn4 => ?_
      refine ⟨(wipe_eq hl4 fun n hn => hn4 n fun h => hn (hsub n h)).trans (wipe_wipe σ vs), ?_⟩
      show ∀ s0 H0 C cl fp, tWTs (X.blk s0 H0 scope (compEnvC scope cl C X.env) fp) ifs σ4 H3 _
      intro b1 b2 b3 b4 b5
      refine wt b1 b2 b3 b4 b5 σ4 H3 _ o3 s4 fun b H5 M5 f5 o5 k5 => ?_
      have f35 := f3.trans f5
      cases b with
      | false =>
        obtain ⟨M6, rfl, i6⟩ := k5
        exact ⟨M6, acc, f2.trans f35, o5, src.stay f35.fk p2, f35.sld s2, i6⟩
      | true =>
        have k5 : WpX X scope M5 elt sl3 (fun M4 y => ∃ M5, M4 = M5.push D (.lst acc) ∧ acc.length < 100000 ∧ I (i + 1) M5 (acc ++ [y])) := k5
        show ∀ s0 H0 C cl fp, tW (X.blk s0 H0 scope (compEnvC scope cl C X.env) fp) elt σ4 H5 _
        intro c1 c2 c3 c4 c5
        refine k5 c1 c2 c3 c4 c5 σ4 H5 _ o5 (f5.sld s4) fun u H6 M6 tu f6 o6 r6 k6 => ?_
        obtain ⟨M7, rfl, hz, i7⟩ := k6
        obtain ⟨_, _, ws, hws, rws⟩ := o6.at_ (j := 0) (p := D) (w := .lst acc) rfl
        obtain ⟨o8, f8⟩ := own_write (j := 0) (p := D) (w := .lst acc) o6 rfl (rws.append (Rds.one r6))
        rw [push_put] at o8 f8
        have f38 := (f35.trans f6).trans f8
        exact ⟨ws, hws, by rw [rws.length]; exact lt_line hz, M7, acc ++ [tu], f2.trans f38, o8, src.stay f38.fk p2, f38.sld s2, i7⟩
    · have ei : i = ts.length := by omega
      subst ei
      exact .inl ⟨src.stop p2 rfl, fin M' acc ii D H o2 f2⟩
theorem wp_lc {tg elt iter : Expr} {ifs : List Expr} {scope : Scope} {own : List (Str × Nat)} {f : Sl → T → Option Sl} {is : List Nat} (hc : X.calm = true) (hN : X.N.Nodup) (ok : BlkOk X.N X.env.scope scope own) (htg : ∀ (s : Shared) (H : Hp) (C : Addr) (cl : List (Str × Addr)) (fp : List Addr), TgOk (X.blk s H scope (compEnvC scope cl C X.env) fp) tg f is)
    (hsub : ∀ i ∈ is, i ∈ own.map (·.2)) (hno : ∀ i ∈ own.map (·.2), sl[i]? = some none ∨ sl[i]? = none) (hs : ∀ x, foldedSetIterable iter X.env x = pure x)
    (h : WpI X M tg iter sl fun M1 ts => ∃ I : Nat → Mo → List T → Prop, I 0 M1 [] ∧ LcTurns X scope f ifs elt sl ts I ∧ ∀ M2 acc, I ts.length M2 acc → k M2 (.lst acc)) : Wp X M (.ListComp elt [⟨tg, iter, ifs, 0⟩] scope pos) sl k :=
  wp_of (pe_lc (own := own) (g := fun v σ H Q => ∀ s0 H0 C cl fp, gW (X.blk s0 H0 scope (compEnvC scope cl C X.env) fp) tg v σ H Q) (tt := fun σ H Q => ∀ s0 H0 C cl fp, tWTs (X.blk s0 H0 scope (compEnvC scope cl C X.env) fp) ifs σ H Q) (te := fun σ H Q => ∀ s0 H0 C cl fp, tW (X.blk s0 H0 scope (compEnvC scope cl C X.env) fp) elt σ H Q)
    hc hN pi_tW ok (fun a b c d e => ⟨fun pins s _ _ _ u _ I r h => h a b c d e pins s u I r⟩) (fun a b c d e => ⟨fun pins s _ _ _ I h => h a b c d e pins s I⟩) (fun a b c d e => ⟨fun pins s _ _ _ I h => h a b c d e pins s I⟩) hs) fun σ H Q o s e =>
    h σ H _ o s fun J H1 M1 ts P f1 o1 src p1 ⟨I, i0, turns, fin⟩ => lc_reading htg hsub hno f1 o1 src p1 (f1.sld s) i0 turns (kn := fun _ _ => True) fun M2 acc ii D H2 o2 f2 => by
      obtain ⟨o3, f3, r3⟩ := o2.close (p := D) (ts := acc) (r := M2.os) rfl
      exact e _ H2 M2 _ (f2.trans f3) o3 r3 (fin M2 acc ii)
/-- .. without a test, whose turns leave all as it is -/
theorem lc_map {scope : Scope} {f : Sl → T → Option Sl} {elt : Expr} {α : Type} (as : List α) (e : α → T) (g : α → T) (M1 : Mo) (hz : as.length ≤ 50000) (h : ∀ a ∈ as, ∃ sl3, f sl (e a) = some sl3 ∧ ∀ M', WpX X scope M' elt sl3 fun M4 y => M4 = M' ∧ y = g a) :
    (fun i M2 acc => M2 = M1 ∧ acc = ((as.take i).map g) : Nat → Mo → List T → Prop) 0 M1 [] ∧ LcTurns X scope f [] elt sl (as.map e) (fun i M2 acc => M2 = M1 ∧ acc = ((as.take i).map g)) := by
  refine ⟨⟨rfl, rfl⟩, fun i M2 acc t ht ⟨e1, e2⟩ D => ?_⟩
  subst e1 e2
  rw [List.getElem?_map] at ht
  obtain ⟨a, ha, rfl⟩ := Option.map_eq_some_iff.mp ht
  obtain ⟨sl3, h3, w3⟩ := h a (List.mem_of_getElem? ha)
  refine ⟨sl3, h3, fun a1 a2 a3 a4 a5 => wpts_nil ?_⟩
  show WpX X scope _ elt sl3 _
  intro b1 b2 b3 b4 b5
  refine (w3 _ b1 b2 b3 b4 b5).imp fun M4 y ⟨h1, h2⟩ => ⟨M2, h1, ?_, rfl, ?_⟩
  · rw [List.length_map, List.length_take]
    omega
  · rw [h2, List.take_add_one, ha, List.map_append]
    rfl
/-- .. with one test -/
theorem lc_filter {scope : Scope} {f : Sl → T → Option Sl} {elt c : Expr} {α : Type} (as : List α) (e : α → T) (p : α → Bool) (g : α → T) (M1 : Mo) (hz : as.length ≤ 50000)
    (h : ∀ a ∈ as, ∃ sl3, f sl (e a) = some sl3 ∧ (∀ M', ∀ (s : Shared) (H : Hp) (C : Addr) (cl : List (Str × Addr)) (fp : List Addr), WpT (X.blk s H scope (compEnvC scope cl C X.env) fp) M' c sl3 fun M4 b => M4 = M' ∧ b = p a) ∧ (p a = true → ∀ M', WpX X scope M' elt sl3 fun M4 y => M4 = M' ∧ y = g a)) :
    (fun i M2 acc => M2 = M1 ∧ acc = (((as.take i).filter p).map g) : Nat → Mo → List T → Prop) 0 M1 [] ∧ LcTurns X scope f [c] elt sl (as.map e) (fun i M2 acc => M2 = M1 ∧ acc = (((as.take i).filter p).map g)) := by
  refine ⟨⟨rfl, rfl⟩, fun i M2 acc t ht ⟨e1, e2⟩ D => ?_⟩
  subst e1 e2
  rw [List.getElem?_map] at ht
  obtain ⟨a, ha, rfl⟩ := Option.map_eq_some_iff.mp ht
  obtain ⟨sl3, h3, wt, w3⟩ := h a (List.mem_of_getElem? ha)
  have et : ((as.take (i + 1)).filter p).map g = ((as.take i).filter p).map g ++ (if p a = true then [g a] else []) := by
    rw [List.take_add_one, ha, List.filter_append, List.map_append]
    show _ ++ List.map g (List.filter p [a]) = _
    cases hp : p a <;> simp [hp]
  have hl : (((as.take i).filter p).map g).length ≤ 50000 := by
    rw [List.length_map]
    refine Nat.le_trans (List.length_filter_le _ _) ?_
    rw [List.length_take]
    omega
  refine ⟨sl3, h3, fun a1 a2 a3 a4 a5 => wpts_one fun σ H Q o s e => wt _ a1 a2 a3 a4 a5 σ H Q o s fun b H2 M3 f2 o2 ⟨h1, h2⟩ => e b H2 M3 f2 o2 ?_⟩
  subst h1 h2
  cases hp : p a with
  | false =>
    rw [hp] at et
    exact ⟨M2, rfl, rfl, by rw [et]; simp⟩
  | true =>
    rw [hp] at et
    show WpX X scope _ elt sl3 _
    intro b1 b2 b3 b4 b5
    refine (w3 hp _ b1 b2 b3 b4 b5).imp fun M4 y ⟨h1, h2⟩ => ⟨M2, h1, by omega, rfl, ?_⟩
    rw [h2, et]
    rfl
theorem wp_lcMap {tg elt iter : Expr} {scope : Scope} {own : List (Str × Nat)} {f : Sl → T → Option Sl} {is : List Nat} {α : Type} (as : List α) (e : α → T) (g : α → T) (hc : X.calm = true) (hN : X.N.Nodup) (ok : BlkOk X.N X.env.scope scope own)
    (htg : ∀ (s : Shared) (H : Hp) (C : Addr) (cl : List (Str × Addr)) (fp : List Addr), TgOk (X.blk s H scope (compEnvC scope cl C X.env) fp) tg f is)
    (hsub : ∀ i ∈ is, i ∈ own.map (·.2)) (hno : ∀ i ∈ own.map (·.2), sl[i]? = some none ∨ sl[i]? = none) (hs : ∀ x, foldedSetIterable iter X.env x = pure x) (hz : as.length ≤ 50000)
    (h : WpI X M tg iter sl fun M1 ts => ts = as.map e ∧ (∀ a ∈ as, ∃ sl3, f sl (e a) = some sl3 ∧ ∀ M', WpX X scope M' elt sl3 fun M4 y => M4 = M' ∧ y = g a) ∧ k M1 (.lst (as.map g))) : Wp X M (.ListComp elt [⟨tg, iter, [], 0⟩] scope pos) sl k :=
  wp_lc hc hN ok htg hsub hno hs fun σ H R o s e' => h σ H R o s fun J H1 M1 ts P f1 o1 src p1 ⟨h1, h2, h3⟩ => e' J H1 M1 ts P f1 o1 src p1 (by
    subst h1
    obtain ⟨i0, tr⟩ := lc_map (f := f) (sl := sl) as e g M1 hz h2
    refine ⟨_, i0, tr, fun M2 acc ⟨e1, e2⟩ => ?_⟩
    subst e1 e2
    rw [List.length_map, List.take_length]
    exact h3)
theorem wp_lcFil {tg elt iter c : Expr} {scope : Scope} {own : List (Str × Nat)} {f : Sl → T → Option Sl} {is : List Nat} {α : Type} (as : List α) (e : α → T) (p : α → Bool) (g : α → T) (hc : X.calm = true) (hN : X.N.Nodup) (ok : BlkOk X.N X.env.scope scope own)
    (htg : ∀ (s : Shared) (H : Hp) (C : Addr) (cl : List (Str × Addr)) (fp : List Addr), TgOk (X.blk s H scope (compEnvC scope cl C X.env) fp) tg f is)
    (hsub : ∀ i ∈ is, i ∈ own.map (·.2)) (hno : ∀ i ∈ own.map (·.2), sl[i]? = some none ∨ sl[i]? = none) (hs : ∀ x, foldedSetIterable iter X.env x = pure x) (hz : as.length ≤ 50000)
    (h : WpI X M tg iter sl fun M1 ts => ts = as.map e ∧ (∀ a ∈ as, ∃ sl3, f sl (e a) = some sl3 ∧ (∀ M', ∀ (s : Shared) (H : Hp) (C : Addr) (cl : List (Str × Addr)) (fp : List Addr), WpT (X.blk s H scope (compEnvC scope cl C X.env) fp) M' c sl3 fun M4 b => M4 = M' ∧ b = p a) ∧ (p a = true → ∀ M', WpX X scope M' elt sl3 fun M4 y => M4 = M' ∧ y = g a)) ∧ k M1 (.lst ((as.filter p).map g))) :
    Wp X M (.ListComp elt [⟨tg, iter, [c], 0⟩] scope pos) sl k :=
  wp_lc hc hN ok htg hsub hno hs fun σ H R o s e' => h σ H R o s fun J H1 M1 ts P f1 o1 src p1 ⟨h1, h2, h3⟩ => e' J H1 M1 ts P f1 o1 src p1 (by
    subst h1
    obtain ⟨i0, tr⟩ := lc_filter (f := f) (sl := sl) as e p g M1 hz h2
    refine ⟨_, i0, tr, fun M2 acc ⟨e1, e2⟩ => ?_⟩
    subst e1 e2
    rw [List.length_map, List.take_length]
    exact h3)
end
end K3

set_option Elab.async false
set_option linter.all false
set_option maxRecDepth 100000
set_option maxHeartbeats 4000000
set_option autoImplicit false
namespace K3
open PySem PySem.Spec PyProof.Rows L2
theorem Rd.weak {Z Z' : Addr → Prop} {H : Hp} {t : T} {v : V} (h : ∀ a, Z' a → Z a) (r : Rd Z H t v) : Rd Z' H t v := Rd.mono ⟨fun b o z e => ⟨e, fun z' => z (h b z')⟩⟩ t v r
theorem Rds.weak {Z Z' : Addr → Prop} {H : Hp} {t : List T} {v : List V} (h : ∀ a, Z' a → Z a) (r : Rds Z H t v) : Rds Z' H t v := Rds.mono ⟨fun b o z e => ⟨e, fun z' => z (h b z')⟩⟩ t v r
section
variable {M : Mo} {H H' : Hp} {p : Addr} {w o : Own} {j : Nat}
theorem putO_at : ∀ {l : List (Addr × Own)} {j : Nat} {p : Addr} {w o : Own}, l[j]? = some (p, w) → (p, o) ∈ putO l j o
  | [], j, p, w, o, h => by simp at h
  | y :: r, 0, p, w, o, h => by
    have e : y = (p, w) := by simpa using h
    subst e
    exact List.mem_cons_self
  | y :: r, j + 1, p, w, o, h => List.mem_cons_of_mem _ (putO_at (l := r) (j := j) (by simpa using h))
/-- what is owned at p has changed, all else is kept -/
theorem Mo.Ok.turn (k : M.Ok H) (h : M.os[j]? = some (p, w)) (hk : ∀ b u, b ≠ p → H b = some u → H' b = some u) (own : OwnOk M.Z H' p o) : (M.put j o).Ok H' ∧ Fr M H (M.put j o) H' := by
  obtain ⟨zp, z0, _⟩ := k.at_ h
  have f : Fk M.Z H M.Z H' := ⟨fun b u nb hb => ⟨hk b u (fun e => nb (e ▸ zp)) hb, nb⟩⟩
  refine ⟨⟨fun a za => ?_, ?_, fun q m => ?_⟩, ⟨rfl, rfl, ?_⟩⟩
  · have : a ≠ p := fun e => z0 (e ▸ za)
    obtain ⟨e1, e2⟩ := k.base a za
    cases q : H a with
    | none => exact absurd q e2
    | some u =>
      rw [hk a u this q]
      rw [q] at e1
      exact ⟨e1, fun z => nomatch z⟩
  · show ((putO M.os j o).map (·.1)).Nodup
    rw [putO_fst]
    exact k.nd
  · rw [put_Z]
    rcases putO_mem h m with rfl | m'
    · exact ⟨z0, own⟩
    · obtain ⟨zq, oq⟩ := k.own q m'
      refine ⟨zq, ?_⟩
      by_cases hq : q.1 = p
      · have e : q = (p, o) := by
          have nd : ((putO M.os j o).map (·.1)).Nodup := by rw [putO_fst]; exact k.nd
          have m1 : (p, o) ∈ putO M.os j o := putO_at h
          obtain ⟨i1, h1⟩ := List.getElem?_of_mem (show q ∈ putO M.os j o from m)
          obtain ⟨i2, h2⟩ := List.getElem?_of_mem m1
          have e1 : ((putO M.os j o).map (·.1))[i1]? = some p := by rw [List.getElem?_map, h1]; simp [hq]
          have e2 : ((putO M.os j o).map (·.1))[i2]? = some p := by rw [List.getElem?_map, h2]; rfl
          have e3 := nd_ix nd e1 e2
          subst e3
          rw [h1] at h2
          exact Option.some.inj h2
        subst e
        exact own
      · obtain ⟨a, u⟩ := q
        cases u with
        | lst ts =>
          obtain ⟨vs, e, r⟩ := oq
          exact ⟨vs, hk _ _ hq e, Rds.mono f ts vs r⟩
        | tin n =>
          obtain ⟨x1, b1, c1, e, r⟩ := oq
          exact ⟨x1, b1, c1, hk _ _ hq e, r⟩
  · rw [put_Z]
    exact f
end
theorem Fr.keptAll {M M2 : Mo} {H H2 : Hp} {Z : Addr → Prop} (f : Fr M H M2 H2) (o : M2.Ok H2) (hz : ∀ b, Z b → M.Z0 b) (h0 : M.H0 = H) {b : Addr} {u : HO} (e : H b = some u) (h : M.Z b → M.Z0 b) : H2 b = some u := by
  by_cases z : M.Z b
  · have := (o.base b (by rw [f.z0]; exact h z)).1
    rw [this, f.h0, h0, e]
  · exact (f.fk.kept b u z e).1
/-- the start of a def's slots -/
def slots (N : List Str) (ts : List T) : Sl := ts.map some ++ List.replicate (N.length - ts.length) none
theorem slots_ok {N : List Str} {Z : Addr → Prop} {H : Hp} {ts : List T} {vs : List V} (r : Rds Z H ts vs) : Sld Z H (L2.start N vs) (slots N ts) := by
  have hl := r.length
  refine ⟨?_, fun i t e => ?_⟩
  · unfold L2.start slots
    simp [hl]
  · unfold slots at e
    have hi : i < ts.length := by
      by_cases hi : i < ts.length
      · exact hi
      · rw [List.getElem?_append_right (by simpa using hi), List.getElem?_replicate] at e
        split at e <;> cases e
    rw [List.getElem?_append_left (by simpa using hi), List.getElem?_map] at e
    obtain ⟨u, hu, e2⟩ := Option.map_eq_some_iff.mp e
    cases e2
    obtain ⟨v, hv, rv⟩ := r.get hu
    refine ⟨v, ?_, rv⟩
    unfold L2.start
    rw [List.getElem?_append_left (by rw [List.length_map, hl]; exact hi), List.getElem?_map, hv]
    rfl
section
variable {P : Program} {w : World} {K : PySem.W.Frag} {mg : Str → Option Value} {base : Heap}
/-- a def on trees: its promise from the walk of its body -/
theorem fn_R {x : Str} {st : Stmt} {f : Addr} {fd : FuncData} {N ps : List Str} {k : Nat} {R : List T → T → Prop} (F : Fun K x x st f fd) (S : FnScope N ps (defScope st)) (len : ∀ ts t, R ts t → ts.length = ps.length)
    (body : ∀ (cdv : Value) (A : Around) (outer : List Env) (s : Shared) (H : Hp) (E : XK), Room k (A.deeper (envOfC x (defScope st) s.heap.objs.size f cdv)) → ∀ (Z0 : Addr → Prop) (H0 : Hp) (ts : List T) (t : T), R ts t →
      WpB (cxOf CX0 P w K mg base N x (defScope st) f cdv A outer s H E).nox ⟨Z0, H0, []⟩ (defBody st) (slots N ts) { nx := fun _ _ => False, rt := fun _ u => u = t }) :
    FnOk P w K mg base CX0 (k + 1) f fd ps (spR R) :=
  F.ok S (fun vs H Q E h => by
    obtain ⟨Z, ts, t, _, r, hR, _⟩ := h
    rw [r.length]
    exact len ts t hR) fun cdv A outer s H vs Q E hr h => by
    obtain ⟨Z, ts, t, dom, r, hR, q⟩ := h
    refine ⟨_, pss_tW, body cdv A outer s H E hr Z H ts t hR (L2.start N vs) H _ ⟨fun a z => ⟨rfl, dom a z⟩, List.nodup_nil, fun p m => absurd m (by simp)⟩ (slots_ok (by
      have e : (Mo.mk Z H []).Z = Z := by
        funext a
        exact propext ⟨fun z => by
          rcases Z_iff.mp z with z | z
          · exact z
          · exact absurd z (by simp), fun z => .inl z⟩
      rw [e]
      exact r)) ⟨fun σ' H' M' sl' _ _ _ h => h.elim, fun v H2 M2 t' f2 o2 r2 e2 => ?_, fun σ' H' M' sl' _ _ _ h => h.elim, fun σ' H' M' sl' _ _ _ h => h.elim, fun n d M' H' _ _ h => h.elim⟩⟩
    subst e2
    refine q v H2 (fun b u e => f2.keptAll (Z := Z) o2 (fun b z => z) rfl e fun z => ?_) (r2.weak fun a z => .inl (by rw [f2.z0]; exact z))
    rcases Z_iff.mp z with z | z
    · exact z
    · exact absurd z (by simp)
/-- a promise on trees of a def that draws: its first argument is the box -/
def spT (B k : Nat) (Pr : List T → Prop) (R : List T → T → Prop) : Sp := fun vs H Q _ => ∃ (Z : Addr → Prop) (a : Addr) (n : Nat) (ws : List V) (ts : List T), vs = .ref a :: ws ∧ Z a ∧ (∀ b, Z b → H b ≠ none) ∧ n ≤ B ∧ OwnOk Z H a (.tin n) ∧ Rds Z H ts ws ∧ Pr ts ∧
  ∀ v H' t, (∀ b o, b ≠ a → H b = some o → H' b = some o) → OwnOk Z H' a (.tin (n + k)) → R ts t → Rd Z H' t v → Q v H'
theorem tin_any {Z Z' : Addr → Prop} {H : Hp} {a : Addr} {n : Nat} (h : OwnOk Z H a (.tin n)) : OwnOk Z' H a (.tin n) := h
theorem fn_T {x : Str} {st : Stmt} {f : Addr} {fd : FuncData} {N ps : List Str} {k kk B : Nat} {Pr : List T → Prop} {R : List T → T → Prop} (F : Fun K x x st f fd) (S : FnScope N ps (defScope st)) (len : ∀ ts, Pr ts → ts.length + 1 = ps.length)
    (body : ∀ (cdv : Value) (A : Around) (outer : List Env) (s : Shared) (H : Hp) (E : XK), Room k (A.deeper (envOfC x (defScope st) s.heap.objs.size f cdv)) → ∀ (Z0 : Addr → Prop) (H0 : Hp) (a : Addr) (n : Nat) (ts : List T), n ≤ B → Pr ts →
      WpB (cxOf CX0 P w K mg base N x (defScope st) f cdv A outer s H E).nox ⟨Z0, H0, [(a, .tin n)]⟩ (defBody st) (slots N (.ptr a :: ts)) { nx := fun _ _ => False, rt := fun M' u => (∃ j : Nat, M'.os[j]? = some (a, Own.tin (n + kk))) ∧ R ts u }) :
    FnOk P w K mg base CX0 (k + 1) f fd ps (spT B kk Pr R) :=
  F.ok S (fun vs H Q E h => by
    obtain ⟨Z, a, n, ws, ts, rfl, _, _, _, _, r, hP, _⟩ := h
    rw [List.length_cons, r.length]
    exact len ts hP) fun cdv A outer s H vs Q E hr h => by
    obtain ⟨Z, a, n, ws, ts, rfl, za, dom, hn, ow, r, hP, q⟩ := h
    have e : (Mo.mk (fun b => Z b ∧ b ≠ a) H [(a, .tin n)]).Z = Z := by
      funext b
      refine propext ⟨fun z => ?_, fun z => ?_⟩
      · rcases Z_iff.mp z with z | z
        · exact z.1
        · have : b = a := by simpa using z
          subst this
          exact za
      · by_cases hb : b = a
        · exact Z_iff.mpr (.inr (by simp [hb]))
        · exact .inl ⟨z, hb⟩
    refine ⟨_, pss_tW, body cdv A outer s H E hr (fun b => Z b ∧ b ≠ a) H a n ts hn hP (L2.start N (.ref a :: ws)) H _ ⟨fun b z => ⟨rfl, dom b z.1⟩, by simp, fun p m => ?_⟩ (slots_ok (by
      rw [e]
      exact Rds.cons (Rd.ptr_iff.mpr rfl) r)) ⟨fun σ' H' M' sl' _ _ _ h => h.elim, fun v H2 M2 t' f2 o2 r2 e2 => ?_, fun σ' H' M' sl' _ _ _ h => h.elim, fun σ' H' M' sl' _ _ _ h => h.elim, fun n d M' H' _ _ h => h.elim⟩⟩
    · have : p = (a, .tin n) := by simpa using m
      subst this
      exact ⟨fun z => z.2 rfl, ow⟩
    · obtain ⟨⟨j, hj⟩, hR⟩ := e2
      have sub : ∀ b, Z b → M2.Z b := fun b z => by
        by_cases hb : b = a
        · subst hb
          exact (o2.at_ hj).1
        · exact .inl (by rw [f2.z0]; exact ⟨z, hb⟩)
      refine q v H2 t' (fun b u hb e' => f2.keptAll (Z := fun b => Z b ∧ b ≠ a) o2 (fun b z => z) rfl e' fun z => ?_) (o2.at_ hj).2.2 hR (r2.weak sub)
      rcases Z_iff.mp z with z | z
      · exact z
      · exact absurd (by simpa using z) hb
end
section
variable {X : Cx} {M : Mo} {sl : Sl} {k : KT} {pos : Pos}
theorem wp_callT {x : Str} {i kk B : Nat} {ps : List Str} {Pr : List T → Prop} {R : List T → T → Prop} {a : Expr} {as : List Expr} {p : Pos} (G : Df X.prog X.w X.K X.mg X.base x i ps (spT B kk Pr R)) (hr : Room i X.A) (hg : Gl X x) (he : starEach (a :: as) X.env = (false, eval a X.env) :: starEach as X.env)
    (hpl : (backTo pos (starEach as X.env)).any (·.1) = false) (h : WpA X M (a :: as) sl fun M1 ts => ∃ j ad n ts', ts = .ptr ad :: ts' ∧ M1.os[j]? = some (ad, .tin n) ∧ n ≤ B ∧ Pr ts' ∧ ∀ t, R ts' t → k (M1.put j (.tin (n + kk))) t)
    (hdb : (x == ("__debug__" : Str)) = false := by decide) : Wp X M (.Call (.Name x p) (a :: as) [] pos) sl k := by
  obtain ⟨f, fd, F, hm, hk, hb⟩ := G.ex
  refine wp_of (pe_call F hr hg hm hk hb .nil pass0 pa_tW hdb he hpl) fun σ H Q o s e => h σ H _ o s fun vs H1 M1 ts f1 o1 r1 ⟨j, ad, n, ts', ht, ho, hn, hP, k1⟩ => ?_
  subst ht
  obtain ⟨v, r, rfl, rv, rr⟩ := Rds.cons_iff.mp r1
  have := Rd.ptr_iff.mp rv
  subst this
  obtain ⟨zp, z0, ow⟩ := o1.at_ ho
  refine ⟨M1.Z, ad, n, r, ts', by rw [List.append_nil], zp, fun b z => o1.dom z, hn, ow, rr, hP, fun v H' t kp ow' hR rd => ?_⟩
  obtain ⟨o2, f2⟩ := o1.turn ho kp ow'
  exact e v H' _ t (f1.trans f2) o2 (by rw [put_Z]; exact rd) (k1 t hR)
end
end K3

set_option Elab.async false
set_option linter.all false
set_option maxRecDepth 100000
set_option maxHeartbeats 4000000
set_option autoImplicit false
namespace K3
open PySem PySem.Spec PyProof.Rows L2
def topS (i : Nat) : Stmt := PySem.Challenge.pw_eightlots_k03_whole_lots_on_the_board.main.body.getD i (.Pass ⟨0, 0, 0, 0⟩)
/-! ### what the module's top has left -/
structure Tx (mg : Str → Option Value) : Prop where
  nAbs : mg "abs" = none
  nAll : mg "all" = none
  nEnumerate : mg "enumerate" = none
  nInt : mg "int" = none
  nIsinstance : mg "isinstance" = none
  nList : mg "list" = none
  nMin : mg "min" = none
  nRange : mg "range" = none
  nSorted : mg "sorted" = none
  nStr : mg "str" = none
  nSum : mg "sum" = none
  nTuple : mg "tuple" = none
  nZip : mg "zip" = none
  nLen : mg "len" = none
  nBool : mg "bool" = none
  cSIGNS : ∃ t, mg "SIGNS" = some (.int 4 t)
  cPLACES : ∃ t, mg "PLACES" = some (.int 6 t)
  cLAMPS : ∃ t, mg "LAMPS" = some (.int 24 t)
  cBURNS : ∃ t, mg "BURNS" = some (.str "#" t)
  cDARK : ∃ t, mg "DARK" = some (.str "." t)
section
variable {X : Cx} {M : Mo} {sl : Sl} {k : KT} {pos p : Pos}
theorem wp_SIGNS (T : Tx X.mg) (hg : Gl X "SIGNS") (h : k M (.int 4)) : Wp X M (.Name "SIGNS" pos) sl k := by
  obtain ⟨t, e⟩ := T.cSIGNS
  exact wp_globI e hg h
theorem wp_PLACES (T : Tx X.mg) (hg : Gl X "PLACES") (h : k M (.int 6)) : Wp X M (.Name "PLACES" pos) sl k := by
  obtain ⟨t, e⟩ := T.cPLACES
  exact wp_globI e hg h
theorem wp_LAMPS (T : Tx X.mg) (hg : Gl X "LAMPS") (h : k M (.int 24)) : Wp X M (.Name "LAMPS" pos) sl k := by
  obtain ⟨t, e⟩ := T.cLAMPS
  exact wp_globI e hg h
theorem wp_BURNS (T : Tx X.mg) (hg : Gl X "BURNS") (h : k M (.str "#")) : Wp X M (.Name "BURNS" pos) sl k := by
  obtain ⟨t, e⟩ := T.cBURNS
  exact wp_globS e hg h
theorem wp_DARK (T : Tx X.mg) (hg : Gl X "DARK") (h : k M (.str ".")) : Wp X M (.Name "DARK" pos) sl k := by
  obtain ⟨t, e⟩ := T.cDARK
  exact wp_globS e hg h
theorem wp_len {a : Expr} {as : List Expr} (T : Tx X.mg) (hg : Gl X "len") (he : starEach (a :: as) X.env = (false, eval a X.env) :: starEach as X.env) (hpl : (backTo pos (starEach as X.env)).any (·.1) = false) (h : WpA X M (a :: as) sl fun M1 ts => Cal X (.builtin "len") M1 ts k) : Wp X M (.Call (.Name "len" p) (a :: as) [] pos) sl k := wp_callB T.nLen (by decide +kernel) hg he hpl h
theorem wp_abs {a : Expr} {as : List Expr} (T : Tx X.mg) (hg : Gl X "abs") (he : starEach (a :: as) X.env = (false, eval a X.env) :: starEach as X.env) (hpl : (backTo pos (starEach as X.env)).any (·.1) = false) (h : WpA X M (a :: as) sl fun M1 ts => Cal X (.builtin "abs") M1 ts k) : Wp X M (.Call (.Name "abs" p) (a :: as) [] pos) sl k := wp_callB T.nAbs (by decide +kernel) hg he hpl h
theorem wp_all {a : Expr} {as : List Expr} (T : Tx X.mg) (hg : Gl X "all") (he : starEach (a :: as) X.env = (false, eval a X.env) :: starEach as X.env) (hpl : (backTo pos (starEach as X.env)).any (·.1) = false) (h : WpA X M (a :: as) sl fun M1 ts => Cal X (.builtin "all") M1 ts k) : Wp X M (.Call (.Name "all" p) (a :: as) [] pos) sl k := wp_callB T.nAll (by decide +kernel) hg he hpl h
theorem wp_min {a : Expr} {as : List Expr} (T : Tx X.mg) (hg : Gl X "min") (he : starEach (a :: as) X.env = (false, eval a X.env) :: starEach as X.env) (hpl : (backTo pos (starEach as X.env)).any (·.1) = false) (h : WpA X M (a :: as) sl fun M1 ts => Cal X (.builtin "min") M1 ts k) : Wp X M (.Call (.Name "min" p) (a :: as) [] pos) sl k := wp_callB T.nMin (by decide +kernel) hg he hpl h
theorem wp_sorted {a : Expr} {as : List Expr} (T : Tx X.mg) (hg : Gl X "sorted") (he : starEach (a :: as) X.env = (false, eval a X.env) :: starEach as X.env) (hpl : (backTo pos (starEach as X.env)).any (·.1) = false) (h : WpA X M (a :: as) sl fun M1 ts => Cal X (.builtin "sorted") M1 ts k) : Wp X M (.Call (.Name "sorted" p) (a :: as) [] pos) sl k := wp_callB T.nSorted (by decide +kernel) hg he hpl h
theorem wp_sum {a : Expr} {as : List Expr} (T : Tx X.mg) (hg : Gl X "sum") (he : starEach (a :: as) X.env = (false, eval a X.env) :: starEach as X.env) (hpl : (backTo pos (starEach as X.env)).any (·.1) = false) (h : WpA X M (a :: as) sl fun M1 ts => Cal X (.builtin "sum") M1 ts k) : Wp X M (.Call (.Name "sum" p) (a :: as) [] pos) sl k := wp_callB T.nSum (by decide +kernel) hg he hpl h
theorem wp_isinstance {a : Expr} {as : List Expr} (T : Tx X.mg) (hg : Gl X "isinstance") (he : starEach (a :: as) X.env = (false, eval a X.env) :: starEach as X.env) (hpl : (backTo pos (starEach as X.env)).any (·.1) = false) (h : WpA X M (a :: as) sl fun M1 ts => Cal X (.builtin "isinstance") M1 ts k) : Wp X M (.Call (.Name "isinstance" p) (a :: as) [] pos) sl k := wp_callB T.nIsinstance (by decide +kernel) hg he hpl h
theorem wp_tupleC {a : Expr} {as : List Expr} (T : Tx X.mg) (hg : Gl X "tuple") (he : starEach (a :: as) X.env = (false, eval a X.env) :: starEach as X.env) (hpl : (backTo pos (starEach as X.env)).any (·.1) = false) (h : WpA X M (a :: as) sl fun M1 ts => Cal X (.type "tuple") M1 ts k) : Wp X M (.Call (.Name "tuple" p) (a :: as) [] pos) sl k := wp_callTy T.nTuple (by decide +kernel) hg he hpl h
theorem wp_listC {a : Expr} {as : List Expr} (T : Tx X.mg) (hg : Gl X "list") (he : starEach (a :: as) X.env = (false, eval a X.env) :: starEach as X.env) (hpl : (backTo pos (starEach as X.env)).any (·.1) = false) (h : WpA X M (a :: as) sl fun M1 ts => Cal X (.type "list") M1 ts k) : Wp X M (.Call (.Name "list" p) (a :: as) [] pos) sl k := wp_callTy T.nList (by decide +kernel) hg he hpl h
theorem wp_intC {a : Expr} {as : List Expr} (T : Tx X.mg) (hg : Gl X "int") (he : starEach (a :: as) X.env = (false, eval a X.env) :: starEach as X.env) (hpl : (backTo pos (starEach as X.env)).any (·.1) = false) (h : WpA X M (a :: as) sl fun M1 ts => Cal X (.type "int") M1 ts k) : Wp X M (.Call (.Name "int" p) (a :: as) [] pos) sl k := wp_callTy T.nInt (by decide +kernel) hg he hpl h
theorem wp_ty_int (T : Tx X.mg) (hg : Gl X "int") (h : k M (.ty "int")) : Wp X M (.Name "int" pos) sl k := wp_ty T.nInt (by decide +kernel) hg h
theorem wp_ty_bool (T : Tx X.mg) (hg : Gl X "bool") (h : k M (.ty "bool")) : Wp X M (.Name "bool" pos) sl k := wp_ty T.nBool (by decide +kernel) hg h
theorem wp_ty_str (T : Tx X.mg) (hg : Gl X "str") (h : k M (.ty "str")) : Wp X M (.Name "str" pos) sl k := wp_ty T.nStr (by decide +kernel) hg h
theorem wp_ty_list (T : Tx X.mg) (hg : Gl X "list") (h : k M (.ty "list")) : Wp X M (.Name "list" pos) sl k := wp_ty T.nList (by decide +kernel) hg h
theorem wp_ty_tuple (T : Tx X.mg) (hg : Gl X "tuple") (h : k M (.ty "tuple")) : Wp X M (.Name "tuple" pos) sl k := wp_ty T.nTuple (by decide +kernel) hg h
theorem cmul_l {i j : Int} (h1 : -(2 ^ 64) < i) (h2 : i < 2 ^ 64) : CMul i j := .inl ⟨h1, h2⟩
theorem cmul_r {i j : Int} (h1 : -(2 ^ 64) < j) (h2 : j < 2 ^ 64) : CMul i j := .inr ⟨h1, h2⟩
theorem cdiv_mk {i j : Int} (h1 : 0 < j) (h2 : j < 1073741824) : CDiv i j := ⟨h1, h2⟩
end
end K3

set_option Elab.async false
set_option linter.all false
set_option maxRecDepth 100000
set_option maxHeartbeats 4000000
set_option autoImplicit false
set_option pp.maxSteps 250
namespace K3
open PySem PySem.Spec PyProof.Rows L2

theorem iteT {p q : Prop} (h : p) : if true = true then p else q := by rw [if_pos rfl]; exact h
theorem iteF {p q : Prop} (h : q) : if false = true then p else q := by rw [if_neg Bool.false_ne_true]; exact h
theorem itecT {c : Bool} {p q : Prop} (hc : c = true) (h : p) : if c = true then p else q := by rw [if_pos hc]; exact h
theorem itecF {c : Bool} {p q : Prop} (hc : c = false) (h : q) : if c = true then p else q := by subst hc; exact iteF h
theorem iteC {c : Bool} {p q : Prop} (h1 : c = true → p) (h2 : c = false → q) : if c = true then p else q := by
  cases c with
  | true => exact iteT (h1 rfl)
  | false => exact iteF (h2 rfl)
theorem isB_ii : isB "int" "int" = true := by decide +kernel
/-! lots -/
abbrev tI (xs : List Int) : T := .tup (xs.map T.int)
abbrev lI (xs : List Int) : T := .lst (xs.map T.int)
/-- a lot: lamps of the board, rising -/
def Lot (xs : List Int) : Prop := xs = (rng 24).filter fun i => decide (i ∈ xs)
theorem rng_pair : ∀ n, (rng n).Pairwise (· < ·) := fun n => by
  unfold rng
  rw [List.pairwise_map]
  refine List.Pairwise.imp (fun h => by omega) (List.pairwise_lt_range (n := n))
theorem lot_filter (p : Int → Bool) : Lot ((rng 24).filter p) := by
  unfold Lot
  refine List.filter_congr fun i hi => ?_
  rw [Bool.eq_iff_iff]
  simp [List.mem_filter, hi]
theorem Lot.ext {xs ys : List Int} (hx : Lot xs) (hy : Lot ys) (h : ∀ i, i ∈ xs ↔ i ∈ ys) : xs = ys := by
  rw [hx, hy]
  refine List.filter_congr fun i _ => ?_
  rw [Bool.eq_iff_iff]
  simp [h i]
theorem Lot.mem {xs : List Int} (h : Lot xs) {i : Int} (m : i ∈ xs) : 0 ≤ i ∧ i < 24 := by
  rw [h] at m
  exact rng_mem.mp (List.mem_filter.mp m).1
theorem Lot.len {xs : List Int} (h : Lot xs) : xs.length ≤ 24 := by
  rw [h]
  refine Nat.le_trans (List.length_filter_le _ _) ?_
  rw [rng_len]
  exact Nat.le_refl _
theorem Lot.pair {xs : List Int} (h : Lot xs) : xs.Pairwise (· < ·) := by
  rw [h]
  exact (rng_pair 24).filter _
/-- the only rising row with these members -/
theorem sort_uniq {ns ms ns' : List Int} (hp : ns'.Perm ns) (hs : ns'.Pairwise (· ≤ ·)) (hd : ns.Nodup) (hm : Lot ms) (h : ∀ i, i ∈ ns ↔ i ∈ ms) : ns' = ms := by
  have nd : ns'.Nodup := hp.nodup_iff.mpr hd
  have ndm : ms.Nodup := hm.pair.imp fun h => by omega
  refine List.Perm.eq_of_pairwise (le := fun a b => a ≤ b) (fun a b _ _ h1 h2 => by omega) hs (hm.pair.imp fun h => by omega) ?_
  refine hp.trans ((List.perm_ext_iff_of_nodup hd ndm).mpr h)
/-- what is in one of two -/
def symd (xs ys : List Int) : List Int := (rng 24).filter fun i => decide (i ∈ xs) != decide (i ∈ ys)
theorem symd_lot (xs ys : List Int) : Lot (symd xs ys) := lot_filter _
theorem symd_mem {xs ys : List Int} (hx : Lot xs) (hy : Lot ys) {i : Int} : i ∈ symd xs ys ↔ ¬ (i ∈ xs ↔ i ∈ ys) := by
  unfold symd
  rw [List.mem_filter]
  constructor
  · rintro ⟨_, h⟩ e
    by_cases h1 : i ∈ xs
    · simp [h1, e.mp h1] at h
    · simp [h1] at h
      exact h1 (e.mpr h)
  · intro h
    by_cases h1 : i ∈ xs
    · have h2 : i ∉ ys := fun h2 => h ⟨fun _ => h2, fun _ => h1⟩
      exact ⟨rng_mem.mpr (hx.mem h1), by simp [h1, h2]⟩
    · by_cases h2 : i ∈ ys
      · exact ⟨rng_mem.mpr (hy.mem h2), by simp [h1, h2]⟩
      · exact absurd ⟨fun h => absurd h h1, fun h => absurd h h2⟩ h
theorem lot_nil : Lot [] := by unfold Lot; simp
theorem symd_nil {xs : List Int} (h : Lot xs) : symd [] xs = xs := by
  refine (symd_lot _ _).ext h fun i => ?_
  rw [symd_mem lot_nil h]
  simp
theorem symd_self {xs : List Int} (h : Lot xs) : symd xs xs = [] := by
  refine (symd_lot _ _).ext lot_nil fun i => ?_
  rw [symd_mem h h]
  simp
theorem symd_comm {xs ys : List Int} : symd xs ys = symd ys xs := by
  unfold symd
  refine List.filter_congr fun i _ => ?_
  cases decide (i ∈ xs) <;> cases decide (i ∈ ys) <;> rfl
theorem two_uniq {xs ys : List Int} (hx : Lot xs) (hy : Lot ys) (ns' : List Int) (hp : ns'.Perm (xs.filter (fun i => !decide (i ∈ ys)) ++ ys.filter (fun i => !decide (i ∈ xs)))) (hs : ns'.Pairwise (· ≤ ·)) : ns' = symd xs ys := by
  refine sort_uniq hp hs ?_ (symd_lot _ _) fun i => ?_
  · refine List.nodup_append.mpr ⟨(hx.pair.imp fun h => by omega : xs.Nodup).filter _, (hy.pair.imp fun h => by omega : ys.Nodup).filter _, fun a ha b hb => ?_⟩
    intro e
    subst e
    have h1 := List.mem_filter.mp ha
    have h2 := List.mem_filter.mp hb
    simp [h1.1] at h2
  · rw [symd_mem hx hy, List.mem_append, List.mem_filter, List.mem_filter]
    by_cases h1 : i ∈ xs <;> by_cases h2 : i ∈ ys <;> simp [h1, h2]
theorem bin_catLI {X : Cx} {M : Mo} {k : KT} {xs ys : List Int} (hz : xs.length + ys.length ≤ 100000) (q : k M (.lst ((xs ++ ys).map T.int))) : Bin X (binaryOp .Add) M (.lst (xs.map T.int)) (.lst (ys.map T.int)) k :=
  bin_catL (by rw [List.length_map, List.length_map]; exact hz) (by rw [← List.map_append]; exact q)
theorem bin_catTI {X : Cx} {M : Mo} {k : KT} {xs ys : List Int} (hz : xs.length + ys.length ≤ 100000) (q : k M (.tup ((xs ++ ys).map T.int))) : Bin X (binaryOp .Add) M (.tup (xs.map T.int)) (.tup (ys.map T.int)) k :=
  bin_catT (by rw [List.length_map, List.length_map]; exact hz) (by rw [← List.map_append]; exact q)

section
variable {X : Cx} {M : Mo} {sl : Sl} {D : DT} {pos spos : Pos}
theorem wps_lc (j : Nat) {y : Str} {py : Pos} {tg elt iter : Expr} {ifs : List Expr} {scope : Scope} {own : List (Str × Nat)} {f : Sl → T → Option Sl} {is : List Nat} (hc : X.calm = true) (hN : X.N.Nodup) (hy : X.N[j]? = some y) (hyl : X.env.scope.names.lookup y = some .local)
    (hsw : swapsWith (.ListComp elt [⟨tg, iter, ifs, 0⟩] scope pos) (some (.Name y py)) spos.line X.env = pure true) (ok : BlkOk X.N X.env.scope scope own) (htg : ∀ (s : Shared) (H : Hp) (C : Addr) (cl : List (Str × Addr)) (fp : List Addr), TgOk (X.blk s H scope (compEnvC scope cl C X.env) fp) tg f is)
    (hsub : ∀ i ∈ is, i ∈ own.map (·.2)) (hno : ∀ i ∈ own.map (·.2), sl[i]? = some none ∨ sl[i]? = none) (hs : ∀ x, foldedSetIterable iter X.env x = pure x)
    (h : WpI X M tg iter sl fun M1 ts => ∃ I : Nat → Mo → List T → Prop, I 0 M1 [] ∧ LcTurns X scope f ifs elt sl ts I ∧ ∀ M2 acc, I ts.length M2 acc → D.nx M2 (sl.set j (some (.lst acc)))) : WpS X M (.Assign [.Name y py] (.ListComp elt [⟨tg, iter, ifs, 0⟩] scope pos) spos) sl D :=
  wps_of (ps_setLc (i := j) (own := own) (g := fun v σ H Q => ∀ s0 H0 C cl fp, gW (X.blk s0 H0 scope (compEnvC scope cl C X.env) fp) tg v σ H Q) (tt := fun σ H Q => ∀ s0 H0 C cl fp, tWTs (X.blk s0 H0 scope (compEnvC scope cl C X.env) fp) ifs σ H Q) (te := fun σ H Q => ∀ s0 H0 C cl fp, tW (X.blk s0 H0 scope (compEnvC scope cl C X.env) fp) elt σ H Q)
    hc hN hy hyl hsw pi_tW ok (fun a b c d e => ⟨fun pins s _ _ _ u _ I r h => h a b c d e pins s u I r⟩) (fun a b c d e => ⟨fun pins s _ _ _ I h => h a b c d e pins s I⟩) (fun a b c d e => ⟨fun pins s _ _ _ I h => h a b c d e pins s I⟩) hs) fun σ H E o s e =>
    h σ H _ o s fun J H1 M1 ts P f1 o1 src p1 ⟨I, i0, turns, fin⟩ => lc_reading htg hsub hno f1 o1 src p1 (f1.sld s) i0 turns (kn := fun _ _ => True) (Q := fun v H' => gName j v σ H' E.nx) fun M2 acc ii D H2 o2 f2 => by
      obtain ⟨o3, f3, r3⟩ := o2.close (p := D) (ts := acc) (r := M2.os) rfl
      exact e.step (f2.trans f3) o3 (((f2.trans f3).sld s).set r3) (fin M2 acc ii)
theorem wps_lcMap (j : Nat) {y : Str} {py : Pos} {tg elt iter : Expr} {scope : Scope} {own : List (Str × Nat)} {f : Sl → T → Option Sl} {is : List Nat} {α : Type} (as : List α) (e : α → T) (g : α → T) (hc : X.calm = true) (hN : X.N.Nodup) (hy : X.N[j]? = some y) (hyl : X.env.scope.names.lookup y = some .local)
    (hsw : swapsWith (.ListComp elt [⟨tg, iter, [], 0⟩] scope pos) (some (.Name y py)) spos.line X.env = pure true) (ok : BlkOk X.N X.env.scope scope own)
    (htg : ∀ (s : Shared) (H : Hp) (C : Addr) (cl : List (Str × Addr)) (fp : List Addr), TgOk (X.blk s H scope (compEnvC scope cl C X.env) fp) tg f is)
    (hsub : ∀ i ∈ is, i ∈ own.map (·.2)) (hno : ∀ i ∈ own.map (·.2), sl[i]? = some none ∨ sl[i]? = none) (hs : ∀ x, foldedSetIterable iter X.env x = pure x) (hz : as.length ≤ 50000)
    (h : WpI X M tg iter sl fun M1 ts => ts = as.map e ∧ (∀ a ∈ as, ∃ sl3, f sl (e a) = some sl3 ∧ ∀ M', WpX X scope M' elt sl3 fun M4 y => M4 = M' ∧ y = g a) ∧ D.nx M1 (sl.set j (some (.lst (as.map g))))) : WpS X M (.Assign [.Name y py] (.ListComp elt [⟨tg, iter, [], 0⟩] scope pos) spos) sl D :=
  wps_lc j hc hN hy hyl hsw ok htg hsub hno hs fun σ H R o s e' => h σ H R o s fun J H1 M1 ts P f1 o1 src p1 ⟨h1, h2, h3⟩ => e' J H1 M1 ts P f1 o1 src p1 (by
    subst h1
    obtain ⟨i0, tr⟩ := lc_map (f := f) (sl := sl) as e g M1 hz h2
    refine ⟨_, i0, tr, fun M2 acc ⟨e1, e2⟩ => ?_⟩
    subst e1 e2
    rw [List.length_map, List.take_length]
    exact h3)
end
section
variable {X : Cx} {M : Mo} {sl : Sl} {k : KT} {pos : Pos}
/-- a text joined -/
theorem wp_join {a e : Expr} {apos : Pos} (hs : starEach [e] X.env = [(false, eval e X.env)]) (hbase : attributeBase a "join" X.env (eval a X.env) = eval a X.env) (hline : (apos.endLine == pos.line) = true)
    (h : Wp X M a sl fun M1 t => ∃ z, t = .str z ∧ Wp X M1 e sl fun M2 u => ∃ zs : List Str, u = .lst (zs.map T.str) ∧ (zs.map (·.length)).sum + zs.length * z.length ≤ 100000 ∧ k M2 (.str (Txt.join z zs))) : Wp X M (.Call (.Attribute a "join" apos) [e] [] pos) sl k :=
  wp_of (pe_join pe_tW pe_tW hs hbase hline) fun σ H Q o s e' => h σ H _ o s fun v H1 M1 t f1 o1 r1 k1 => by
    obtain ⟨z, ht, k1⟩ := k1
    subst ht
    have := Rd.str_iff.mp r1
    subst this
    refine ⟨⟨z, rfl⟩, k1 σ H1 _ o1 (f1.sld s) fun u H2 M2 t2 f2 o2 r2 k2 => ?_⟩
    obtain ⟨zs, ht, hz, k2⟩ := k2
    subst ht
    obtain ⟨p, vs, rfl, zz, hh, rr⟩ := Rd.lst_iff.mp r2
    have := Rds.strs rr
    subst this
    exact ⟨z, p, zs, rfl, rfl, .inl (SqL.of hh), Nat.le_trans hz (by decide), e' _ H2 M2 _ (f1.trans f2) o2 (Rd.str_iff.mpr rfl) k2⟩
end

end K3
namespace K9
open PySem PySem.Calls PyProof.Rows PySem.W
/-- v is a tuple of these numbers -/
def TupI (h : Heap) (v : Value) (ns : List Int) : Prop :=
  ∃ (a : Addr) (dd : Option Addr) (items : Array Value) (n : Nat) (sl : Array (Option Value)), v = .ref a ∧ h.get? a = some { cls := .type "tuple", dict := dd, data := .seq items n, slots := sl } ∧ IntsAre items.toList ns
theorem TupI.keeps {h h' : Heap} {v : Value} {ns : List Int} (x : TupI h v ns) (k : ∀ b o, v = .ref b → h.get? b = some o → h'.get? b = some o) : TupI h' v ns := by
  obtain ⟨a, dd, items, n, sl, e, g, i⟩ := x
  exact ⟨a, dd, items, n, sl, e, k _ _ e g, i⟩
theorem TupI.type {M : Model} {h : Heap} {v : Value} {ns : List Int} (x : TupI h v ns) : Looks M h (typeOf v) (.type "tuple") := by
  obtain ⟨a, dd, items, n, sl, rfl, g, i⟩ := x
  exact (Looks.ld g).andThen .now
theorem ints_len : ∀ {vs : List Value} {ns : List Int}, IntsAre vs ns → vs.length = ns.length
  | _, _, .nil => rfl
  | _, _, .cons n t h => by simp [ints_len h]
section
variable {prog : Program} {w : World} {A : Around} {E : Value → Shared → Prop} {s : Shared}
theorem kat_lexI {b fin : Bool} {Q : Bool → Shared → Prop} : ∀ {as bs : List Value} {ns ms : List Int} {i : Nat}, IntsAre as ns → IntsAre bs ms → fin = decide (as.length < bs.length) → Q (HT.lexLt ns ms) s → KatLex prog w A b fin Q (as.zip bs) i s
  | _, _, _, _, i, .nil, .nil, hf, q => by
    subst hf
    exact kat_nil q
  | _, _, _, _, i, .nil, .cons c u hw, hf, q => by
    subst hf
    rw [HT.lexLt_nil_cons] at q
    exact kat_nil (by simpa using q)
  | _, _, _, _, i, .cons a t hv, .nil, hf, q => by
    subst hf
    rw [HT.lexLt_cons_nil] at q
    exact kat_nil (by simpa using q)
  | _, _, _, _, i, .cons a t hv, .cons c u hw, hf, q => by
    rw [HT.lexLt_cons] at q
    refine kat_cons (SeqAt.EqAt.int_int a t c u prog w _ _ ?_)
    refine kat_go (fun e1 => ?_) (fun e1 => ?_)
    · have ex : a = c := by simpa using e1
      rw [if_pos ex] at q
      exact kat_yes (kat_lexI hv hw (by rw [hf]; simp) q)
    · have ex : ¬ a = c := by simpa using e1
      rw [if_neg ex] at q
      refine kat_no ?_
      cases hb : (b && i == 0) with
      | true => exact oneLt_int q
      | false => exact kat_one _ _ (PyProof.Rows.lt_int q)
theorem lt_tuples {v u : Value} {ns ms : List Int} {b : Bool} {Q : Bool → Shared → Prop} (hv : TupI s.heap v ns) (hw : TupI s.heap u ms) (h : Q (HT.lexLt ns ms) s) : wpAny (model prog w) A (keyLt' (tuples' b) v u) Q E s := by
  obtain ⟨a, dd, items, n, sl, rfl, ga, ia⟩ := hv
  obtain ⟨a2, dd2, items2, n2, sl2, rfl, gb, ib⟩ := hw
  exact kat_lt ga rfl gb rfl (kat_lexI ia ib (by rw [Array.length_toList, Array.length_toList]) h)
theorem lt_general {v u : Value} {ns ms : List Int} {Q : Bool → Shared → Prop} (hu : A.units < cLine) (hv : TupI s.heap v ns) (hw : TupI s.heap u ms) (h : Q (HT.lexLt ns ms) s) : wpAny (model prog w) A (keyLt' general' v u) Q E s := by
  obtain ⟨a, dd, items, n, sl, rfl, ga, ia⟩ := hv
  obtain ⟨a2, dd2, items2, n2, sl2, rfl, gb, ib⟩ := hw
  exact kat_one _ _ (HT.lt_tupInts ⟨_, ga, rfl, n, rfl⟩ ⟨_, gb, rfl, n2, rfl⟩ ia ib hu h)
theorem call_lt {a b : Addr} {dd dd2 : Option Addr} {items items2 : Array Value} {n n2 : Nat} {sl sl2 : Array (Option Value)} {ns ms : List Int} {Q : Value → Shared → Prop} (ga : s.heap.get? a = some { cls := .type "tuple", dict := dd, data := .seq items n, slots := sl })
    (gb : s.heap.get? b = some { cls := .type "tuple", dict := dd2, data := .seq items2 n2, slots := sl2 }) (ia : IntsAre items.toList ns) (ib : IntsAre items2.toList ms) (h : Q (.bool (HT.lexLt ns ms)) s) : wpAny (model prog w) A (call (.builtin "tuple.__lt__") [.ref a, .ref b]) Q E s := by
  refine wpAny_call (codeAny_call_builtin PySem.F.slot_tuple_lt.plain PySem.F.entry_tuple_lt (PySem.F.slot_tuple_lt.check _ _ _ _ _ _ _ _ ⟨_, ga, rfl⟩ (PySem.F.args_tuple_lt_2 _ _) ?_))
  refine wpAny_mono (HT.tuple_lt_ints a b items items2 n n2 dd dd2 sl sl2 ns ms ia ib prog w _ (wants Q E) s ⟨ga, gb, h⟩) (fun fin s' q => ?_) fun _ _ z => z
  cases fin with
  | done f => exact q
  | again c => exact q
theorem lt_one {v u : Value} {ns ms : List Int} {Q : Bool → Shared → Prop} (hu : A.units < cLine) (hv : TupI s.heap v ns) (hw : TupI s.heap u ms) (h : Q (HT.lexLt ns ms) s) : wpAny (model prog w) A (keyLt' oneType' v u) Q E s := by
  obtain ⟨a, dd, items, n, sl, rfl, ga, ia⟩ := hv
  obtain ⟨a2, dd2, items2, n2, sl2, rfl, gb, ib⟩ := hw
  rw [keyLt'_oneType, oneLt'_eq]
  simp only [if_true]
  refine wpAny_bind (wpAny_cRoomFor hu ?_)
  refine wpAny_bind (wpAny_callSpecialIfBound?_slot (T := "tuple") ⟨_, ga, rfl⟩ PySem.F.slot_tuple_lt (call_lt ga gb ia ib ?_))
  exact wpAny_truthy_bool h
/-! the kind of the keys -/
theorem firsts_all : ∀ {vs : List Value} {k : Value → List Int} {Q : List (Option Value) → Shared → Prop}, (∀ v ∈ vs, TupI s.heap v (k v)) → (∀ fs : List (Option Value), fs.length = vs.length → (∀ (i : Nat) v f, vs[i]? = some v → fs[i]? = some f → (f.isSome = true ↔ k v ≠ [])) → Q fs s) → wpAny (model prog w) A (vs.mapM firstOfTuple') Q E s
  | [], k, Q, _, h => by
    rw [List.mapM_nil]
    exact wpAny_pure (h [] rfl fun i v f e => by simp at e)
  | v :: vs, k, Q, hv, h => by
    obtain ⟨a, dd, items, n, sl, rfl, ga, ia⟩ := hv v List.mem_cons_self
    rw [List.mapM_cons]
    refine wpAny_bind ?_
    rw [kas_first_eq]
    refine wpAny_bind (Looks.here (show Looks (model prog w) s.heap (typeOf (.ref a)) (.type "tuple") from (Looks.ld ga).andThen .now) ?_)
    rw [if_neg (by first | decide | simp)]
    refine wpAny_bind (listItems_at ga rfl (wpAny_pure ?_))
    refine wpAny_bind (firsts_all (vs := vs) (k := k) (Q := fun bs s' => wpAny (model prog w) A (pure (items[0]? :: bs)) Q E s') (fun u hu => hv u (List.mem_cons_of_mem _ hu)) fun fs hl hf => wpAny_pure (h _ (by simp [hl]) fun i u f e1 e2 => ?_))
    cases i with
    | zero =>
      have eu : Value.ref a = u := by simpa using e1
      have ef : items[0]? = f := by simpa using e2
      subst eu ef
      have hlen := ints_len ia
      rw [Array.length_toList] at hlen
      constructor
      · intro hs e
        rw [e] at hlen
        have : items.size = 0 := hlen
        have hh : items[0]? = none := by simp [this]
        rw [hh] at hs
        cases hs
      · intro hne
        have : 0 < items.size := by
          rw [hlen]
          exact List.length_pos_iff.mpr hne
        simp [this]
    | succ i => exact hf i u f (by simpa using e1) (by simpa using e2)
theorem kind_of {vs : List Value} {k : Value → List Int} (hv : ∀ v ∈ vs, TupI s.heap v (k v)) (h2 : 2 ≤ vs.length) (hu : A.units < cLine) : ∃ κ,
    (∀ (Q : SortKind → Shared → Prop) (E : Value → Shared → Prop), Q κ s → wpAny (model prog w) A (keyKind' vs.toArray) Q E s) ∧ SrtO.Cmp prog w A s κ (fun p => p.1 ∈ vs) (SrtO.lt2 fun v u => HT.lexLt (k v) (k u)) := by
  have one : SrtO.Cmp prog w A s oneType' (fun p => p.1 ∈ vs) (SrtO.lt2 fun v u => HT.lexLt (k v) (k u)) := fun p q hp hq =>
    lt_one (Q := fun r s' => s' = s ∧ r = HT.lexLt (k p.1) (k q.1)) (E := fun _ _ => False) hu (hv p.1 hp) (hv q.1 hq) ⟨rfl, rfl⟩
  have gen : SrtO.Cmp prog w A s general' (fun p => p.1 ∈ vs) (SrtO.lt2 fun v u => HT.lexLt (k v) (k u)) := fun p q hp hq =>
    lt_general (Q := fun r s' => s' = s ∧ r = HT.lexLt (k p.1) (k q.1)) (E := fun _ _ => False) hu (hv p.1 hp) (hv q.1 hq) ⟨rfl, rfl⟩
  have tup : SrtO.Cmp prog w A s (tuples' true) (fun p => p.1 ∈ vs) (SrtO.lt2 fun v u => HT.lexLt (k v) (k u)) := fun p q hp hq =>
    lt_tuples (Q := fun r s' => s' = s ∧ r = HT.lexLt (k p.1) (k q.1)) (E := fun _ _ => False) (hv p.1 hp) (hv q.1 hq) ⟨rfl, rfl⟩
  by_cases hall : ∀ v ∈ vs, k v ≠ []
  · refine ⟨tuples' true, fun Q E hq => ?_, tup⟩
    have ht : ∃ fs, KatTups s.heap vs fs ∧ fs.length = vs.length ∧ ∀ f ∈ fs, ∃ i t, f = Value.int i t := by
      clear h2 one gen tup
      induction vs with
      | nil => exact ⟨[], KatTups.nil, rfl, fun f hf => absurd hf (by simp)⟩
      | cons v vs ih =>
        obtain ⟨fs, t, hl, hi⟩ := ih (fun u hm => hv u (List.mem_cons_of_mem _ hm)) (fun u hm => hall u (List.mem_cons_of_mem _ hm))
        have hne := hall v List.mem_cons_self
        obtain ⟨a, dd, items, n, sl, rfl, ga, ia⟩ := hv v List.mem_cons_self
        generalize k (Value.ref a) = ks at ia hne
        obtain ⟨items⟩ := items
        cases ia with
        | nil => exact absurd rfl hne
        | cons i tk h => exact ⟨_ :: fs, KatTups.cons ga rfl rfl rfl t, by simp [hl], fun f hf => by
            rcases List.mem_cons.mp hf with e | hf
            · exact ⟨_, _, e⟩
            · exact hi f hf⟩
    obtain ⟨fs, t, hl, hi⟩ := ht
    refine kat_kind (T := .type "int") t (by omega) (fun f hm => ?_) (by rfl) ?_
    · obtain ⟨x, tk, rfl⟩ := hi f hm
      exact PySem.W.Looks.now
    · have e : (Value.type "int" != Value.type "tuple") = true := by first | decide +kernel | rfl | decide
      rw [e]
      exact hq
  · have hex : ∃ v ∈ vs, k v = [] := by
      by_cases h : ∃ v ∈ vs, k v = []
      · exact h
      · exact absurd (fun v hm e => h ⟨v, hm, e⟩) hall
    obtain ⟨ve, hme, hke⟩ := hex
    obtain ⟨v0, vr, rfl⟩ : ∃ v0 vr, vs = v0 :: vr := by
      match vs, h2 with
      | [], h2 => simp at h2
      | v0 :: vr, _ => exact ⟨v0, vr, rfl⟩
    obtain ⟨ie, hie⟩ := List.getElem?_of_mem hme
    by_cases h0 : k v0 = []
    · refine ⟨oneType', fun Q E hq => ?_, one⟩
      rw [kat_kind_eq, List.mapM_toArray, map_eq_pure_bind]
      refine wpAny_bind (wpAny_bind (firsts_all hv fun fs hl hf => wpAny_pure ?_))
      obtain ⟨f0, fr, rfl⟩ : ∃ f0 fr, fs = f0 :: fr := by
        match fs, hl with
        | f0 :: fr, _ => exact ⟨f0, fr, rfl⟩
      have hn : f0 = none := by
        have := hf 0 v0 f0 rfl rfl
        cases f0 with
        | none => rfl
        | some x => exact absurd h0 (this.mp rfl)
      subst hn
      rw [if_neg (by simp), if_neg (by simp)]
      rw [oneTypeOnly'_eq, List.mapM_toArray, map_eq_pure_bind]
      refine wpAny_bind (wpAny_bind (wpAny_bind (kas_mapM (r := Value.type "tuple") _ (fun v hm Q' hq => (hv v hm).type.here hq) (wpAny_pure ?_))))
      have hall2 : ((List.map (fun _ => Value.type "tuple") (v0 :: vr)).toArray.all fun x => x == Value.type "tuple") = true := by
        simp only [List.all_toArray, List.all_map, List.all_eq_true]
        intro _ _
        rfl
      have h00 : (List.map (fun _ => Value.type "tuple") (v0 :: vr)).toArray[0]? = some (Value.type "tuple") := by simp
      rw [h00]
      simp only [hall2, if_true]
      exact wpAny_pure (wpAny_pure hq)
    · refine ⟨general', fun Q E hq => ?_, gen⟩
      rw [kat_kind_eq, List.mapM_toArray, map_eq_pure_bind]
      refine wpAny_bind (wpAny_bind (firsts_all hv fun fs hl hf => wpAny_pure ?_))
      obtain ⟨f0, fr, rfl⟩ : ∃ f0 fr, fs = f0 :: fr := by
        match fs, hl with
        | f0 :: fr, _ => exact ⟨f0, fr, rfl⟩
      have hs : f0.isSome = true := (hf 0 v0 f0 rfl rfl).mpr h0
      have hno : ¬ ((f0 :: fr).toArray.all (·.isSome)) = true := by
        intro h
        have hlt : ie < (f0 :: fr).length := by
          rw [hl]
          exact (List.getElem?_eq_some_iff.mp hie).1
        obtain ⟨fe, hfe⟩ : ∃ fe, (f0 :: fr)[ie]? = some fe := ⟨_, List.getElem?_eq_getElem hlt⟩
        have : fe.isSome = true := by
          simp only [List.all_toArray, List.all_eq_true] at h
          exact h fe (List.mem_of_getElem? hfe)
        exact (hf ie ve fe hie hfe).mp this hke
      have hno2 : ¬ ((f0 :: fr).toArray.all fun x => x.isSome) = true := hno
      rw [if_neg hno2, if_pos (by simpa using hs)]
      exact wpAny_pure hq
theorem sortable_tups {a : Addr} {vs : List Value} {k : Value → List Int} (h2 : 2 ≤ vs.length) (hu : A.units < cLine) (hv : ∀ v ∈ vs, TupI s.heap v (k v)) (ha : ∀ v ∈ vs, v ≠ .ref a) : SrtO.SortableO prog w A s a vs fun v u => HT.lexLt (k v) (k u) := by
  intro h' keep
  have hv' : ∀ v ∈ vs, TupI h' v (k v) := fun v hm => (hv v hm).keeps fun b o e g => keep b o (fun z => ha v hm (by rw [e, z])) g
  exact kind_of (s := { s with heap := h' }) hv' h2 hu
end
end K9
namespace K3
open PySem PySem.Spec PyProof.Rows L2
/-- sorted(xs), xs tuples of numbers -/
def rSrtT (K : PySem.W.Frag) : List V → Hp → VK → Prop := fun vs H Q => ∃ (a : Addr) (xs : List V) (k : V → List Int), vs = [V.ref a] ∧ SqL K H a xs ∧ (∀ x ∈ xs, ∃ t, x = V.ref t ∧ H t = some (.tup ((k x).map V.int))) ∧
  ∀ ys p, SrtO.Srtd (fun x y => HT.lexLt (k x) (k y)) ys → SrtO.Stb (fun x y => HT.lexLt (k x) (k y)) ys xs → H p = none → Q (.ref p) (upd H p (.lst ys))
theorem cr_srtT {X : Cx} (hu : X.A.units + 64 < cLine) : CallR X (.builtin "sorted") (rSrtT X.K) := by
  intro pins s σ H vs us Q I r h
  obtain ⟨a, xs, k, rfl, hs, hx, q⟩ := h
  obtain ⟨its, rv, hl, hz⟩ := I.list hs
  obtain ⟨u, rfl, ru⟩ := vals1 r
  obtain rfl : u = Value.ref a := ru
  obtain ⟨e1, e2⟩ := refs_back rv fun x m => by
    obtain ⟨t, e, _⟩ := hx x m
    exact ⟨t, e⟩
  have hv : ∀ v ∈ its, K9.TupI s.heap v (k (backV v)) := fun v hv => by
    obtain ⟨t, rfl⟩ := e2 v hv
    have hm : V.ref t ∈ xs := by rw [e1]; exact List.mem_map.mpr ⟨_, hv, rfl⟩
    obtain ⟨t', e, ht⟩ := hx _ hm
    cases e
    obtain ⟨_, its2, r2, o, ho, hc, n, hd⟩ := I.hok _ _ ht
    obtain ⟨cls, dd, data, sl⟩ := o
    simp only at hc hd
    subst hc hd
    exact ⟨t, dd, its2.toArray, n, sl, rfl, ho, intsAre_of r2⟩
  refine SrtO.sorted_ord (NtL.swo_lexL fun u => k (backV u)) hl.isList (by rw [← rv.length]; exact hz) (fun h2 h₁ a₁ ha₁ kk => K9.sortable_tups h2 (by show X.A.units + 1 + 1 < cLine; omega) (fun v hm => (hv v hm).keeps fun b o _ e => (kk b o e).2) fun v hm e => ?_) fun out h1 h2 => ?_
  · obtain ⟨a', dd, items, n, sl, e', g, i⟩ := hv v hm
    rw [e] at e'
    cases e'
    exact (kk _ _ g).1 rfl
  · have h3 : ∀ u ∈ out, ∃ a, u = Value.ref a := fun u hu => e2 u (h2.perm.mem_iff.mp hu)
    obtain ⟨n, hn⟩ := sortedAll_at s.heap its out.toArray
    have hb : SrtO.Stb (fun x y => HT.lexLt (k x) (k y)) (out.map backV) xs := by
      rw [e1]
      exact SrtO.Stb.map (NtL.swo_lexL fun u => k u) backV h2
    have hd : s.heap.objs.size ≤ s.heap.objs.size + 1 := Nat.le_succ _
    refine ⟨.ref (s.heap.objs.size + 1), upd H (s.heap.objs.size + 1) (.lst (out.map backV)), I.laid (t' := s.toks) (fun b o e => sortedAll_old e) hd ⟨?_, out, n, vals_back h3, hn⟩, rfl, q _ _ (SrtO.srtd_map h1) hb (I.hok.fresh hd)⟩
    rw [hb.len]
    exact hz
theorem lex_total : ∀ {a b : List Int}, HT.lexLt a b = false → HT.lexLt b a = false → a = b
  | [], [], _, _ => rfl
  | [], _ :: _, h, _ => by cases h
  | _ :: _, [], _, h => by cases h
  | x :: xs, y :: ys, h, g => by
    rw [HT.lexLt_cons] at h g
    by_cases e : x = y
    · rw [if_pos e] at h
      rw [if_pos e.symm] at g
      rw [e, lex_total h g]
    · rw [if_neg e] at h
      rw [if_neg (fun z => e z.symm)] at g
      have h1 := of_decide_eq_false h
      have h2 := of_decide_eq_false g
      omega
def ins (x : List Int) : List (List Int) → List (List Int)
  | [] => [x]
  | y :: r => if HT.lexLt y x = true then y :: ins x r else x :: y :: r
def srt : List (List Int) → List (List Int)
  | [] => []
  | x :: r => ins x (srt r)
theorem ins_perm (x : List Int) : ∀ l, (ins x l).Perm (x :: l)
  | [] => List.Perm.refl _
  | y :: r => by
    unfold ins
    split
    · exact (List.Perm.cons y (ins_perm x r)).trans (List.Perm.swap x y r)
    · exact List.Perm.refl _
theorem srt_perm : ∀ l, (srt l).Perm l
  | [] => List.Perm.refl _
  | x :: r => (ins_perm x (srt r)).trans (List.Perm.cons x (srt_perm r))
theorem lex_swo : SrtO.Swo (fun a b : List Int => HT.lexLt a b) := NtL.swo_lexL fun a => a
theorem ins_srtd (x : List Int) : ∀ {l}, l.Pairwise (fun a b => HT.lexLt b a = false) → (ins x l).Pairwise (fun a b => HT.lexLt b a = false)
  | [], _ => List.pairwise_singleton _ _
  | y :: r, h => by
    obtain ⟨h1, h2⟩ := List.pairwise_cons.mp h
    unfold ins
    split
    · rename_i hy
      refine List.pairwise_cons.mpr ⟨fun z hz => ?_, ins_srtd x h2⟩
      rcases List.mem_cons.mp ((ins_perm x r).mem_iff.mp hz) with e | hz
      · subst e
        exact lex_swo.asym y z hy
      · exact h1 z hz
    · rename_i hy
      have hy : HT.lexLt y x = false := by simpa using hy
      refine List.pairwise_cons.mpr ⟨fun z hz => ?_, h⟩
      rcases List.mem_cons.mp hz with e | hz
      · subst e
        exact hy
      · exact lex_swo.tr x y z hy (h1 z hz)
theorem srt_srtd : ∀ l, (srt l).Pairwise (fun a b => HT.lexLt b a = false)
  | [] => List.Pairwise.nil
  | x :: r => ins_srtd x (srt_srtd r)
theorem srt_uniq {l m : List (List Int)} (hp : l.Perm m) (hs : l.Pairwise (fun a b => HT.lexLt b a = false)) : l = srt m :=
  List.Perm.eq_of_pairwise (le := fun a b => HT.lexLt b a = false) (fun a b _ _ h1 h2 => lex_total h2 h1) hs (srt_srtd m) (hp.trans (srt_perm m).symm)
def intOf : V → Int
  | .int i => i
  | _ => 0
def rowAt (H : Hp) : V → List Int
  | .ref a => match H a with
    | some (.tup ws) => ws.map intOf
    | _ => []
  | _ => []
theorem rowAt_ok {Z : Addr → Prop} {H : Hp} {xs : List Int} {v : V} (r : Rd Z H (tI xs) v) : rowAt H v = xs ∧ ∃ t, v = .ref t ∧ H t = some (.tup (xs.map V.int)) := by
  obtain ⟨a, vs, rfl, z, h1, h2⟩ := Rd.tup_iff.mp r
  have := Rds.ints h2
  subst this
  refine ⟨?_, a, rfl, h1⟩
  show (match H a with | some (.tup ws) => ws.map intOf | _ => []) = xs
  rw [h1]
  show (xs.map V.int).map intOf = xs
  rw [List.map_map]
  exact (List.map_congr_left fun _ _ => rfl).trans (List.map_id xs)
theorem rows_of {Z : Addr → Prop} {H : Hp} : ∀ {xss : List (List Int)} {vs : List V}, Rds Z H (xss.map tI) vs → vs.map (rowAt H) = xss ∧ ∀ v ∈ vs, Rd Z H (tI (rowAt H v)) v
  | [], vs, h => by
    have := Rds.nil_iff.mp h
    subst this
    exact ⟨rfl, fun v hv => absurd hv (by simp)⟩
  | xs :: xss, vs, h => by
    obtain ⟨v, r, rfl, h1, h2⟩ := Rds.cons_iff.mp h
    obtain ⟨e1, e2⟩ := rows_of h2
    have ea := (rowAt_ok h1).1
    refine ⟨by rw [List.map_cons, e1, ea], fun u hu => ?_⟩
    rcases List.mem_cons.mp hu with e | hu
    · subst e
      rw [ea]
      exact h1
    · exact e2 u hu
theorem of_rows {Z : Addr → Prop} {H : Hp} : ∀ {vs : List V}, (∀ v ∈ vs, Rd Z H (tI (rowAt H v)) v) → Rds Z H ((vs.map (rowAt H)).map tI) vs
  | [], _ => Rds.nil
  | v :: vs, h => Rds.cons (h v List.mem_cons_self) (of_rows fun u hu => h u (List.mem_cons_of_mem _ hu))
theorem cal_srtT {X : Cx} {M : Mo} {k : KT} {xss : List (List Int)} (hu : X.A.units + 64 < cLine) (q : k M (.lst ((srt xss).map tI))) : Cal X (.builtin "sorted") M [.lst (xss.map tI)] k :=
  cal_of (cr_srtT hu) fun vs H Q o r e => by
    obtain ⟨v, rfl, h⟩ := Rds.one_iff r
    obtain ⟨a, vs, rfl, z, h1, h2⟩ := Rd.lst_iff.mp h
    obtain ⟨e1, e2⟩ := rows_of h2
    refine ⟨a, vs, rowAt H, rfl, SqL.of h1, fun x hx => (rowAt_ok (e2 x hx)).2, fun ys p hs hb hp => ?_⟩
    have e3 : ys.map (rowAt H) = srt xss := srt_uniq (by rw [← e1]; exact hb.perm.map _) (List.pairwise_map.mpr hs)
    have e4 : Rds M.Z H ((ys.map (rowAt H)).map tI) ys := of_rows fun v hv => e2 v (hb.perm.mem_iff.mp hv)
    rw [e3] at e4
    exact e.upd o hp (Rd.newL o hp e4) q

end K3
namespace K9
open PySem PyProof.Rows
open AutoSeq1 (wpAny_loadPart')
theorem meets_enumT (l : Addr) (items : Array Value) (n : Nat) (dct : Option Addr) (sl : Array (Option Value)) :
    Meets (Builtin.«enumerate.__new__» ⟨[.type "enumerate", .ref l], []⟩) (fun _ R s => s.heap.get? l = some { cls := .type "tuple", dict := dct, data := .seq items n, slots := sl } ∧
      R (.ok (.ret (.ref (s.heap.push { cls := .type "tuple_iterator", data := .fields #[.ref l, .int 0 0] }).objs.size)))
        { s with heap := (s.heap.push { cls := .type "tuple_iterator", data := .fields #[.ref l, .int 0 0] }).push { cls := .type "enumerate", data := .fields #[.none, .bool false, .ref s.heap.objs.size, rawInt 0, .none, .none] } }) :=
  .of_wp fun prog w A R s h => by
    obtain ⟨hp, g, d, tk, os⟩ := s; obtain ⟨hl, h⟩ := h
    have hsub := sub_enumerate
    have hL : Heap.IsTuple (Shared.heap ⟨hp, g, d, tk, os⟩) l items := ⟨_, hl, rfl, n, rfl⟩
    wp_walk using wpAny_loadPart' hl
    refine wpAny_stack_any fun st => wpAny_pure ?_
    split
    · rename_i c _ _ _ _ _
      cases (c == Value.type "enumerate")
      · wp_walk using wpAny_loadPart' hl, wpAny_pyIter_tuple hL
        exact ⟨_, rfl, h⟩
      · wp_walk using wpAny_loadPart' hl, wpAny_pyIter_tuple hL
        exact ⟨_, rfl, h⟩
    · wp_walk using wpAny_loadPart' hl, wpAny_pyIter_tuple hL
      exact ⟨_, rfl, h⟩
theorem call_enumT {prog : Program} {w : World} {A : Around} {E : Value → Shared → Prop} {s : Shared} {l : Addr} {items : Array Value} {Q : Value → Shared → Prop} (hL : s.heap.IsTuple l items)
    (h : ∀ h', IsEnum h' (s.heap.objs.size + 1) s.heap.objs.size 0 .none → h'.IsTupleIter s.heap.objs.size l 0 → h'.objs.size = s.heap.objs.size + 2 →
      (∀ b o, s.heap.get? b = some o → h'.get? b = some o) → Q (.ref (s.heap.objs.size + 1)) { s with heap := h' }) :
    wpAny (model prog w) A (call (.type "enumerate") [.ref l]) Q E s := by
  obtain ⟨⟨c, dct, dt, sl⟩, hl, hc, n, hd⟩ := hL
  replace hc : c = .type "tuple" := hc
  replace hd : dt = .seq items n := hd
  subst hc hd
  refine callType_new F.called_enumerate (by decide) (F.typeCall_enumerate_1 _) (F.newCall_enumerate_1 _) (fun obj => F.args_object_init_2 obj _) F.entry_enumerate_new
    (meets_enumT l items n dct sl) ⟨hl, ?_⟩
  have hz : (s.heap.push { cls := .type "tuple_iterator", data := .fields #[.ref l, .int 0 0] }).objs.size = s.heap.objs.size + 1 := Heap.size_push ..
  show _ ∧ _
  rw [hz]
  have he : IsEnum ((s.heap.push { cls := .type "tuple_iterator", data := .fields #[.ref l, .int 0 0] }).push
      { cls := .type "enumerate", data := .fields #[.none, .bool false, .ref s.heap.objs.size, rawInt 0, .none, .none] }) (s.heap.objs.size + 1) s.heap.objs.size 0 .none := by
    have := Heap.get?_push_size (s.heap.push { cls := .type "tuple_iterator", data := .fields #[.ref l, .int 0 0] })
      (o := { cls := .type "enumerate", data := .fields #[.none, .bool false, .ref s.heap.objs.size, rawInt 0, .none, .none] }) rfl
    rw [hz] at this; exact this
  refine ⟨⟨_, he, rfl⟩, h _ he ⟨_, Heap.get?_push_of_some _ (Heap.get?_push_size _ rfl), rfl, rfl⟩ (by rw [Heap.size_push, hz]) fun b o x => Heap.get?_push_of_some _ (Heap.get?_push_of_some _ x)⟩
end K9
namespace K3
open PySem PySem.Spec PyProof.Rows L2 RZ
/-- the tuple at a, each item in a new pair -/
def IteT (a : Addr) : It :=
  ⟨fun i H => ∃ (xs : List V) (x : V), H a = some (.tup xs) ∧ xs[i]? = some x, fun i H v H' => ∃ T x, v = .ref T ∧ H T = none ∧ H' = upd H T (.tup [.int (i : Nat), x]) ∧ ∀ xs, H a = some (.tup xs) → xs[i]? = some x, fun i H => ∃ xs : List V, H a = some (.tup xs) ∧ i = xs.length⟩
theorem turn_enumT {P : Program} {w : World} {K : PySem.W.Frag} {elts : List Expr} {kk : Nat} {tpos : Pos} (a e it : Addr) :
    Turn P w K (.Tuple elts kk tpos) (IteT a) [e, it] e (fun i h => (∃ old, IsEnum h e it ((i : Nat) : Int) old) ∧ h.IsTupleIter it a i ∧ e ≠ it ∧ a ≠ e ∧ a ≠ it) where
  mem := by simp
  obj := fun i h st b hb => by
    obtain ⟨⟨old, he⟩, ⟨o, ho, hc, hd⟩, _⟩ := st
    have e' : b = e ∨ b = it := by simpa using hb
    rcases e' with z | z
    · rw [z]; exact ⟨_, he, fun v q => nomatch q⟩
    · rw [z]; exact ⟨o, ho, fun v q => by rw [hd] at q; cases q⟩
  keep := fun i h h' st k => let ⟨⟨old, he⟩, hi, hne⟩ := st; ⟨⟨old, k e (by simp) _ he⟩, hi.at fun o q => k it (by simp) o q, hne⟩
  item := by
    intro X hP hw hK hc i pins s σ H E I hf st hg
    subst hP hw hK
    obtain ⟨⟨old, he⟩, hit, hne, na, nb⟩ := st
    obtain ⟨xs, x, hq, hx⟩ := hg
    obtain ⟨its, rv, p, hz⟩ := I.tuple (SqT.of hq)
    obtain ⟨u, hu, ru⟩ := rv.get hx
    have hel : e < s.heap.objs.size := Heap.lt_size he
    have hil : it < s.heap.objs.size := by obtain ⟨_, q, _⟩ := hit; exact Heap.lt_size q
    have p' : s.heap.IsTuple a its.toArray := p
    have hu' : its.toArray[i]? = some u := by simpa using hu
    have hlt : i < its.toArray.size := (Array.getElem?_eq_some_iff.mp hu').1
    refine wpAny_pyNext_enum_itemD (Draws.tuple (A := X.A.in1) (I.ok.hd hc) it a nb its.toArray) he ⟨hit, p'⟩ hlt hne (by simp [hne, Ne.symm na]) fun x2 h' tk hx2 ho hst hT hsz hk => ?_
    rw [hu'] at hx2
    cases hx2
    obtain ⟨hit', _⟩ := hst
    refine ⟨_, rfl, wpAny_letOwnedTupleGo_enum (s := { s with heap := h', toks := tk + 1 }) ho fun h'' he' sb => ?_⟩
    have hT2 : h''.get? s.heap.objs.size = some { cls := .type "tuple", data := .seq #[.int i tk, u] } := (sb.2 _ (Nat.ne_of_gt hel)).trans hT
    have new : ObjOk X.prog X.w (upd H s.heap.objs.size (.tup [.int (i : Nat), x])) h'' s.heap.objs.size (.tup [.int (i : Nat), x]) :=
      ⟨by show 2 ≤ sizeLine; decide, [.int i tk, u], .cons ⟨_, rfl⟩ (.cons ru .nil), ⟨_, hT2, rfl, _, rfl⟩⟩
    have I1 : Inv X pins σ (upd H s.heap.objs.size (.tup [.int (i : Nat), x])) { s with heap := h'', toks := tk + 1 } :=
      I.turnedNew (ch := [e, it]) (fun b ob hb q => (sb.2 b (fun z => hb (by simp [z]))).trans (hk b ob (fun z => hb (by simp [z])) (fun z => hb (by simp [z])) q)) hf (Nat.le_refl _) new
    refine ⟨.ref s.heap.objs.size, _, I1, rfl, ⟨_, x, rfl, I.hok.fresh (Nat.le_refl _), rfl, fun ys hy => by rw [hq] at hy; cases hy; exact hx⟩, ⟨⟨u, ?_⟩, hit'.at fun o q => (sb.2 it (Ne.symm hne)).trans q, hne, na, nb⟩, fun b hb => ?_⟩
    · have e1 : ((i + 1 : Nat) : Int) = (i : Int) + 1 := by omega
      rw [e1]; exact he'
    · have hb' : b < s.heap.objs.size := by
        have e' : b = e ∨ b = it := by simpa using hb
        rcases e' with z | z
        · rw [z]; exact hel
        · rw [z]; exact hil
      rw [upd_ne (Nat.ne_of_lt hb')]
      exact (hf b hb).1
  done := by
    intro X hP hw hK hc i pins s σ H E I hf st hg
    subst hP hw hK
    obtain ⟨⟨old, he⟩, hit, hne, na, nb⟩ := st
    obtain ⟨xs, hq, hx⟩ := hg
    obtain ⟨its, rv, p, hz⟩ := I.tuple (SqT.of hq)
    obtain ⟨f0, f1, f2, f3, f4, f5⟩ := hf it (by simp)
    have hl := rv.length
    have p' : s.heap.IsTuple a its.toArray := p
    have hi : i = its.toArray.size := by simp; omega
    subst hi
    exact wpAny_pyNext_enum_endD (Draws.tuple (A := X.A.in1) (I.ok.hd hc) it a nb its.toArray) he ⟨hit, p'⟩ fun h' eb => ⟨rfl, I.turned (t' := s.toks) (fun b o hb q => eb b o hb q) f0 f1 f3 f4 f5⟩
  self := fun A i s Q E st h => let ⟨⟨_, he⟩, _⟩ := st; wpAny_pyIter_enum he h
def iEnumT (ta : TA) : TI := fun σ H R => ta σ H fun vs H1 => ∃ a xs, vs = [.ref a] ∧ H1 a = some (.tup xs) ∧ R (IteT a) H1
theorem pi_enumT {X : Cx} {e : Expr} {ta : TA} {p pos tpos : Pos} {elts : List Expr} {kk : Nat} (hg : Gl X "enumerate") (hm : X.mg "enumerate" = none) (ha : PA X [e] ta) (hs : starEach [e] X.env = [(false, eval e X.env)]) :
    PI X (.Tuple elts kk tpos) (.Call (.Name "enumerate" p) [e] [] pos) (iEnumT ta) := by
  refine ⟨fun pins s σ H R I h => ?_⟩
  refine Call_ (ld_blt I hg hm boot_enumerate (PyProof.Rows.callWith_type1 (thn (ha.run pos pins s σ H _ I h) fun us s1 ⟨vs, H1, I1, r1, q1⟩ => ?_) hs rfl))
  obtain ⟨a, xs, ex, hq, q⟩ := q1
  subst ex
  cases r1 with
  | cons r rr =>
    cases rr
    cases r
    obtain ⟨its, rv, p', hz⟩ := I1.tuple (SqT.of hq)
    have p2 : s1.heap.IsTuple a its.toArray := p'
    have hal : a < s1.heap.objs.size := by
      obtain ⟨o, ho, _⟩ := p2
      exact Heap.lt_size ho
    refine K9.call_enumT p2 fun h' he hit hsz hk => wpAny_pyIter_enum he ?_
    have I2 : Inv X pins σ H1 { s1 with heap := h' } := I1.kept (t' := s1.toks) hk
    refine ⟨s1.heap.objs.size + 1, [s1.heap.objs.size + 1, s1.heap.objs.size], _, _, H1, rfl, I2, turn_enumT a (s1.heap.objs.size + 1) s1.heap.objs.size, ⟨⟨.none, he⟩, hit, Nat.succ_ne_self _, Nat.ne_of_lt (Nat.lt_succ_of_lt hal), Nat.ne_of_lt hal⟩, fun b hb => ?_, q⟩
    have e' : b = s1.heap.objs.size + 1 ∨ b = s1.heap.objs.size := by simpa using hb
    have hle : s1.heap.objs.size ≤ b := by
      rcases e' with z | z
      · rw [z]; exact Nat.le_add_right _ _
      · rw [z]; exact Nat.le_refl _
    exact I1.fpOk hle (I1.hok.fresh hle)
/-- numbered -/
def enT : Nat → List T → List T
  | _, [] => []
  | n, t :: ts => .tup [.int (n : Int), t] :: enT (n + 1) ts
theorem enT_len : ∀ (n : Nat) (ts : List T), (enT n ts).length = ts.length
  | _, [] => rfl
  | n, t :: ts => by
    show (enT (n + 1) ts).length + 1 = _
    rw [enT_len (n + 1) ts]
    rfl
theorem enT_get : ∀ {ts : List T} {n i : Nat} {t : T}, ts[i]? = some t → (enT n ts)[i]? = some (.tup [.int ((n + i : Nat) : Int), t])
  | [], _, i, t, h => by simp at h
  | t :: ts, n, 0, u, h => by
    cases h
    rfl
  | t :: ts, n, i + 1, u, h => by
    have := enT_get (ts := ts) (n := n + 1) (i := i) (t := u) (by simpa using h)
    have e : n + 1 + i = n + (i + 1) := by omega
    rw [e] at this
    exact this
theorem src_enumL {K : PySem.W.Frag} {a : Addr} {ts : List T} {vs : List V} : Src (Ite K a) (enT 0 ts) (LstAt a ts vs) where
  stay := LstAt.stay
  go := fun ⟨z, h, r⟩ hi => by
    rw [enT_len] at hi
    obtain ⟨t, v, _, hv, _⟩ := r.ix hi
    exact ⟨vs, v, SqL.of h, hv⟩
  stop := fun ⟨z, h, r⟩ hie => ⟨vs, SqL.of h, by rw [r.length, hie, enT_len]; exact Nat.le_refl _⟩
  yld := fun {M H i x H'} o ⟨z, h, r⟩ hi y => by
    rw [enT_len] at hi
    obtain ⟨t, v, ht, hv, hr⟩ := r.ix hi
    obtain ⟨A, x1, rfl, nA, rfl, y1⟩ := y
    have e1 := y1 _ (SqL.of h)
    rw [hv] at e1
    cases e1
    refine ⟨_, enT_get ht, same_upd nA, Rd.newT o nA (Rds.cons (Rd.int_iff.mpr ?_) (Rds.one hr))⟩
    rw [Nat.zero_add]
theorem src_enumT {a : Addr} {ts : List T} {vs : List V} : Src (IteT a) (enT 0 ts) (TupAt a ts vs) where
  stay := TupAt.stay
  go := fun ⟨z, h, r⟩ hi => by
    rw [enT_len] at hi
    obtain ⟨t, v, _, hv, _⟩ := r.ix hi
    exact ⟨vs, v, h, hv⟩
  stop := fun ⟨z, h, r⟩ hie => ⟨vs, h, by rw [r.length, hie, enT_len]⟩
  yld := fun {M H i x H'} o ⟨z, h, r⟩ hi y => by
    rw [enT_len] at hi
    obtain ⟨t, v, ht, hv, hr⟩ := r.ix hi
    obtain ⟨A, x1, rfl, nA, rfl, y1⟩ := y
    have e1 := y1 _ h
    rw [hv] at e1
    cases e1
    refine ⟨_, enT_get ht, same_upd nA, Rd.newT o nA (Rds.cons (Rd.int_iff.mpr ?_) (Rds.one hr))⟩
    rw [Nat.zero_add]
section
variable {X : Cx} {M : Mo} {sl : Sl} {ki : Mo → List T → Prop} {pos : Pos}
theorem wpi_enumL {e : Expr} {p tpos : Pos} {elts : List Expr} {kk : Nat} (hm : X.mg "enumerate" = none) (hg : Gl X "enumerate") (hs : starEach [e] X.env = [(false, eval e X.env)])
    (h : Wp X M e sl fun M1 t => ∃ ts, t = .lst ts ∧ ki M1 (enT 0 ts)) : WpI X M (.Tuple elts kk tpos) (.Call (.Name "enumerate" p) [e] [] pos) sl ki := fun σ H R o s e' =>
  tWI_of (pi_enum hg hm (pa_cons pe_tW pa_nil hs) hs) (h σ H _ o s fun v H1 M1 t f1 o1 r1 ⟨ts, ht, k1⟩ => by
    subst ht
    obtain ⟨a, vs, rfl, z, hh, r⟩ := Rd.lst_iff.mp r1
    exact ⟨a, vs, rfl, SqL.of hh, e' _ H1 M1 _ _ f1 o1 (src_enumL (vs := vs)) ⟨z, hh, r⟩ k1⟩)
theorem wpi_enumT {e : Expr} {p tpos : Pos} {elts : List Expr} {kk : Nat} (hm : X.mg "enumerate" = none) (hg : Gl X "enumerate") (hs : starEach [e] X.env = [(false, eval e X.env)])
    (h : Wp X M e sl fun M1 t => ∃ ts, t = .tup ts ∧ ki M1 (enT 0 ts)) : WpI X M (.Tuple elts kk tpos) (.Call (.Name "enumerate" p) [e] [] pos) sl ki := fun σ H R o s e' =>
  tWI_of (pi_enumT hg hm (pa_cons pe_tW pa_nil hs) hs) (h σ H _ o s fun v H1 M1 t f1 o1 r1 ⟨ts, ht, k1⟩ => by
    subst ht
    obtain ⟨a, vs, rfl, z, hh, r⟩ := Rd.tup_iff.mp r1
    exact ⟨a, vs, rfl, hh, e' _ H1 M1 _ _ f1 o1 (src_enumT (vs := vs)) ⟨z, hh, r⟩ k1⟩)
end


end K3
namespace K9
open PySem PySem.W PySem.Calls PyProof.Rows PySem.HandSPX
theorem one_size (v : Value) : [v].length ≤ sizeLine := by
  rw [sizeLine_eq]
  exact (by decide : 1 ≤ 16777216)
theorem ldC {M : Model} {s : Shared} {name : Str} {scope : Scope} {L a : Addr} {cd : Value} {m : Str → Option Value} {x : Str} {pos : Pos} {v : Value} {Q : Value → Shared → Prop} {A : Around} {E : Value → Shared → Prop} (hn : s.heap.Ns L m) (hv : m x = some v) (h : Q v s)
    (hk : scope.kind = .function := by rfl) (hl : (envOfC name scope L a cd).kindOf x = some .local := by rfl) (hd : (x == ("__debug__" : Str)) = false := by decide) :
    wpAny M A (eval (.Name x pos) (envOfC name scope L a cd)) Q E s := wpAny_Name (wpAny_loadName_local hk hl hn hv h) hd
structure InitEnd (fld : Str) (h h' : Heap) (x C dx t1 : Addr) (v : Value) : Prop where
  keep : ∀ b o, b ≠ x → h.get? b = some o → h'.get? b = some o
  obj : h'.get? x = some { cls := .ref C, dict := some dx, data := .fields #[.ref t1, .none, .none, .none, .bool false, .none] }
  dbig : h.objs.size ≤ dx
  dne : dx ≠ x
  ns : h'.Ns1 dx (fun y => if y = fld then some v else none)
structure OwnMade (fld : Str) (h h' : Heap) (e C d : Addr) (v : Value) : Prop where
  keep : ∀ b o, h.get? b = some o → h'.get? b = some o
  new : h.objs.size ≤ e
  obj : ∃ oe vs, h'.get? e = some oe ∧ oe.cls = .ref C ∧ oe.dict = some d ∧ oe.data = .fields vs ∧ vs[1]? = some .none
  dbig : h.objs.size ≤ d
  dne : d ≠ e
  ns : h'.Ns1 d (fun y => if y = fld then some v else none)
section
open Builtin Builtin.ObjectAttr
variable {prog : Program} {w : World} {A : Around} {E : Value → Shared → Prop} {R : Result → Shared → Prop} {hp : Heap} {g : Array GenState} {d : Drawn} {t : Nat} {os : OsState}
/-- the first field of an exception, of any built-in base -/
theorem exc_osa {K : W.Frag} {name : Str} {tk : Tok} {v : Value} {x C : Addr} {fv : Array Value} {cd : ClassData}
    (X : K.In hp) (hx : hp.get? x = some { cls := .ref C, data := .fields fv }) (hcd : W.clsIn K C = some cd) (ne : cd.mro.isEmpty = false) (hob : cd.mro.contains (.type "object") = true) (hps : ∀ self, refuseLoop self "__setattr__" cd.mro = pure ()) (hh : cd.hasDict = true) (ha : W.findIn K (.ref C) name = some none)
    (hq : ∀ h' tk' dx, (∀ b o, b ≠ x → hp.get? b = some o → h'.get? b = some o) → hp.objs.size ≤ dx → dx ≠ x → h'.get? x = some { cls := .ref C, dict := some dx, data := .fields fv } →
      h'.Ns1 dx (fun y => if y = name then some v else none) → R (.ok (.ret .none)) ⟨h', g, d, tk', os⟩) :
    codeAny (model prog w) A (.call (.builtin "object.__setattr__") ⟨[.ref x, .str name tk, v], []⟩) R ⟨hp, g, d, t, os⟩ := by
  have I : W.InstAt hp x { cls := .ref C, data := .fields fv } C none := ⟨hx, rfl, rfl, trivial⟩
  have SF := F.store_object
  have hxs : x ≠ hp.objs.size := Nat.ne_of_lt (Heap.lt_size hx)
  have sub : W.Looks (model prog w) hp (isInstance (.ref x) (.type "object")) true := I.type.andThen (W.looks_mroIn X (by unfold W.mroIn; rw [hcd, Option.bind_some, if_neg (by rw [ne]; decide), hob]))
  refine codeAny_call_builtin SF.slot.plain SF.entry (@W.check_slot (model prog w) _ _ ⟨hp, g, d, t, os⟩ "object.__setattr__" "object" "__setattr__" (.ref x) [.str name tk, v] [] _ SF.kind SF.split sub (SF.args (.ref x) (.str name tk) v) ?_)
  have hmr : W.Looks (model prog w) hp (mroOf (.ref C)) cd.mro := (W.looks_clsIn X hcd).andThen .now
  have L3 : W.Looks (model prog w) hp (storeTaker? none) none := .now
  have hcls : W.Looks (model prog w) hp (classData C) cd := W.looks_clsIn X hcd
  rw [W.osa_eq, refuse_eq]
  refine wpAny_bind (wpAny_bind (I.type.at (wpAny_bind (hmr.at ?_))))
  rw [hps]
  refine wpAny_pure (wpAny_bind (I.type.at (wpAny_bind ((W.looks_findIn X ha).at (wpAny_bind (L3.at ?_))))))
  show wpAny _ _ (storeInOwnDict (.ref x) (.ref C) (.str name tk) name v false) _ _ _
  obtain ⟨nm, bs, mro, ns, qn, hd, sn, sb, ab, col, del⟩ := cd
  dsimp only at hh
  subst hh
  unfold storeInOwnDict ownDictForStores
  repeat (first | with_reducible refine store_in_new ?_ ?_ | with_reducible refine wpAny_loadPart_at hx ?_ | with_reducible refine hcls.at ?_ | wp_step)
  · exact ⟨_, #[], _, (Heap.get?_update_ne _ _ _ _ hxs.symm).trans (Heap.get?_push_at rfl rfl), rfl, fun e he => absurd he (by simp), fun _ => rfl⟩
  · intro h' tk' hn' hs
    have hx₁ : (hp.push { cls := .type "dict", data := .dict #[] }).get? x = some { cls := .ref C, data := .fields fv } := Heap.get?_push_of_some _ hx
    refine hq h' tk' hp.objs.size (fun b o hb ho => ?_) (Nat.le_refl _) hxs.symm ?_ hn'
    · exact (hs.2 b (Nat.ne_of_lt (Heap.lt_size ho))).trans ((Heap.get?_update_ne _ _ _ _ hb).trans (Heap.get?_push_of_some _ ho))
    · exact (hs.2 x hxs).trans (Heap.get?_update_self _ hx₁ rfl)
end
section
variable {prog : Program} {w : World} {A : Around} {E : Value → Shared → Prop} {s : Shared} {K : Frag} {x D : Addr} {ox : Obj} {odd : Option Obj}
theorem findObj_dataD {C : Addr} {name : Str} {a g : Value} (hc : (clsIn K C).isSome = true) (ha : findIn K (.ref C) name = some (some a)) (hg : specialIn K a "__get__" = some (some g)) (ht : takesIn K a = some true) : findObj K C odd name = some (.bind g a) := by
  obtain ⟨cd, hc⟩ := Option.isSome_iff_exists.mp hc
  unfold findObj
  rw [hc, Option.bind_some, ha, Option.bind_some]
  simp [hg, ht]
theorem kin_classD {Q : Option Value → Shared → Prop} (hga : findIn K (.ref D) "__getattribute__" = some (some (.builtin "BaseException.__getattribute__"))) (hgt : findIn K (.ref D) "__getattr__" = some none) (hsub : subIn K (.ref D) (.type "BaseException") = some true)
    (hdct : hasDictIn K D = true) (ha : findIn K (.ref D) "__class__" = some (some (.builtin "object.__class__")))
    (hn : specialIn K (.builtin "object.__class__") "__get__" = some (some (.builtin "getset_descriptor.__get__"))) (htk : takesIn K (.builtin "object.__class__") = some true) (hm : mroIn K D (.type "object") = some true)
    (X : K.In s.heap) (I : InstAt s.heap x ox D odd) (h : Q (some (.ref D)) { s with toks := s.toks + 1 }) : wpAny (model prog w) A (getAttr? (.ref x) "__class__") Q E s := by
  have hf : findObj K D odd "__class__" = some (.bind (.builtin "getset_descriptor.__get__") (.builtin "object.__class__")) := findObj_dataD (by obtain ⟨cd, hc, _⟩ := any_some hdct; rw [hc]; rfl) ha hn htk
  obtain ⟨hp, g, d, t, os⟩ := s
  have L0 := I.type (M := model prog w)
  have L1 := looks_findIn (M := model prog w) X hga
  have L2 := looks_findIn (M := model prog w) X hgt
  have L3 := looks_find (M := model prog w) X I hf
  have sub : Looks (model prog w) hp (isInstance (.ref x) (.type "BaseException")) true := L0.andThen (looks_subIn X hsub)
  have hx0 : (false && onTheHeap (Value.builtin "BaseException.__getattribute__")) = false := rfl
  have hx2 : (Value.builtin "BaseException.__getattribute__" == Value.builtin "object.__getattribute__") = false := by decide +kernel
  have hx1 : (onTheHeap (Value.ref D) && Value.builtin "BaseException.__getattribute__" == Value.builtin "object.__getattribute__") = false := by rw [hx2]; rfl
  unfold getAttr? getAttrBy? getAttrBy
  refine wpAny_bind (wpAny_mkText (wpAny_bind (wpAny_attempt (wpAny_holding (wpAny_bind (L0.at (wpAny_bind (L1.at ?_))))))))
  show wpAny _ _ (if (onTheHeap (Value.ref D) && Value.builtin "BaseException.__getattribute__" == Value.builtin "object.__getattribute__") = true then _ else _) _ _ _
  rw [hx1, if_neg Bool.false_ne_true]
  unfold getAttrByItsOwn hookBefore
  refine wpAny_bind ?_
  rw [if_pos (show onTheHeap (Value.ref D) = true from rfl)]
  refine L2.at ?_
  refine wpAny_bind (wpAny_attempt (wpAny_holding ?_))
  unfold callGetattribute
  rw [hx0, if_neg Bool.false_ne_true]
  unfold boundAndCalled
  rw [PySem.F.excAttr_ValueError.ga.bind (.ref x)]
  refine wpAny_bind (wpAny_pure ?_)
  show wpAny _ _ (call (.builtin "BaseException.__getattribute__") [.ref x, .str "__class__" t]) _ _ _
  refine wpAny_call (codeAny_call_builtin PySem.F.excAttr_ValueError.ga.plain PySem.F.entry_bexc_ga ?_)
  refine @check_slot (model prog w) _ _ ⟨hp, g, d, t + 1, os⟩ "BaseException.__getattribute__" "BaseException" "__getattribute__" (.ref x) [.str "__class__" t] [] _ (by decide +kernel) (by decide +kernel) sub (PySem.F.args_bexc_ga (.ref x) (.str "__class__" t)) ?_
  unfold Builtin.«object.__getattribute__»
  refine wpAny_bind (wpAny_of_eq (a := ((Value.ref x : Value), [Value.str "__class__" t])) (by first | rfl | (simp only [slotArgs]; rfl)) ?_)
  refine wpAny_bind (wpAny_pure (wpAny_bind (L0.at (wpAny_bind (L3.at ?_)))))
  show wpAny _ _ (holding [Value.builtin "object.__class__"] (call (.builtin "getset_descriptor.__get__") [.builtin "object.__class__", .ref x, .ref D]) >>= ret) _ _ _
  refine wpAny_bind (wpAny_holding (wpAny_call (class_get (s := ⟨hp, g, d, t + 1, os⟩) (ox := ox) (od := odd) X I hm ?_)))
  refine wpAny_pure ?_
  show wpAny _ _ (handedOut (.ref D)) _ _ _
  rw [handedOut_of (v := .ref D) rfl]
  first
    | exact wpAny_pure (wpAny_pure h)
    | exact wpAny_pure h
    | exact wpAny_pure (wpAny_bind (wpAny_pure (wpAny_pure h)))
theorem kitx_exc (hga : findIn K (.ref D) "__getattribute__" = some (some (.builtin "BaseException.__getattribute__"))) (hgt : findIn K (.ref D) "__getattr__" = some none) (hsub : subIn K (.ref D) (.type "BaseException") = some true) (hdct : hasDictIn K D = true) (ha : findIn K (.ref D) "__class__" = some (some (.builtin "object.__class__")))
    (hn : specialIn K (.builtin "object.__class__") "__get__" = some (some (.builtin "getset_descriptor.__get__"))) (htk : takesIn K (.builtin "object.__class__") = some true) (hm : mroIn K D (.type "object") = some true) :
    KitX K (.ref x) (.ref D) (fun h => InstAt h x ox D odd) where
  ty := fun _ _ _ I => I.type
  it := fun _ _ X _ => by
    obtain ⟨cdD, hcD, _⟩ := any_some hdct
    unfold clsIn at hcD
    split at hcD
    · rename_i c' d' cd' sl' ho
      intro A' Q' E' s' k q
      unfold isType loadHead
      exact wpAny_bind (wpAny_loadPart (k _ _ (X _ _ ho)) (wpAny_pure q))
    · cases hcD
  ne := fun h tp dd its n sl X htp => by
    obtain ⟨cdD, hcD, _⟩ := any_some hdct
    refine Bool.eq_false_iff.mpr fun q => ?_
    have e : D = tp := Value.ref.inj (beq_iff_eq.mp q)
    subst e
    unfold clsIn at hcD
    split at hcD
    · rename_i c' d' cd' sl' ho
      have z := (X _ _ ho).symm.trans htp
      cases z
    · cases hcD
  ca := fun X I k => kin_classD hga hgt hsub hdct ha hn htk hm X I k
end
end K9
namespace K3
open PySem PySem.Spec PyProof.Rows L2
/-- isinstance(e, c), e the exception that the suite holds, with a dict of its own -/
def rIsED (K : PySem.W.Frag) (D a dd : Addr) : List V → Hp → VK → Prop := fun xs H Q => ∃ (c : V) (cv : Value) (b : Bool) (fs : List (Str × V)), xs = [.ref a, c] ∧ (∀ u, RelV c u → u = cv) ∧ PySem.W.kitOne K (.ref D) cv = some b ∧ H dd = some (.xd fs) ∧ Q (.bl b) H
theorem call_isED {X : Cx} {a D dd : Addr} {oe : Obj} {pn : List (Addr × Obj)} (C : ExcC X.K D) (hz : Zc (.ref D) (some dd) oe) (hf : ∃ vs, oe.data = .fields vs) : CallR (X.suite a ((a, oe) :: pn)) (.builtin "isinstance") (rIsED X.K D a dd) := by
  intro pins s σ H xs us Q I r h
  obtain ⟨c, cv, b, fs, rfl, hcv, e, ea, q⟩ := h
  cases r with
  | cons rx rr =>
    cases rr with
    | cons rt rr =>
      cases rr
      cases rx
      have ec := hcv _ rt
      subst ec
      obtain ⟨hget, _⟩ := I.pin (a, oe) (List.mem_append.mpr (.inl List.mem_cons_self))
      obtain ⟨vs, hv⟩ := hf
      have hx : ObjOk X.prog X.w H s.heap dd (.xd fs) := I.hok dd _ ea
      obtain ⟨mA, hns, hr⟩ := hx
      obtain ⟨od, ho, hl⟩ := lookIn_ns hns
      have J : PySem.W.InstAt s.heap a oe D (some od) := ⟨hget, hz.1, by unfold PySem.W.notCls; rw [hv] <;> rfl, by rw [hz.2]; exact ho⟩
      exact PySem.W.kia_one (K9.kitx_exc C.hg C.hk C.hs C.hd C.ha C.hn C.ht C.hm) I.kIn J e (fun z => nomatch z) fun tk => ⟨.bl b, H, I.kept (t' := tk) fun _ _ z => z, rfl, q⟩
/-- what a suite that returns [word, error.field, True] wishes -/
abbrev tsX (i : Nat) (C : Addr) (fld word : Str) : Addr → Value → Option Addr → TS := fun a cls d D σ H => σ[i]? = some (some (.ref a)) ∧ cls = .ref C ∧ ∃ (dd : Addr) (n : Int), d = some dd ∧ H dd = some (.xd [(fld, .int n)]) ∧ ∀ p, H p = none → D.rt (.ref p) (upd H p (.lst [.str word, .int n, .bl true]))
/-- C(e): the exception's field -/
def tMkE (fld : Str) (C : Addr) (ta : TA) : L2.St → Hp → XK → Prop := fun σ H Q => ta σ H fun vs H1 => ∃ v, vs = [v] ∧ ∀ d, H1 d = none → Q (.ref C) (some d) (upd H1 d (.xd [(fld, v)]))
theorem relO_one {fld : Str} {v : V} {v' : Value} (r : RelV v v') (f : Str) : RelO (List.lookup f [(fld, v)]) (if f = fld then some v' else none) := by
  by_cases hw : f = fld
  · subst hw
    rw [if_pos rfl]
    have q : List.lookup f [(f, v)] = some v := by simp [List.lookup]
    rw [q]
    exact r
  · rw [if_neg hw]
    have qw : (f == fld) = false := by simpa using hw
    have q2 : List.lookup f [(fld, v)] = none := by simp [List.lookup, qw]
    rw [q2]
    trivial
theorem mkP_own {X : Cx} {C : Addr} {fld : Str} {pins : List (Addr × Obj)} {σ : L2.St} {H1 : Hp} {Q : XK} {v : V} {v' : Value} {hp h' : Heap} {g : Array GenState} {dr : Drawn} {tk tk' : Nat} {os : OsState} {e d : Addr} (I1 : Inv X pins σ H1 ⟨hp, g, dr, tk, os⟩) (rv : RelV v v') (M : K9.OwnMade fld hp h' e C d v')
    (hx : PySem.W.subIn X.K (.ref C) (.type "BaseException") = some true) (ht : PySem.W.typeIn X.K (.ref C) = some (.type "type")) (q1 : ∀ d, H1 d = none → Q (.ref C) (some d) (upd H1 d (.xd [(fld, v)]))) : MkP X pins σ Q (.ref e) ⟨h', g, dr, tk', os⟩ := by
  obtain ⟨oe, fv, hoe, hc, hd, hdat, h1⟩ := M.obj
  have hns := M.ns
  obtain ⟨G', g1, g2⟩ := restrict h' fun b => decide (b ≠ e)
  have gk : ∀ b, b ≠ e → G'.get? b = h'.get? b := fun b hb => g1 b (decide_eq_true hb)
  have ge : G'.get? e = none := g2 e (by simp)
  have old : ∀ b o, hp.get? b = some o → G'.get? b = some o := fun b o q => (gk b (Nat.ne_of_lt (Nat.lt_of_lt_of_le (Heap.lt_size q) M.new))).trans (M.keep b o q)
  have ob : ObjOk X.prog X.w (upd H1 d (.xd [(fld, v)])) G' d (.xd [(fld, v)]) :=
    ⟨_, hns.at (fun o q => (gk d M.dne).trans q), fun f => relO_one rv f⟩
  have J : Inv X pins σ (upd H1 d (.xd [(fld, v)])) ⟨G', g, dr, tk', os⟩ := I1.laid (t' := tk') old M.dbig ob
  refine ⟨e, oe, fv, ⟨G', g, dr, tk', os⟩, _, .ref C, some d, rfl, J, fun b o q => ?_, ge, hoe, ⟨hc, hd⟩, hdat, h1, ?_, rfl, I1.bare, raises_own hx ht, q1 d (I1.hok.fresh M.dbig)⟩
  · by_cases hb : b = e
    · have q' : G'.get? b = some o := q
      rw [hb, ge] at q'; cases q'
    · exact (gk b hb).symm.trans q
  · rw [upd_ne (Ne.symm M.dne)]
    exact I1.hok.fresh M.new

end K3
namespace PySem
namespace XNoLamp
open PySem.W PySem.Calls PyProof.Rows PySem.HandSPX
def iA (p1 p2 : Pos) : Arguments := { posonlyargs := [], args := [{ arg := "self", annotation := none, pos := p1 }, { arg := "lamp", annotation := none, pos := p2 }], vararg := none, kwonlyargs := [], kw_defaults := [], kwarg := none, defaults := [] }
def iB (q1 q2 q3 q4 : Pos) : List Stmt := [.Assign [.Attribute (.Name "self" q1) "lamp" q2] (.Name "lamp" q3) q4]
def iS : Scope := { kind := .function, names := [(PySem.Str.ofString "self", .local), (PySem.Str.ofString "lamp", .local)], isGenerator := false, isCoroutine := false, more := [] }
/-- what the written part says of the class at C, of its __init__ at fI -/
structure Txt (K : Frag) (mg : Str → Option Value) (C fI : Addr) : Prop where
  gC : mg "NoLamp" = some (.ref C)
  cls : ∃ nm q N bs sn sub ab col dd k0 k1 k2 k3 k5, K.lookup C = some (excClassObj nm q C N bs [.type "LookupError", .type "Exception", .type "BaseException", .type "object"] true sn sub ab col dd k0 k1 k2 k3 k5 "LookupError.__new__")
  sa : findIn K (.ref C) "__setattr__" = some (some (.builtin "object.__setattr__"))
  ga : findIn K (.ref C) "__getattribute__" = some (some (.builtin "BaseException.__getattribute__"))
  gg : findIn K (.ref C) "__getattr__" = some none
  noN : findIn K (.ref C) "lamp" = some none
  iC : findIn K (.ref C) "__init__" = some (some (.ref fI))
  tC : typeIn K (.ref fI) = some (.type "function")
  kC : keepIn K (.ref C) = true
  exC : subIn K (.ref C) (.type "BaseException") = some true
  tyC : typeIn K (.ref C) = some (.type "type")
  hdC : hasDictIn K C = true
  te : exmOne K (.ref C) (.ref C) = some true
  ki : kitOne K (.ref C) (.type "LookupError") = some true
  ca : findIn K (.ref C) "__class__" = some (some (.builtin "object.__class__"))
  cn : specialIn K (.builtin "object.__class__") "__get__" = some (some (.builtin "getset_descriptor.__get__"))
  ct : takesIn K (.builtin "object.__class__") = some true
  cm : mroIn K C (.type "object") = some true
  fn : ∃ (oc : Value) (od : Option Addr) (doc pm : Value) (an : Option Addr) (cdv ct : Value) (osl : Array (Option Value)) (p1 p2 q1 q2 q3 q4 : Pos),
    K.lookup fI = some ⟨oc, od, .func (fnOf "__init__" "NoLamp.__init__" (iA p1 p2) (iB q1 q2 q3 q4) iS .none .none doc pm an cdv ct), osl⟩ ∧ codeIn K cdv "NoLamp.__init__" = true
section
variable {prog : Program} {w : World} {A : Around} {E : Value → Shared → Prop} {R : Result → Shared → Prop} {s : Shared} {K : Frag} {mg : Str → Option Value} {C fI : Addr}
theorem init_ok (T : Txt K mg C fI) {x t0 : Addr} {v : Value} (X : K.In s.heap) (hlim : s.heap.NoLimit) (hx : s.heap.get? x = some (excO C t0)) (hnx : K.lookup x = none) (hroom : A.depth < recursionLimit)
    (hq : ∀ h' tk dx, K9.InitEnd "lamp" s.heap h' x C dx t0 v → R (.ok (.ret .none)) { s with heap := h', toks := tk }) :
    codeAny (model prog w) A (.call (.ref fI) ⟨[.ref x, v], []⟩) R s := by
  obtain ⟨oc, od, doc, pm, an, cdv, ct, osl, p1, p2, q1, q2, q3, q4, ho, hcd⟩ := T.fn
  obtain ⟨nm, q, N, bs, sn, sub, ab, col, dd, k0, k1, k2, k3, k5, hC⟩ := T.cls
  have hcl : clsIn K C = some { name := nm, bases := bs, mro := .ref C :: [.type "LookupError", .type "Exception", .type "BaseException", .type "object"], ns := N, qualname := q, hasDict := true, slotNames := sn, subclasses := sub, abstract := ab, collection := col, hasDel := false } := by unfold clsIn; rw [hC] <;> rfl
  refine Att.call_fn (binds := [("self", .ref x), ("lamp", v)]) X hlim ho hcd hroom (BindsTo.of_eq (by first | rfl | with_unfolding_all rfl)) (by first | rfl | decide | with_unfolding_all rfl) (fun s₁ IC => ?_) rfl rfl rfl
  obtain ⟨h₁, tk₁, rfl⟩ := IC.toInCall.same
  have k : ∀ b o, s.heap.get? b = some o → h₁.get? b = some o := IC.toInCall.keep
  have hn := IC.toInCall.ns
  have hxL : s.heap.objs.size ≠ x := Nat.ne_of_gt (Heap.lt_size hx)
  have X₁ : K.In h₁ := X.keeps k
  have hx₁ := k _ _ hx
  show wpAny _ _ (execs _ _) _ _ _
  refine wpAny_execs_cons (plainObj_wpAny_Assign_Attribute ?_)
  refine K9.ldC (v := v) hn (by first | rfl | with_unfolding_all rfl | kernel_rfl) (K9.ldC (v := .ref x) hn (by first | rfl | with_unfolding_all rfl | kernel_rfl) ?_)
  refine set_plain X₁ (ox := excO C t0) (od := none) ⟨hx₁, rfl, rfl, trivial⟩ T.sa ?_
  refine K9.exc_osa X₁ hx₁ hcl rfl (by show (List.contains (Value.ref C :: [.type "LookupError", .type "Exception", .type "BaseException", .type "object"]) (Value.type "object")) = true; rw [List.contains_cons]; exact Bool.or_eq_true_iff.mpr (.inr (by decide +kernel))) (fun self => (refuseLoop_ref _ _ _ _).trans (F.store_LookupError.passes self)) rfl T.noN (fun h₃ tk₃ dx k₃ dn dne hx₃ hn₃ => ?_)
  show wpAny _ _ (execs _ _) _ _ _
  have z : s.heap.objs.size < h₁.objs.size := hn.lt
  exact wpAny_execs_nil (hq h₃ tk₃ dx ⟨fun b o hb e => k₃ b o hb (k b o e), hx₃, Nat.le_of_lt (Nat.lt_of_lt_of_le z dn), dne, hn₃⟩)
theorem made (T : Txt K mg C fI) {v : Value} (X : K.In s.heap) (hlim : s.heap.NoLimit) (hroom : A.depth + 1 < recursionLimit)
    (hq : ∀ h' tk e d, K9.OwnMade "lamp" s.heap h' e C d v → R (.ok (.ret (.ref e))) { s with heap := h', toks := tk }) :
    codeAny (model prog w) A (.call (.ref C) ⟨[v], []⟩) R s := by
  obtain ⟨nm, q, N, bs, sn, sub, ab, col, dd, k0, k1, k2, k3, k5, hC⟩ := T.cls
  obtain ⟨hp, g, dr, tk, os⟩ := s
  have k : ∀ b o, hp.get? b = some o → ((hp.push (kdv_tup [v])).push (excO C hp.objs.size)).get? b = some o := fun b o e => Heap.get?_push_of_some _ (Heap.get?_push_of_some _ e)
  have hget : ((hp.push (kdv_tup [v])).push (excO C hp.objs.size)).get? (hp.objs.size + 1) = some (excO C hp.objs.size) := by heap_get
  have hnx : K.lookup (hp.objs.size + 1) = none := by
    cases e : K.lookup (hp.objs.size + 1) with
    | none => rfl
    | some o =>
      have z : hp.get? (hp.objs.size + 1) = some o := X _ _ e
      exact absurd (Nat.lt_of_succ_lt (Heap.lt_size z)) (Nat.lt_irrefl _)
  refine call_own F.excBase_LookupError (fun X => rfl) (X _ _ hC) (looks_findIn X T.iC) (fun self => bind_fn X self T.tC) (K9.one_size v) ?_
  refine init_ok (s := ⟨(hp.push (kdv_tup [v])).push (excO C hp.objs.size), g, dr, tk, os⟩) T (X.keeps k) (hlim.keeps k) hget hnx ?_ fun h' tk' dx ⟨k', hx, dn, dne, hns⟩ => ?_
  · show A.depth + 1 < recursionLimit
    exact hroom
  · have old : ∀ b o, hp.get? b = some o → h'.get? b = some o := fun b o e => k' b o (Nat.ne_of_lt (Nat.lt_succ_of_lt (Heap.lt_size e))) (k b o e)
    have z : hp.objs.size + 1 + 1 ≤ dx := by
      first
        | (simpa only [Heap.size_push] using dn)
        | exact dn
        | (have q := dn; rw [Heap.size_push, Heap.size_push] at q; exact q)
    exact ⟨rfl, hq h' tk' (hp.objs.size + 1) dx ⟨old, Nat.le_succ _, ⟨_, _, hx, rfl, rfl, rfl, rfl⟩, Nat.le_trans (Nat.le_trans (Nat.le_succ _) (Nat.le_succ _)) z, dne, hns⟩⟩
end
end XNoLamp
end PySem
namespace K3
open PySem PySem.Spec PyProof.Rows L2
section
variable {X : Cx} {C fI : Addr}
theorem pmk_NoLamp {a : Expr} {ta : TA} {p pos : Pos} {k : Nat} (T : PySem.XNoLamp.Txt X.K X.mg C fI) (hr : Room k X.A) (ha : PA X [a] ta) (hg : Gl X "NoLamp")
    (he : starEach (a :: []) X.env = (false, eval a X.env) :: starEach [] X.env) (hpl : (backTo pos (starEach [] X.env)).any (·.1) = false) :
    PMk X (.Call (.Name "NoLamp" p) [a] [] pos) (tMkE "lamp" C ta) := by
  intro pins s σ H Q I h
  refine wpAny_Call_Name_kw (ld_glob I hg T.gC ?_)
  refine PySem.W.callWith_K (h₀ := X.base) I.ok.mod.kin T.kC (thn (ha.run pos pins s σ H _ I h) fun us s1 hh => ?_) he hpl
  obtain ⟨vs, H1, I1, r1, v, ev, q1⟩ := hh
  subst ev
  refine ⟨I1.kIn, ?_⟩
  cases r1 with
  | cons rv rn =>
    rename_i v' us'
    cases rn
    show wpAny _ _ (call (.ref C) [v']) _ _ _
    have hlim := I1.nolimit
    obtain ⟨hp, g, dr, tk, os⟩ := s1
    refine wpAny_call (PySem.XNoLamp.made T I1.kIn hlim (by have := hr.dp; omega) fun h' tk' e d M => ?_)
    exact mkP_own I1 rv M T.exC T.tyC q1
/-- raise -/
theorem wps_raise_NoLamp {M : Mo} {sl : Sl} {D : DT} {a : Expr} {p pos pos2 : Pos} {k : Nat} {E : XK} (hc : X.calm = true) (T : PySem.XNoLamp.Txt X.K X.mg C fI) (hr : Room k X.A) (tk : Takes X (fun cls d _ H => E cls d H)) (hg : Gl X "NoLamp")
    (he : starEach (a :: []) X.env = (false, eval a X.env) :: starEach [] X.env) (hpl : (backTo pos (starEach [] X.env)).any (·.1) = false)
    (hW : ∀ n d H', D.XW n d H' → E (.ref C) (some d) (upd H' d (.xd [(("lamp" : Str), .int n)]))) (h : Wp X M a sl fun M1 t => ∃ n, t = .int n ∧ D.xc n) : WpS X M (.Raise (some (.Call (.Name "NoLamp" p) [a] [] pos)) none pos2) sl D :=
  wps_of (ps_raise hc tk (pmk_NoLamp T hr (pa_cons pe_tW pa_nil he) hg he hpl)) fun σ H E' o s e => h σ H _ o s fun v H1 M1 t f1 o1 r1 ⟨n, ht, hx⟩ => by
    subst ht
    have := Rd.int_iff.mp r1
    subst this
    exact ⟨_, rfl, fun d hd => hW n d H1 (e.xc n d M1 H1 f1 o1 hx hd)⟩
/-- [word, error.field, isinstance(error, base)] in the suite -/
theorem suite_NoLamp {i : Nat} {en word : Str} {a : Addr} {oe : Obj} {cls : Value} {d : Option Addr} {pn : List (Addr × Obj)} {j : Nat} {p1 p2 p3 p4 p5 p6 p7 p8 p9 : Pos} (T : PySem.XNoLamp.Txt X.K X.mg C fI) (hz : Zc cls d oe) (hf : ∃ vs, oe.data = .fields vs)
    (hN : X.N[i]? = some en) (hv : Vis X.env.scope en) (hd1 : (en == ("__debug__" : Str)) = false) (hd2 : (en == ("__classdict__" : Str)) = false) (hb : attributeBase (.Name en p2) "lamp" X.env (eval (.Name en p2) X.env) = eval (.Name en p2) X.env)
    (hm : X.mg "isinstance" = none) (hg : Gl X "isinstance") (hmb : X.mg "LookupError" = none) (hgb : Gl X "LookupError")
    (he : ∀ Y : Cx, Y.env = X.env → starEach [.Constant (.str word) j p1, .Attribute (.Name en p2) "lamp" p3, .Call (.Name "isinstance" p4) [.Name en p5, .Name "LookupError" p6] [] p7] Y.env = [(false, eval (.Constant (.str word) j p1) Y.env), (false, eval (.Attribute (.Name en p2) "lamp" p3) Y.env), (false, eval (.Call (.Name "isinstance" p4) [.Name en p5, .Name "LookupError" p6] [] p7) Y.env)])
    (he2 : ∀ Y : Cx, Y.env = X.env → starEach [.Name en p5, .Name "LookupError" p6] Y.env = [(false, eval (.Name en p5) Y.env), (false, eval (.Name "LookupError" p6) Y.env)]) :
    PSs (X.suite a ((a, oe) :: pn)) [.Return (some (.List [.Constant (.str word) j p1, .Attribute (.Name en p2) "lamp" p3, .Call (.Name "isinstance" p4) [.Name en p5, .Name "LookupError" p6] [] p7] p8)) p9]
      (tsX i C "lamp" word a cls d) := by
  refine ⟨fun pins s σ H D I hh => ?_⟩
  obtain ⟨hs, ec, dd, n, ed, hx, q⟩ := hh
  subst ec ed
  refine (pss_cons (ps_ret (pe_lst (pa_cons pe_str (pa_cons (pe_xf (n := "lamp") ⟨T.ga, T.gg, T.exC, T.hdC⟩ T.noN hz hf (pe_var (i := i) hN hv hd1 hd2) hb) (pa_cons (pe_callB (call_isED ⟨T.ga, T.gg, T.exC, T.hdC, T.ca, T.cn, T.ct, T.cm⟩ hz hf) hg hm (by decide +kernel) (pa_cons (pe_var (i := i) hN hv hd1 hd2) (pa_cons (pe_bltn (v := .ty "LookupError") hgb hmb (by decide +kernel) rfl (by decide) (by decide)) pa_nil rfl) (he2 _ rfl)) (by decide) (by decide) (he2 _ rfl) rfl) pa_nil rfl) rfl) (he _ rfl)))) pss_nil).run pins s σ H D I ?_
  refine ⟨_, hs, rfl, rfl, dd, _, .int n, rfl, hx, by simp [List.lookup], _, hs, .ty "LookupError", .type "LookupError", true, _, rfl, fun u r => ?_, T.ki, hx, (by show 3 ≤ sizeLine; decide), q⟩
  cases r
  rfl
end

end K3
namespace PySem
namespace XBadLine
open PySem.W PySem.Calls PyProof.Rows PySem.HandSPX
def iA (p1 p2 : Pos) : Arguments := { posonlyargs := [], args := [{ arg := "self", annotation := none, pos := p1 }, { arg := "number", annotation := none, pos := p2 }], vararg := none, kwonlyargs := [], kw_defaults := [], kwarg := none, defaults := [] }
def iB (q1 q2 q3 q4 : Pos) : List Stmt := [.Assign [.Attribute (.Name "self" q1) "number" q2] (.Name "number" q3) q4]
def iS : Scope := { kind := .function, names := [(PySem.Str.ofString "self", .local), (PySem.Str.ofString "number", .local)], isGenerator := false, isCoroutine := false, more := [] }
/-- what the written part says of the class at C, of its __init__ at fI -/
structure Txt (K : Frag) (mg : Str → Option Value) (C fI : Addr) : Prop where
  gC : mg "BadLine" = some (.ref C)
  cls : ∃ nm q N bs sn sub ab col dd k0 k1 k2 k3 k5, K.lookup C = some (excClassObj nm q C N bs [.type "ValueError", .type "Exception", .type "BaseException", .type "object"] true sn sub ab col dd k0 k1 k2 k3 k5 "ValueError.__new__")
  sa : findIn K (.ref C) "__setattr__" = some (some (.builtin "object.__setattr__"))
  ga : findIn K (.ref C) "__getattribute__" = some (some (.builtin "BaseException.__getattribute__"))
  gg : findIn K (.ref C) "__getattr__" = some none
  noN : findIn K (.ref C) "number" = some none
  iC : findIn K (.ref C) "__init__" = some (some (.ref fI))
  tC : typeIn K (.ref fI) = some (.type "function")
  kC : keepIn K (.ref C) = true
  exC : subIn K (.ref C) (.type "BaseException") = some true
  tyC : typeIn K (.ref C) = some (.type "type")
  hdC : hasDictIn K C = true
  te : exmOne K (.ref C) (.ref C) = some true
  ki : kitOne K (.ref C) (.type "ValueError") = some true
  ca : findIn K (.ref C) "__class__" = some (some (.builtin "object.__class__"))
  cn : specialIn K (.builtin "object.__class__") "__get__" = some (some (.builtin "getset_descriptor.__get__"))
  ct : takesIn K (.builtin "object.__class__") = some true
  cm : mroIn K C (.type "object") = some true
  fn : ∃ (oc : Value) (od : Option Addr) (doc pm : Value) (an : Option Addr) (cdv ct : Value) (osl : Array (Option Value)) (p1 p2 q1 q2 q3 q4 : Pos),
    K.lookup fI = some ⟨oc, od, .func (fnOf "__init__" "BadLine.__init__" (iA p1 p2) (iB q1 q2 q3 q4) iS .none .none doc pm an cdv ct), osl⟩ ∧ codeIn K cdv "BadLine.__init__" = true
section
variable {prog : Program} {w : World} {A : Around} {E : Value → Shared → Prop} {R : Result → Shared → Prop} {s : Shared} {K : Frag} {mg : Str → Option Value} {C fI : Addr}
theorem init_ok (T : Txt K mg C fI) {x t0 : Addr} {v : Value} (X : K.In s.heap) (hlim : s.heap.NoLimit) (hx : s.heap.get? x = some (excO C t0)) (hnx : K.lookup x = none) (hroom : A.depth < recursionLimit)
    (hq : ∀ h' tk dx, K9.InitEnd "number" s.heap h' x C dx t0 v → R (.ok (.ret .none)) { s with heap := h', toks := tk }) :
    codeAny (model prog w) A (.call (.ref fI) ⟨[.ref x, v], []⟩) R s := by
  obtain ⟨oc, od, doc, pm, an, cdv, ct, osl, p1, p2, q1, q2, q3, q4, ho, hcd⟩ := T.fn
  obtain ⟨nm, q, N, bs, sn, sub, ab, col, dd, k0, k1, k2, k3, k5, hC⟩ := T.cls
  have hcl : clsIn K C = some { name := nm, bases := bs, mro := .ref C :: [.type "ValueError", .type "Exception", .type "BaseException", .type "object"], ns := N, qualname := q, hasDict := true, slotNames := sn, subclasses := sub, abstract := ab, collection := col, hasDel := false } := by unfold clsIn; rw [hC] <;> rfl
  refine Att.call_fn (binds := [("self", .ref x), ("number", v)]) X hlim ho hcd hroom (BindsTo.of_eq (by first | rfl | with_unfolding_all rfl)) (by first | rfl | decide | with_unfolding_all rfl) (fun s₁ IC => ?_) rfl rfl rfl
  obtain ⟨h₁, tk₁, rfl⟩ := IC.toInCall.same
  have k : ∀ b o, s.heap.get? b = some o → h₁.get? b = some o := IC.toInCall.keep
  have hn := IC.toInCall.ns
  have hxL : s.heap.objs.size ≠ x := Nat.ne_of_gt (Heap.lt_size hx)
  have X₁ : K.In h₁ := X.keeps k
  have hx₁ := k _ _ hx
  show wpAny _ _ (execs _ _) _ _ _
  refine wpAny_execs_cons (plainObj_wpAny_Assign_Attribute ?_)
  refine K9.ldC (v := v) hn (by first | rfl | with_unfolding_all rfl | kernel_rfl) (K9.ldC (v := .ref x) hn (by first | rfl | with_unfolding_all rfl | kernel_rfl) ?_)
  refine set_plain X₁ (ox := excO C t0) (od := none) ⟨hx₁, rfl, rfl, trivial⟩ T.sa ?_
  refine K9.exc_osa X₁ hx₁ hcl rfl (by show (List.contains (Value.ref C :: [.type "ValueError", .type "Exception", .type "BaseException", .type "object"]) (Value.type "object")) = true; rw [List.contains_cons]; exact Bool.or_eq_true_iff.mpr (.inr (by decide +kernel))) (fun self => (refuseLoop_ref _ _ _ _).trans (F.store_ValueError.passes self)) rfl T.noN (fun h₃ tk₃ dx k₃ dn dne hx₃ hn₃ => ?_)
  show wpAny _ _ (execs _ _) _ _ _
  have z : s.heap.objs.size < h₁.objs.size := hn.lt
  exact wpAny_execs_nil (hq h₃ tk₃ dx ⟨fun b o hb e => k₃ b o hb (k b o e), hx₃, Nat.le_of_lt (Nat.lt_of_lt_of_le z dn), dne, hn₃⟩)
theorem made (T : Txt K mg C fI) {v : Value} (X : K.In s.heap) (hlim : s.heap.NoLimit) (hroom : A.depth + 1 < recursionLimit)
    (hq : ∀ h' tk e d, K9.OwnMade "number" s.heap h' e C d v → R (.ok (.ret (.ref e))) { s with heap := h', toks := tk }) :
    codeAny (model prog w) A (.call (.ref C) ⟨[v], []⟩) R s := by
  obtain ⟨nm, q, N, bs, sn, sub, ab, col, dd, k0, k1, k2, k3, k5, hC⟩ := T.cls
  obtain ⟨hp, g, dr, tk, os⟩ := s
  have k : ∀ b o, hp.get? b = some o → ((hp.push (kdv_tup [v])).push (excO C hp.objs.size)).get? b = some o := fun b o e => Heap.get?_push_of_some _ (Heap.get?_push_of_some _ e)
  have hget : ((hp.push (kdv_tup [v])).push (excO C hp.objs.size)).get? (hp.objs.size + 1) = some (excO C hp.objs.size) := by heap_get
  have hnx : K.lookup (hp.objs.size + 1) = none := by
    cases e : K.lookup (hp.objs.size + 1) with
    | none => rfl
    | some o =>
      have z : hp.get? (hp.objs.size + 1) = some o := X _ _ e
      exact absurd (Nat.lt_of_succ_lt (Heap.lt_size z)) (Nat.lt_irrefl _)
  refine call_own F.excBase_ValueError (fun X => rfl) (X _ _ hC) (looks_findIn X T.iC) (fun self => bind_fn X self T.tC) (K9.one_size v) ?_
  refine init_ok (s := ⟨(hp.push (kdv_tup [v])).push (excO C hp.objs.size), g, dr, tk, os⟩) T (X.keeps k) (hlim.keeps k) hget hnx ?_ fun h' tk' dx ⟨k', hx, dn, dne, hns⟩ => ?_
  · show A.depth + 1 < recursionLimit
    exact hroom
  · have old : ∀ b o, hp.get? b = some o → h'.get? b = some o := fun b o e => k' b o (Nat.ne_of_lt (Nat.lt_succ_of_lt (Heap.lt_size e))) (k b o e)
    have z : hp.objs.size + 1 + 1 ≤ dx := by
      first
        | (simpa only [Heap.size_push] using dn)
        | exact dn
        | (have q := dn; rw [Heap.size_push, Heap.size_push] at q; exact q)
    exact ⟨rfl, hq h' tk' (hp.objs.size + 1) dx ⟨old, Nat.le_succ _, ⟨_, _, hx, rfl, rfl, rfl, rfl⟩, Nat.le_trans (Nat.le_trans (Nat.le_succ _) (Nat.le_succ _)) z, dne, hns⟩⟩
end
end XBadLine
end PySem
namespace K3
open PySem PySem.Spec PyProof.Rows L2
section
variable {X : Cx} {C fI : Addr}
theorem pmk_BadLine {a : Expr} {ta : TA} {p pos : Pos} {k : Nat} (T : PySem.XBadLine.Txt X.K X.mg C fI) (hr : Room k X.A) (ha : PA X [a] ta) (hg : Gl X "BadLine")
    (he : starEach (a :: []) X.env = (false, eval a X.env) :: starEach [] X.env) (hpl : (backTo pos (starEach [] X.env)).any (·.1) = false) :
    PMk X (.Call (.Name "BadLine" p) [a] [] pos) (tMkE "number" C ta) := by
  intro pins s σ H Q I h
  refine wpAny_Call_Name_kw (ld_glob I hg T.gC ?_)
  refine PySem.W.callWith_K (h₀ := X.base) I.ok.mod.kin T.kC (thn (ha.run pos pins s σ H _ I h) fun us s1 hh => ?_) he hpl
  obtain ⟨vs, H1, I1, r1, v, ev, q1⟩ := hh
  subst ev
  refine ⟨I1.kIn, ?_⟩
  cases r1 with
  | cons rv rn =>
    rename_i v' us'
    cases rn
    show wpAny _ _ (call (.ref C) [v']) _ _ _
    have hlim := I1.nolimit
    obtain ⟨hp, g, dr, tk, os⟩ := s1
    refine wpAny_call (PySem.XBadLine.made T I1.kIn hlim (by have := hr.dp; omega) fun h' tk' e d M => ?_)
    exact mkP_own I1 rv M T.exC T.tyC q1
/-- raise -/
theorem wps_raise_BadLine {M : Mo} {sl : Sl} {D : DT} {a : Expr} {p pos pos2 : Pos} {k : Nat} {E : XK} (hc : X.calm = true) (T : PySem.XBadLine.Txt X.K X.mg C fI) (hr : Room k X.A) (tk : Takes X (fun cls d _ H => E cls d H)) (hg : Gl X "BadLine")
    (he : starEach (a :: []) X.env = (false, eval a X.env) :: starEach [] X.env) (hpl : (backTo pos (starEach [] X.env)).any (·.1) = false)
    (hW : ∀ n d H', D.XW n d H' → E (.ref C) (some d) (upd H' d (.xd [(("number" : Str), .int n)]))) (h : Wp X M a sl fun M1 t => ∃ n, t = .int n ∧ D.xc n) : WpS X M (.Raise (some (.Call (.Name "BadLine" p) [a] [] pos)) none pos2) sl D :=
  wps_of (ps_raise hc tk (pmk_BadLine T hr (pa_cons pe_tW pa_nil he) hg he hpl)) fun σ H E' o s e => h σ H _ o s fun v H1 M1 t f1 o1 r1 ⟨n, ht, hx⟩ => by
    subst ht
    have := Rd.int_iff.mp r1
    subst this
    exact ⟨_, rfl, fun d hd => hW n d H1 (e.xc n d M1 H1 f1 o1 hx hd)⟩
/-- [word, error.field, isinstance(error, base)] in the suite -/
theorem suite_BadLine {i : Nat} {en word : Str} {a : Addr} {oe : Obj} {cls : Value} {d : Option Addr} {pn : List (Addr × Obj)} {j : Nat} {p1 p2 p3 p4 p5 p6 p7 p8 p9 : Pos} (T : PySem.XBadLine.Txt X.K X.mg C fI) (hz : Zc cls d oe) (hf : ∃ vs, oe.data = .fields vs)
    (hN : X.N[i]? = some en) (hv : Vis X.env.scope en) (hd1 : (en == ("__debug__" : Str)) = false) (hd2 : (en == ("__classdict__" : Str)) = false) (hb : attributeBase (.Name en p2) "number" X.env (eval (.Name en p2) X.env) = eval (.Name en p2) X.env)
    (hm : X.mg "isinstance" = none) (hg : Gl X "isinstance") (hmb : X.mg "ValueError" = none) (hgb : Gl X "ValueError")
    (he : ∀ Y : Cx, Y.env = X.env → starEach [.Constant (.str word) j p1, .Attribute (.Name en p2) "number" p3, .Call (.Name "isinstance" p4) [.Name en p5, .Name "ValueError" p6] [] p7] Y.env = [(false, eval (.Constant (.str word) j p1) Y.env), (false, eval (.Attribute (.Name en p2) "number" p3) Y.env), (false, eval (.Call (.Name "isinstance" p4) [.Name en p5, .Name "ValueError" p6] [] p7) Y.env)])
    (he2 : ∀ Y : Cx, Y.env = X.env → starEach [.Name en p5, .Name "ValueError" p6] Y.env = [(false, eval (.Name en p5) Y.env), (false, eval (.Name "ValueError" p6) Y.env)]) :
    PSs (X.suite a ((a, oe) :: pn)) [.Return (some (.List [.Constant (.str word) j p1, .Attribute (.Name en p2) "number" p3, .Call (.Name "isinstance" p4) [.Name en p5, .Name "ValueError" p6] [] p7] p8)) p9]
      (tsX i C "number" word a cls d) := by
  refine ⟨fun pins s σ H D I hh => ?_⟩
  obtain ⟨hs, ec, dd, n, ed, hx, q⟩ := hh
  subst ec ed
  refine (pss_cons (ps_ret (pe_lst (pa_cons pe_str (pa_cons (pe_xf (n := "number") ⟨T.ga, T.gg, T.exC, T.hdC⟩ T.noN hz hf (pe_var (i := i) hN hv hd1 hd2) hb) (pa_cons (pe_callB (call_isED ⟨T.ga, T.gg, T.exC, T.hdC, T.ca, T.cn, T.ct, T.cm⟩ hz hf) hg hm (by decide +kernel) (pa_cons (pe_var (i := i) hN hv hd1 hd2) (pa_cons (pe_bltn (v := .ty "ValueError") hgb hmb (by decide +kernel) rfl (by decide) (by decide)) pa_nil rfl) (he2 _ rfl)) (by decide) (by decide) (he2 _ rfl) rfl) pa_nil rfl) rfl) (he _ rfl)))) pss_nil).run pins s σ H D I ?_
  refine ⟨_, hs, rfl, rfl, dd, _, .int n, rfl, hx, by simp [List.lookup], _, hs, .ty "ValueError", .type "ValueError", true, _, rfl, fun u r => ?_, T.ki, hx, (by show 3 ≤ sizeLine; decide), q⟩
  cases r
  rfl
end
/-! promises of defs that raise -/
def spX (R : List T → T → Prop) (Ex : List T → Int → Prop) (C : Addr) (fld : Str) : Sp := fun vs H Q E => ∃ (Z : Addr → Prop) (ts : List T), (∀ a, Z a → H a ≠ none) ∧ Rds Z H ts vs ∧
  ((∃ t, R ts t ∧ ∀ v H', Same H H' → Rd Z H' t v → Q v H') ∨ (∃ n, Ex ts n ∧ ∀ d H', Same H H' → H' d = none → E (.ref C) (some d) (upd H' d (.xd [(fld, .int n)]))))
structure DfX (P : Program) (w : World) (K : PySem.W.Frag) (mg : Str → Option Value) (base : Heap) (x : Str) (f : Addr) (k : Nat) (ps : List Str) (sp : Sp) : Prop where
  ex : ∃ fd, FnOk P w K mg base (L2.CX P w) k f fd ps sp ∧ mg x = some (.ref f) ∧ PySem.W.keepIn K (.ref f) = true ∧ Binds K fd ps []
section
variable {P : Program} {w : World} {K : PySem.W.Frag} {mg : Str → Option Value} {base : Heap}
theorem takes_cx {N : List Str} {x : Str} {scope : Scope} {f : Addr} {cdv : Value} {A : Around} {outer : List Env} {s : Shared} {H : Hp} {E : XK} : Takes (cxOf (L2.CX P w) P w K mg base N x scope f cdv A outer s H E) (fun cls d _ H => E cls d H) := takes_of rfl rfl rfl rfl
/-- from the walk of the body -/
theorem fn_X {x : Str} {st : Stmt} {f : Addr} {fd : FuncData} {N ps : List Str} {k : Nat} {R : List T → T → Prop} {Ex : List T → Int → Prop} {C : Addr} {fld : Str} (F : Fun K x x st f fd) (S : FnScope N ps (defScope st)) (len : ∀ ts, ((∃ t, R ts t) ∨ (∃ n, Ex ts n)) → ts.length = ps.length)
    (body : ∀ (cdv : Value) (A : Around) (outer : List Env) (s : Shared) (H : Hp) (E : XK), Room k (A.deeper (envOfC x (defScope st) s.heap.objs.size f cdv)) → ∀ (Z0 : Addr → Prop) (H0 : Hp) (ts : List T) (gr : T → Prop) (gx : Int → Prop) (XW : Int → Addr → Hp → Prop), (∀ n d H', XW n d H' → E (.ref C) (some d) (upd H' d (.xd [(fld, .int n)]))) →
      ((∃ t, R ts t ∧ gr t) ∨ (∃ n, Ex ts n ∧ gx n)) →
      WpB (cxOf (L2.CX P w) P w K mg base N x (defScope st) f cdv A outer s H E) ⟨Z0, H0, []⟩ (defBody st) (slots N ts) { nx := fun _ _ => False, rt := fun _ u => gr u, xc := gx, XW := XW }) :
    FnOk P w K mg base (L2.CX P w) (k + 1) f fd ps (spX R Ex C fld) :=
  F.okX S (fun vs H Q E h => by
    obtain ⟨Z, ts, _, r, h⟩ := h
    rw [r.length]
    refine len ts ?_
    rcases h with ⟨t, h, _⟩ | ⟨n, h, _⟩
    · exact .inl ⟨t, h⟩
    · exact .inr ⟨n, h⟩) fun cdv A outer s H vs Q E hr h => by
    obtain ⟨Z, ts, dom, r, h⟩ := h
    have eZ : (Mo.mk Z H []).Z = Z := by
      funext a
      exact propext ⟨fun z => by
        rcases Z_iff.mp z with z | z
        · exact z
        · exact absurd z (by simp), fun z => .inl z⟩
    have same : ∀ {M2 : Mo} {H2 : Hp}, Fr (Mo.mk Z H []) H M2 H2 → M2.Ok H2 → Same H H2 := fun {M2 H2} f2 o2 b u e => f2.keptAll (Z := Z) o2 (fun b z => z) rfl e fun z => by
      rcases Z_iff.mp z with z | z
      · exact z
      · exact absurd z (by simp)
    refine ⟨_, pss_tW, body cdv A outer s H E hr Z H ts (fun t => ∀ v H', Same H H' → Rd Z H' t v → Q v H') (fun n => ∀ d H', Same H H' → H' d = none → E (.ref C) (some d) (upd H' d (.xd [(fld, .int n)]))) (fun n d H' => E (.ref C) (some d) (upd H' d (.xd [(fld, .int n)]))) (fun _ _ _ h => h) h (L2.start N vs) H _ ⟨fun a z => ⟨rfl, dom a z⟩, List.nodup_nil, fun p m => absurd m (by simp)⟩ (slots_ok (by
      rw [eZ]
      exact r)) ⟨fun σ' H' M' sl' _ _ _ h => h.elim, fun v H2 M2 t' f2 o2 r2 e2 => ?_, fun σ' H' M' sl' _ _ _ h => h.elim, fun σ' H' M' sl' _ _ _ h => h.elim, fun n d M' H' f2 o2 hx hd => ?_⟩⟩
    · exact e2 v H2 (same f2 o2) (r2.weak fun a z => .inl (by rw [f2.z0]; exact z))
    · exact hx d H' (same f2 o2) hd
end
section
variable {X : Cx} {M : Mo} {sl : Sl} {k : KT} {pos : Pos} {D : DT}
/-- a call of such a def where it does not raise -/
theorem wp_callX {x : Str} {j : Nat} {f : Addr} {ps : List Str} {R : List T → T → Prop} {Ex : List T → Int → Prop} {C : Addr} {fld : Str} {a : Expr} {as : List Expr} {p : Pos} (G : DfX X.prog X.w X.K X.mg X.base x f j ps (spX R Ex C fld)) (hr : Room j X.A) (hg : Gl X x) (he : starEach (a :: as) X.env = (false, eval a X.env) :: starEach as X.env)
    (hpl : (backTo pos (starEach as X.env)).any (·.1) = false) (h : WpA X M (a :: as) sl fun M1 ts => ∃ t, R ts t ∧ k M1 t) (hdb : (x == ("__debug__" : Str)) = false := by decide) : Wp X M (.Call (.Name x p) (a :: as) [] pos) sl k := by
  obtain ⟨fd, F, hm, hk, hb⟩ := G.ex
  refine wp_of (pe_call F hr hg hm hk hb .nil passL pa_tW hdb he hpl) fun σ H Q o s e => h σ H _ o s fun vs H1 M1 ts f1 o1 r1 ⟨t, ht, k1⟩ => ?_
  refine ⟨M1.Z, ts, fun a z => o1.dom z, by rw [List.append_nil]; exact r1, .inl ⟨t, ht, fun v H' sm r => e v H' M1 t (f1.trans (Fr.same sm)) (o1.same sm) r k1⟩⟩
/-- return f(e) op c, f raising -/
theorem wps_retX {x : Str} {j : Nat} {f : Addr} {ps : List Str} {R : List T → T → Prop} {Ex : List T → Int → Prop} {C : Addr} {fld : Str} {a b : Expr} {op : Operator} {p p1 pos2 : Pos} {E : XK} (G : DfX X.prog X.w X.K X.mg X.base x f j ps (spX R Ex C fld)) (hr : Room j X.A) (hg : Gl X x) (he : starEach [a] X.env = (false, eval a X.env) :: starEach [] X.env)
    (hpl : (backTo p1 (starEach [] X.env)).any (·.1) = false) (tk : Takes X (fun cls d _ H => E cls d H)) (hW : ∀ n d H', D.XW n d H' → E (.ref C) (some d) (upd H' d (.xd [(fld, .int n)]))) (h : WpA X M [a] sl fun M1 ts => ∃ n, Ex ts n ∧ D.xc n) (hdb : (x == ("__debug__" : Str)) = false := by decide) :
    WpS X M (.Return (some (.BinOp (.Call (.Name x p) [a] [] p1) op b pos)) pos2) sl D := by
  obtain ⟨fd, F, hm, hk, hb⟩ := G.ex
  refine wps_of (ps_ret (pe_op op_W (pe_call (E := E) F hr hg hm hk hb .nil (passes_call tk fun _ _ _ _ h => h) pa_tW hdb he hpl) pe_tW)) fun σ H E' o s e => h σ H _ o s fun vs H1 M1 ts f1 o1 r1 ⟨n, hn, hx⟩ => ?_
  refine ⟨M1.Z, ts, fun a z => o1.dom z, by rw [List.append_nil]; exact r1, .inr ⟨n, hn, fun d H' sm hd => ?_⟩⟩
  exact hW n d H' (e.xc n d M1 H' (f1.trans (Fr.same sm)) (o1.same sm) hx hd)
end
/-! try with several clauses that name the exception -/
def wNam (K : PySem.W.Frag) (i : Nat) (Wout : WX) (D : Ends) : List (Value × (Addr → Value → Option Addr → TS)) → WX
  | [] => Wout
  | (c, ts) :: r => fun cls d σ H => ∃ b, PySem.W.exmOne K cls c = some b ∧ (b = true → ∀ a, H a = none → ts a cls d { nx := fun σ' H' => D.nx (σ'.set i none) H', rt := D.rt, bk := fun σ' H' => D.bk (σ'.set i none) H', ct := fun σ' H' => D.ct (σ'.set i none) H' } (σ.set i (some (.ref a))) H) ∧ (b = false → wNam K i Wout D r cls d σ H)
inductive HdsN (X : Cx) (n : Str) : List ExceptHandler → List (Value × (Addr → Value → Option Addr → TS)) → Prop
  | nil : HdsN X n [] []
  | cons {x : Str} {c : Value} {ts : Addr → Value → Option Addr → TS} {b₀ : Stmt} {suite : List Stmt} {np pos' : Pos} {hds : List ExceptHandler} {l : List (Value × (Addr → Value → Option Addr → TS))} (hc : Names X x c)
      (hsu : ∀ (a : Addr) (oe : Obj) (cls : Value) (d : Option Addr) (pn : List (Addr × Obj)), Zc cls d oe → (∃ vs, oe.data = .fields vs) → PSs (X.suite a ((a, oe) :: pn)) (b₀ :: suite) (ts a cls d)) (r : HdsN X n hds l) :
      HdsN X n (.ExceptHandler (some (.Name x np)) (some n) (b₀ :: suite) pos' :: hds) ((c, ts) :: l)
section
variable {X : Cx} {body : List Stmt} {h₀ : ExceptHandler} {hds : List ExceptHandler} {l : List (Value × (Addr → Value → Option Addr → TS))} {pos : Pos} {tb : WX → TS} {Wout : WX} {n : Str} {i : Nat}
theorem ps_try_named (hs : X.stack = X.env :: X.outer) (hf : X.env.frame = some X.env.locals) (hN : X.N.Nodup) (hi : X.N[i]? = some n) (hln : X.env.kindOf n = some .local) (tk : Takes X Wout)
    (hb : ∀ (W : WX) (pn : List (Addr × Obj)) (xe : Value → Shared → Prop), Takes (X.tr pn xe) W → PassesOwn (model X.prog X.w) X.A X.env xe → PSs (X.tr pn xe) body (tb W))
    (hh : HdsN X n (h₀ :: hds) l) : PS X (.Try body (h₀ :: hds) [] [] pos) (fun D σ H => tb (wNam X.K i Wout D l) D σ H) := by
  refine ⟨fun pins s σ H D I h => ?_⟩
  have ok := I.ok
  have hfr : X.A.frames = some (X.env :: X.outer) := by rw [ok.frames, hs]
  have hloc : Loc X.env.scope n := .inl hln
  refine wpAny_Try_except ?_
  refine wpAny_mono ((hb (wNam X.K i Wout D l) (X.pn ++ pins) (fun e s₁ => wpAny (model X.prog X.w) X.A (noteFrame e X.env) (fun _ s₂ => wpAny (model X.prog X.w) X.A (setFlight e none) (fun _ s₃ =>
    wpAny (model X.prog X.w) X.A (handleBy e X.env (h₀ :: hds)) (SP X pins D) X.xe s₃) X.xe s₂) X.xe s₁) (fun u s' xx => ?_) PassesOwn.looking).run [] s σ H D (I.toTry _) h) (fun f s1 hsp => ?_) (fun e s1 he => he)
  · obtain ⟨a, B, sI, pins', σ', H', cls, d, rfl, J', nb, up, sky, na, os, ag, w⟩ := xx
    have J : Inv X pins σ' H' sI := J'.ofTry ok
    have sky' : Sky B (X.env :: X.outer) a (Zc cls d) X.env.locals s'.heap := by rw [← hs]; exact sky
    show wpAny (model X.prog X.w) X.A (noteFrame (.ref a) X.env) _ _ _
    refine Sky.land Zc.steady hfr hf sky' fun h3 fl3 up3 => ?_
    have J3 : Inv X pins σ' H' { s' with heap := h3 } := J.landed nb fl3.1 (up.trans up3) os ag
    obtain ⟨oe3, vs3, he3, hz3, hd3⟩ := fl3.there
    have notFr : ∀ {h : Heap} {o : Obj} {vs : Array Value}, h.FunFrames B (X.env :: X.outer) → h.get? a = some o → o.data = .fields vs → a ∉ frs (X.env :: X.outer) := fun {h o vs} ff e dd hm => by
      obtain ⟨_, o', e', hnf⟩ := ff.mem hm
      rw [e] at e'; cases e'
      exact hnf _ dd
    have nfr := notFr fl3.2.2.1 he3 hd3
    have nL : a ≠ X.env.locals := fun z => nfr (List.mem_filterMap.mpr ⟨X.env, List.mem_cons_self, by rw [hf, z]⟩)
    have nF : a ∉ X.fs := fun hm => by
      obtain ⟨e, he, q⟩ := List.mem_filterMap.mp hm
      exact nfr (List.mem_filterMap.mpr ⟨e, List.mem_cons_of_mem _ he, q⟩)
    have S3 := J3.suite he3 hd3 na nL nF
    have go : ∀ {hds' : List ExceptHandler} {l' : List (Value × (Addr → Value → Option Addr → TS))}, HdsN X n hds' l' → wNam X.K i Wout D l' cls d σ' H' →
        wpAny (model X.prog X.w) X.A (handleBy (.ref a) X.env hds') (SP X pins D) X.xe { s' with heap := h3 } := by
      intro hds' l' hk
      induction hk with
      | nil =>
        intro w
        refine wpAny_handleBy_nil ?_
        obtain ⟨k1, k2, k3, oe, vs, T, oT, ts', he, hz, hd, h1, hr⟩ := id fl3
        unfold PySem.passOn
        refine wpAny_bind (wpAny_field he hd h1 ?_)
        rw [if_neg (show ¬ ((Value.ref T == Value.none) = true) from by simp)]
        have fin : wpAny (model X.prog X.w) X.A (setFlight (.ref a) X.env.frame) (fun _ s4 => wpAny (model X.prog X.w) X.A (throw (.ref a) : Sem Flow) (SP X pins D) X.xe s4) X.xe { s' with heap := h3 } := by
          rw [hf]
          refine HandSPX.setFlight_upZ fl3 fun h4 hh4 up4 => wpAny_throw (tk _ _ ?_)
          exact ⟨a, B, sI, pins, σ', H', cls, d, rfl, J, nb, (up.trans up3).trans up4, .inr (.inr (by rw [hs]; exact hh4)), na, os, ag, w⟩
        first
          | exact wpAny_bind (wpAny_pure (wpAny_bind fin))
          | exact wpAny_bind fin
      | @cons x c ts b₀ suite np pos' hds2 l2 hc hsu r ih =>
        intro w
        obtain ⟨b, hb1, hyes, hno⟩ := w
        refine wpAny_handleBy_cons (codeAny_handlers_test ?_) (by intro q; cases q)
        have LT : PySem.W.Looks (model X.prog X.w) h3 (typeOf (.ref a)) cls := fun A Q E s k q => wpAny_typeOf_ref (k _ _ he3) (by rw [hz3.1]; exact q)
        have LM := PySem.W.exm_one (M := model X.prog X.w) (J3.kIn) LT hb1
        have test : ∀ {Q : Value → Shared → Prop} {E : Value → Shared → Prop}, Q c { s' with heap := h3 } → wpAny (model X.prog X.w) (X.A.mark (some (.ref a))) (eval (.Name x np) X.env) Q E { s' with heap := h3 } := fun {Q E} q => by
          obtain ⟨hg, hdbg, hm | ⟨hm, hv, hnn⟩⟩ := hc
          · exact ld_glob (X := X.suite a ((a, oe3) :: (X.pn ++ pins))) S3 hg hm q hdbg
          · exact ld_blt (X := X.suite a ((a, oe3) :: (X.pn ++ pins))) S3 hg hm hv q hnn hdbg
        refine test (LM.here ?_)
        cases b with
        | true =>
          refine codeAny_handlers_suite_as ?_
          refine HandSPX.lands_againZ fl3 fun h4 fl4 up4 => ?_
          have J4 : Inv X pins σ' H' { s' with heap := h4 } := J.landed nb fl4.1 ((up.trans up3).trans up4) os ag
          obtain ⟨oe4, vs4, he4, hz4, hd4⟩ := fl4.there
          have S4 := J4.suite he4 hd4 na nL nF
          refine store_ok (X := X.suite a ((a, oe4) :: (X.pn ++ pins))) (v := .ref a) S4 hN hi hloc rfl (fun s5 S5 => ?_) (.inr hln)
          refine wpAny_mono ((hsu a oe4 cls d (X.pn ++ pins) hz4 ⟨_, hd4⟩).run [] s5 _ H' _ S5 (hyes rfl a na)) (fun f s6 hsp => ?_) (fun _ _ z => False.elim z)
          have end_ : ∀ {σ6 : L2.St} {H6 : Hp} {Q : Shared → Prop}, Inv (X.suite a ((a, oe4) :: (X.pn ++ pins))) [] σ6 H6 s6 → (∀ s7, Inv X pins (σ6.set i none) H6 s7 → Q s7) →
              wpAny (model X.prog X.w) X.A (do bindName X.env n .none; unbindBehindTheSuite X.env n pos') (fun _ s7 => Q s7) X.xe s6 := fun {σ6 H6 Q} S6 hq => gone_ok (S6.unsuite ok) hN hi hln hq
          cases f with
          | next =>
            obtain ⟨σ6, H6, S6, q6⟩ := hsp
            exact end_ S6 fun s7 J7 => ⟨_, _, J7, q6⟩
          | brk =>
            obtain ⟨σ6, H6, S6, q6⟩ := hsp
            exact end_ S6 fun s7 J7 => ⟨_, _, J7, q6⟩
          | cont =>
            obtain ⟨σ6, H6, S6, q6⟩ := hsp
            exact end_ S6 fun s7 J7 => ⟨_, _, J7, q6⟩
          | ret u =>
            obtain ⟨v6, σ6, H6, S6, r6, q6⟩ := hsp
            exact end_ S6 fun s7 J7 => ⟨_, _, _, J7, r6, q6⟩
        | false =>
          show wpAny _ X.A (handleBy (.ref a) X.env hds2) _ _ _
          exact ih (hno rfl)
    exact go hh w
  · cases f with
    | next =>
      obtain ⟨σ', H', J', q⟩ := hsp
      exact wpAny_execs_nil ⟨σ', H', J'.ofTry ok, q⟩
    | brk =>
      obtain ⟨σ', H', J', q⟩ := hsp
      exact ⟨σ', H', J'.ofTry ok, q⟩
    | cont =>
      obtain ⟨σ', H', J', q⟩ := hsp
      exact ⟨σ', H', J'.ofTry ok, q⟩
    | ret u =>
      obtain ⟨v, σ', H', J', r, q⟩ := hsp
      exact ⟨v, σ', H', J'.ofTry ok, r, q⟩
end
section
variable {X : Cx} {CX : CXT} {k : Nat} {f : Addr} {fd : FuncData} {ps : List Str} {sp : Sp} {E : L2.St → XK} {pos : Pos} {e fe : Expr} {es : List Expr} {t : TA} {te : TE}
/-- a def found by an expression, called; E may look at the slots -/
def tCallE (f : Addr) (sp : Sp) (E : L2.St → XK) (te : TE) (t : TA) : TE := fun σ H Q => te σ H fun x H1 => x = .ref f ∧ t σ H1 fun vs H2 => sp vs H2 Q (E σ)
theorem pe_callE (heval : eval (.Call fe (e :: es) [] pos) X.env = (do let fv ← eval fe X.env; callWith pos fv [] (backTo pos (starEach (e :: es) X.env)) (backToKw pos (keywordEach [] X.env)))) (F : FnOk X.prog X.w X.K X.mg X.base CX k f fd ps sp) (hr : Room k X.A) (hk : PySem.W.keepIn X.K (.ref f) = true) (hb : Binds X.K fd ps []) (hx : ∀ σ, PassesAt CX X σ (E σ))
    (hf : PE X fe te) (ha : PA X (e :: es) t) (he : starEach (e :: es) X.env = (false, eval e X.env) :: starEach es X.env) (hpl : (backTo pos (starEach es X.env)).any (·.1) = false) : PE X (.Call fe (e :: es) [] pos) (tCallE f sp E te t) := by
  refine ⟨fun pins s σ H Q I h => ?_⟩
  rw [heval]
  refine wpAny_bind (thn (hf.run pins s σ H _ I h) fun u s1 ⟨v, H1, I1, r1, q1⟩ => ?_)
  obtain ⟨rfl, q1⟩ := q1
  cases r1
  refine PySem.W.callWith_K (h₀ := X.base) I.ok.mod.kin hk (thn (ha.run pos pins s1 σ _ _ I1 q1) fun us s2 ⟨vs, H2, I2, r, q⟩ => ⟨I2.kIn, ?_⟩) he hpl
  exact run_fnS F hr hb (hx σ) I2 r q
end
section
variable {X : Cx} {M : Mo} {sl : Sl} {D : DT} {pos pos2 : Pos}
theorem wps_retE {fe a : Expr} {x : Str} {j : Nat} {f : Addr} {ps : List Str} {R : List T → T → Prop} {Ex : List T → Int → Prop} {C : Addr} {fld : Str} {W : WX} (heval : eval (.Call fe [a] [] pos) X.env = (do let fv ← eval fe X.env; callWith pos fv [] (backTo pos (starEach [a] X.env)) (backToKw pos (keywordEach [] X.env)))) (G : DfX X.prog X.w X.K X.mg X.base x f j ps (spX R Ex C fld)) (hr : Room j X.A) (he : starEach [a] X.env = (false, eval a X.env) :: starEach [] X.env)
    (hpl : (backTo pos (starEach [] X.env)).any (·.1) = false) (tk : Takes X W) (hW : ∀ n d H' (σ : L2.St), σ.length = sl.length → D.XW n d H' → W (.ref C) (some d) σ (upd H' d (.xd [(fld, .int n)])))
    (h : Wp X M fe sl fun M1 t => t = .ptr f ∧ WpA X M1 [a] sl fun M2 ts => (∃ t, R ts t ∧ D.rt M2 t) ∨ (∃ n, Ex ts n ∧ D.xc n)) : WpS X M (.Return (some (.Call fe [a] [] pos)) pos2) sl D := by
  obtain ⟨fd, F, hm, hk, hb⟩ := G.ex
  refine wps_of (ps_ret (pe_callE (E := WE W) heval F hr hk hb (passAt tk) pe_tW pa_tW he hpl)) fun σ H E' o s e => h σ H _ o s fun v0 H0 M0 t0 f0 o0 r0 ⟨ht0, k0⟩ => ?_
  subst ht0
  refine ⟨Rd.ptr_iff.mp r0, k0 σ H0 _ o0 (f0.sld s) fun vs H1 M1 ts f1 o1 r1 k1 => ?_⟩
  refine ⟨M1.Z, ts, fun a z => o1.dom z, r1, ?_⟩
  rcases k1 with ⟨t, ht, k1⟩ | ⟨n, hn, hx⟩
  · exact .inl ⟨t, ht, fun v H' sm r => e.rt v H' M1 t ((f0.trans f1).trans (Fr.same sm)) (o1.same sm) r k1⟩
  · exact .inr ⟨n, hn, fun d H' sm hd => hW n d H' σ s.len (e.xc n d M1 H' ((f0.trans f1).trans (Fr.same sm)) (o1.same sm) hx hd)⟩
/-- try: body / the clauses, whose suites return [word, error.field, True] -/
theorem wps_heard {body : List Stmt} {h₀ : ExceptHandler} {hds : List ExceptHandler} {l : List (Value × (Addr → Value → Option Addr → TS))} {n : Str} {i : Nat} {C : Addr} {fld word : Str} {gx : Int → Prop} (hs : X.stack = X.env :: X.outer) (hf : X.env.frame = some X.env.locals) (hN : X.N.Nodup) (hi : X.N[i]? = some n) (hln : X.env.kindOf n = some .local)
    (tk0 : Takes X (fun _ _ _ _ => False)) (hh : HdsN X n (h₀ :: hds) l)
    (hcat : ∀ (σ' : L2.St) (H' : Hp) (n : Int) (d : Addr) (E' : Ends), σ'.length = sl.length → H' d = some (.xd [(fld, .int n)]) → (∀ p, H' p = none → E'.rt (.ref p) (upd H' p (.lst [.str word, .int n, .bl true]))) → wNam X.K i (fun _ _ _ _ => False) E' l (.ref C) (some d) σ' H')
    (hgx : ∀ M' n, gx n → D.rt M' (.lst [.str word, .int n, .bl true]))
    (hB : ∀ (pn : List (Addr × Obj)) (xe : Value → Shared → Prop) (W : WX) (XW : Int → Addr → Hp → Prop), Takes (X.tr pn xe) W → (∀ n d H' (σ : L2.St), σ.length = sl.length → XW n d H' → W (.ref C) (some d) σ (upd H' d (.xd [(fld, .int n)]))) → WpB (X.tr pn xe) M body sl { D with xc := gx, XW := XW }) :
    WpS X M (.Try body (h₀ :: hds) [] [] pos) sl D := by
  refine wps_of (ps_try_named (tb := fun W D' σ H => ∀ pn xe, Takes (X.tr pn xe) W → tWB (X.tr pn xe) body D' σ H) hs hf hN hi hln tk0 (fun W pn xe tk po => ⟨fun pins s σ H D' I h => h pn xe tk pins s I⟩) hh) fun σ H E o s e => ?_
  intro pn xe tk
  refine hB pn xe _ (fun n d H' => H' d = none ∧ gx n ∧ ∃ M', Fr M H M' H' ∧ M'.Ok H') tk (fun n d H' σ' hl ⟨hd, hg, M', f', o'⟩ => ?_) σ H E o s ⟨e.nx, e.rt, e.bk, e.ct, fun n d M' H' f' o' hx hd => ⟨hd, hx, M', f', o'⟩⟩
  refine hcat σ' _ n d E hl upd_same fun p hp => ?_
  have sm : Same H' (upd H' d (.xd [(fld, .int n)])) := same_upd hd
  refine e.rt (.ref p) _ M' _ (f'.trans ((Fr.same sm).trans (Fr.same (same_upd hp)))) ((o'.same sm).same (same_upd hp)) (Rd.newL (o'.same sm) hp ?_) (hgx M' n hg)
  exact Rds.cons (Rd.str_iff.mpr rfl) (Rds.cons (Rd.int_iff.mpr rfl) (Rds.one (Rd.bl_iff.mpr rfl)))
end

end K3
namespace K9
open PySem PyProof.Rows L2
open AutoSeq1 (wpAny_loadPart')
theorem tuple_mul1 (l : Addr) (items : Array Value) (n : Nat) (dd : Option Addr) (sl : Array (Option Value)) (u : Tok) :
    Meets (Builtin.«tuple.__mul__» ⟨[.ref l, .int 1 u], []⟩) (fun _ R s => s.heap.get? l = some { cls := .type "tuple", dict := dd, data := .seq items n, slots := sl } ∧ R (.ok (.ret (Value.ref l))) s) :=
  .of_wp fun prog w A R s h => by
    obtain ⟨hp, g, d, tk, os⟩ := s
    obtain ⟨hl, h⟩ := h
    have f1 := AutoSeq1.idx_int
    have c1 : (items.isEmpty || (1 : Int) == 1) = true := by simp
    wp_walk using wpAny_loadPart' hl
    repeat (first
      | (refine wpAny_ite_true (decide_eq_true c1) ?_; wp_walk using wpAny_loadPart' hl)
      | (refine wpAny_ite_true c1 ?_; wp_walk using wpAny_loadPart' hl))
    exact ⟨_, rfl, h⟩
end K9
namespace K3
open PySem PySem.Spec PyProof.Rows L2
def rRep1 (K : PySem.W.Frag) : R2 := fun x y H Q => ∃ l xs, x = .ref l ∧ y = .int 1 ∧ SqT K H l xs ∧ Q (.ref l) H
theorem op_rep1 {X : Cx} : OpR X (binaryOp .Mult) (rRep1 X.K) := by
  intro pins s σ H x y v u Q I rx ry h
  obtain ⟨l, xs, rfl, rfl, hT, q⟩ := h
  cases rx
  obtain ⟨t, rfl⟩ := ry
  obtain ⟨its, r, ⟨⟨cls, dd, data, sl⟩, ho, hc, n, hd⟩, hs⟩ := I.tuple hT
  simp only at hc hd
  subst hc hd
  exact wpAny_binaryOp_repeat_ref (T := "tuple") (U := "int") (by decide) ⟨_, ho, rfl⟩ (fun s' => typeIs_int s' 1 t) noFill_tuple_mul F.fills_int_mul F.slot_int_rmul repeat_tuple F.slot_int_index.lookup
    (call_meets F.slot_int_rmul (typeIs_int s 1 t) F.entry_int_rmul (F.args_int_rmul_2 _ _) (int_rmul_tuple 1 t l its.toArray n dd sl)
      ⟨ho, rfl, ⟨_, ho, rfl⟩, call_meets F.slot_tuple_mul ⟨_, ho, rfl⟩ F.entry_tuple_mul (F.args_tuple_mul_2 _ _) (K9.tuple_mul1 l its.toArray n dd sl t) ⟨ho, ⟨.ref l, H, I, rfl, q⟩⟩⟩)
section
variable {X : Cx} {M : Mo} {k : KT}
theorem bin_repT {ts : List T} {i : Int} (h0 : 1 ≤ i) (h1 : i ≤ 1000) (hne : ts ≠ []) (hz : ts.length ≤ 1000) (q : k M (.tup (List.replicate i.toNat ts).flatten)) : Bin X (binaryOp .Mult) M (.tup ts) (.int i) k := by
  by_cases e1 : i = 1
  · subst e1
    have e : (List.replicate (1 : Int).toNat ts).flatten = ts := by simp
    rw [e] at q
    refine bin_of op_rep1 fun x y H Q o ra rb e => ?_
    have ra' := ra
    obtain ⟨a, vs, rfl, z, g1, g2⟩ := Rd.tup_iff.mp ra
    exact ⟨a, vs, rfl, Rd.int_iff.mp rb, SqT.of g1, e.here o ra' q⟩
  · refine bin_of op_repT fun x y H Q o ra rb e => ?_
    obtain ⟨a, vs, rfl, z, g1, g2⟩ := Rd.tup_iff.mp ra
    have hl := g2.length
    exact ⟨a, i, vs, rfl, Rd.int_iff.mp rb, SqT.of g1, fun e0 => hne (List.eq_nil_of_length_eq_zero (by rw [← hl, e0]; rfl)), by omega, h1, by omega, fun p hp => e.upd o hp (Rd.newT o hp (g2.repl _)) q⟩
/-! == and != of data -/
mutual
def toD : T → PyData
  | .non => .none
  | .bl b => .bool b
  | .int i => .int i
  | .str z => .str z
  | .lst ts => .list (toDs ts)
  | .tup ts => .tuple (toDs ts)
  | .ty _ => .none
  | .ptr _ => .none
def toDs : List T → List PyData
  | [] => []
  | t :: ts => toD t :: toDs ts
end
mutual
def isD : T → Bool
  | .non => true
  | .bl _ => true
  | .int _ => true
  | .str _ => true
  | .lst ts => isDs ts
  | .tup ts => isDs ts
  | .ty _ => false
  | .ptr _ => false
def isDs : List T → Bool
  | [] => true
  | t :: ts => isD t && isDs ts
end
mutual
theorem dp_of {K : PySem.W.Frag} {Z : Addr → Prop} {H : Hp} : ∀ (t : T) (v : V), isD t = true → Rd Z H t v → Dp K H v (toD t)
  | .non, v, _, r => by rw [Rd.non_iff.mp r]; simp only [toD]; exact .non
  | .bl b, v, _, r => by rw [Rd.bl_iff.mp r]; simp only [toD]; exact .bl b
  | .int i, v, _, r => by rw [Rd.int_iff.mp r]; simp only [toD]; exact .int i
  | .str z, v, _, r => by rw [Rd.str_iff.mp r]; simp only [toD]; exact .str z
  | .lst ts, v, h, r => by
    obtain ⟨a, vs, rfl, z, g1, g2⟩ := Rd.lst_iff.mp r
    simp only [toD]
    simp only [isD] at h
    exact .lst (SqL.of g1) (dps_of ts vs h g2)
  | .tup ts, v, h, r => by
    obtain ⟨a, vs, rfl, z, g1, g2⟩ := Rd.tup_iff.mp r
    simp only [toD]
    simp only [isD] at h
    exact .tup (SqT.of g1) (dps_of ts vs h g2)
  | .ty n, _, h, _ => by simp [isD] at h
  | .ptr n, _, h, _ => by simp [isD] at h
theorem dps_of {K : PySem.W.Frag} {Z : Addr → Prop} {H : Hp} : ∀ (ts : List T) (vs : List V), isDs ts = true → Rds Z H ts vs → DpAll K H vs (toDs ts)
  | [], vs, _, r => by rw [Rds.nil_iff.mp r]; simp only [toDs]; exact .nil
  | t :: ts, vs, h, r => by
    obtain ⟨v, w, rfl, r1, r2⟩ := Rds.cons_iff.mp r
    simp only [toDs]
    simp only [isDs] at h
    obtain ⟨h1, h2⟩ := Bool.and_eq_true_iff.mp h
    exact .cons (dp_of t v h1 r1) (dps_of ts w h2 r2)
end
theorem bin_eqD {ta tb : T} (hu : X.A.units + 64 < cLine) (da : isD ta = true) (db : isD tb = true) (sa : SeqAt.shaped (toD ta) = true) (sb : SeqAt.shaped (toD tb) = true) (q : k M (.bl (PyData.eqv (toD ta) (toD tb)))) : Bin X (compareOp .Eq) M ta tb k :=
  bin_of (op_eqD hu) fun x y H Q o ra rb e => ⟨_, _, dp_of ta x da ra, dp_of tb y db rb, sa, sb, e.here o (Rd.bl_iff.mpr rfl) q⟩
theorem bin_neD {ta tb : T} (hu : X.A.units + 64 < cLine) (da : isD ta = true) (db : isD tb = true) (sa : SeqAt.shaped (toD ta) = true) (sb : SeqAt.shaped (toD tb) = true) (q : k M (.bl (!PyData.eqv (toD ta) (toD tb)))) : Bin X (compareOp .NotEq) M ta tb k :=
  bin_of (op_neD hu) fun x y H Q o ra rb e => ⟨_, _, dp_of ta x da ra, dp_of tb y db rb, sa, sb, e.here o (Rd.bl_iff.mpr rfl) q⟩
end

local macro_rules | `(tactic| walk_at "vis") => `(tactic| first | exact Or.inl rfl | exact Or.inr (Or.inl rfl) | exact Or.inr (Or.inr rfl))
local macro_rules | `(tactic| walk_at "loc") => `(tactic| first | exact Or.inl rfl | exact Or.inr rfl)
local macro_rules | `(tactic| walk_at "var") => `(tactic| first
  | ((with_reducible refine wp_var (t := ?et) 0 ?ea ?eb ?ec ?_); (case eb => exact rfl); (case ea => exact rfl); (case ec => walk_at "vis"))
  | ((with_reducible refine wp_var (t := ?et) 1 ?ea ?eb ?ec ?_); (case eb => exact rfl); (case ea => exact rfl); (case ec => walk_at "vis"))
  | ((with_reducible refine wp_var (t := ?et) 2 ?ea ?eb ?ec ?_); (case eb => exact rfl); (case ea => exact rfl); (case ec => walk_at "vis"))
  | ((with_reducible refine wp_var (t := ?et) 3 ?ea ?eb ?ec ?_); (case eb => exact rfl); (case ea => exact rfl); (case ec => walk_at "vis"))
  | ((with_reducible refine wp_var (t := ?et) 4 ?ea ?eb ?ec ?_); (case eb => exact rfl); (case ea => exact rfl); (case ec => walk_at "vis"))
  | ((with_reducible refine wp_var (t := ?et) 5 ?ea ?eb ?ec ?_); (case eb => exact rfl); (case ea => exact rfl); (case ec => walk_at "vis"))
  | ((with_reducible refine wp_var (t := ?et) 6 ?ea ?eb ?ec ?_); (case eb => exact rfl); (case ea => exact rfl); (case ec => walk_at "vis"))
  | ((with_reducible refine wp_var (t := ?et) 7 ?ea ?eb ?ec ?_); (case eb => exact rfl); (case ea => exact rfl); (case ec => walk_at "vis"))
  | ((with_reducible refine wp_var (t := ?et) 8 ?ea ?eb ?ec ?_); (case eb => exact rfl); (case ea => exact rfl); (case ec => walk_at "vis"))
  | ((with_reducible refine wp_var (t := ?et) 9 ?ea ?eb ?ec ?_); (case eb => exact rfl); (case ea => exact rfl); (case ec => walk_at "vis"))
  | ((with_reducible refine wp_var (t := ?et) 10 ?ea ?eb ?ec ?_); (case eb => exact rfl); (case ea => exact rfl); (case ec => walk_at "vis")))
local macro_rules | `(tactic| walk_at "name") => `(tactic| first
  | ((with_reducible refine wp_SIGNS ?ea ?eb ?_); (case ea => assumption); (case eb => exact rfl))
  | ((with_reducible refine wp_PLACES ?ea ?eb ?_); (case ea => assumption); (case eb => exact rfl))
  | ((with_reducible refine wp_LAMPS ?ea ?eb ?_); (case ea => assumption); (case eb => exact rfl))
  | ((with_reducible refine wp_BURNS ?ea ?eb ?_); (case ea => assumption); (case eb => exact rfl))
  | ((with_reducible refine wp_DARK ?ea ?eb ?_); (case ea => assumption); (case eb => exact rfl))
  | walk_at "var")
local macro_rules | `(tactic| walk_at "small") => `(tactic| first | omega | decide | (simp only [List.length_map, List.length_cons, List.length_nil, List.length_append, List.length_replicate, rng_len]; first | omega | decide))
local macro_rules | `(tactic| walk_at "bin") => `(tactic| first
  | (with_reducible refine bin_add ?_)
  | (with_reducible refine bin_sub ?_)
  | ((with_reducible refine bin_mul ?ec ?_); (case ec => first | exact cmul_l (by omega) (by omega) | exact cmul_r (by omega) (by omega)))
  | ((with_reducible refine bin_mod ?ec ?_); (case ec => omega))
  | ((with_reducible refine bin_fdiv ?ec ?_); (case ec => exact cdiv_mk (by omega) (by omega)))
  | (with_reducible refine bin_xor ?_)
  | (with_reducible refine bin_and ?_)
  | (with_reducible refine bin_lt ?_)
  | (with_reducible refine bin_le ?_)
  | (with_reducible refine bin_gt ?_)
  | (with_reducible refine bin_ge ?_)
  | (with_reducible refine bin_inI ?_)
  | (with_reducible refine bin_inL ?_)
  | (with_reducible refine bin_inT ?_)
  | (with_reducible refine bin_notInI ?_)
  | (with_reducible refine bin_notInL ?_)
  | (with_reducible refine bin_notInT ?_)
  | (with_reducible refine bin_notInC ?_)
  | (with_reducible refine bin_isN ?_)
  | ((with_reducible refine bin_catL ?ec ?_); (case ec => walk_at "small"))
  | ((with_reducible refine bin_catT ?ec ?_); (case ec => walk_at "small"))
  | ((with_reducible refine bin_catS ?ec ?_); (case ec => walk_at "small"))
  | ((with_reducible refine bin_eq (b := ?et) ?ec ?_); (case ec => exact rfl))
  | ((with_reducible refine bin_ne (b := ?et) ?ec ?_); (case ec => exact rfl)))
local macro_rules | `(tactic| walk_at "cal") => `(tactic| first
  | (with_reducible refine cal_lenL ?_)
  | (with_reducible refine cal_lenT ?_)
  | (with_reducible refine cal_len ?_)
  | ((with_reducible refine cal_lenS ?ec ?_); (case ec => walk_at "small"))
  | (with_reducible refine cal_tupL ?_)
  | (with_reducible refine cal_tupT ?_)
  | (with_reducible refine cal_tup ?_)
  | (with_reducible refine cal_listL ?_)
  | (with_reducible refine cal_listT ?_)
  | (with_reducible refine cal_list ?_)
  | (with_reducible refine cal_abs ?_)
  | ((with_reducible refine cal_min ?ec ?_); (case ec => exact rfl))
  | (with_reducible refine cal_int ?_)
  | (with_reducible refine cal_intB ?_)
  | ((with_reducible refine cal_sum ?ec ?_); (case ec => exact rfl))
  | ((with_reducible refine cal_all ?ec ?_); (case ec => exact rfl))
  | ((with_reducible refine cal_isi (n := ?et) ?ec ?ed ?_); (case ec => exact rfl); (case ed => decide)))
local macro_rules | `(tactic| walk_at "call") => `(tactic| first
  | ((with_reducible refine wp_len ?ea ?eb ?ec ?ed ?_); (case ea => assumption); (case eb => exact rfl); (case ec => exact rfl); (case ed => exact rfl))
  | ((with_reducible refine wp_tupleC ?ea ?eb ?ec ?ed ?_); (case ea => assumption); (case eb => exact rfl); (case ec => exact rfl); (case ed => exact rfl))
  | ((with_reducible refine wp_listC ?ea ?eb ?ec ?ed ?_); (case ea => assumption); (case eb => exact rfl); (case ec => exact rfl); (case ed => exact rfl))
  | ((with_reducible refine wp_intC ?ea ?eb ?ec ?ed ?_); (case ea => assumption); (case eb => exact rfl); (case ec => exact rfl); (case ed => exact rfl))
  | ((with_reducible refine wp_sorted ?ea ?eb ?ec ?ed ?_); (case ea => assumption); (case eb => exact rfl); (case ec => exact rfl); (case ed => exact rfl))
  | ((with_reducible refine wp_abs ?ea ?eb ?ec ?ed ?_); (case ea => assumption); (case eb => exact rfl); (case ec => exact rfl); (case ed => exact rfl))
  | ((with_reducible refine wp_min ?ea ?eb ?ec ?ed ?_); (case ea => assumption); (case eb => exact rfl); (case ec => exact rfl); (case ed => exact rfl))
  | ((with_reducible refine wp_sum ?ea ?eb ?ec ?ed ?_); (case ea => assumption); (case eb => exact rfl); (case ec => exact rfl); (case ed => exact rfl))
  | ((with_reducible refine wp_all ?ea ?eb ?ec ?ed ?_); (case ea => assumption); (case eb => exact rfl); (case ec => exact rfl); (case ed => exact rfl))
  | ((with_reducible refine wp_isinstance ?ea ?eb ?ec ?ed ?_); (case ea => assumption); (case eb => exact rfl); (case ec => exact rfl); (case ed => exact rfl)))
local macro_rules | `(tactic| walk_at "ty") => `(tactic| first
  | ((with_reducible refine wp_ty_int ?ea ?eb ?_); (case ea => assumption); (case eb => exact rfl))
  | ((with_reducible refine wp_ty_bool ?ea ?eb ?_); (case ea => assumption); (case eb => exact rfl))
  | ((with_reducible refine wp_ty_str ?ea ?eb ?_); (case ea => assumption); (case eb => exact rfl))
  | ((with_reducible refine wp_ty_list ?ea ?eb ?_); (case ea => assumption); (case eb => exact rfl))
  | ((with_reducible refine wp_ty_tuple ?ea ?eb ?_); (case ea => assumption); (case eb => exact rfl)))
local macro_rules | `(tactic| walk_at "rm") => `(tactic| (refine Room.mono (k := ?ek) ?ea ?eb; (case ea => assumption); (case eb => decide)))
local macro_rules | `(tactic| walk_at "def") => `(tactic| first
  | ((with_reducible refine wp_call (j := ?ej) (ps := ?ep) (R := ?eR) ?ea ?eb ?ec ?ed ?ee ?_); (case ea => assumption); (case eb => walk_at "rm"); (case ec => exact rfl); (case ed => exact rfl); (case ee => exact rfl))
  | ((with_reducible refine wp_callT (i := ?ej) (ps := ?ep) (kk := ?ek) (B := ?eB) (Pr := ?eP) (R := ?eR) ?ea ?eb ?ec ?ed ?ee ?_); (case ea => assumption); (case eb => walk_at "rm"); (case ec => exact rfl); (case ed => exact rfl); (case ee => exact rfl)))
local macro_rules | `(tactic| walk_at "prom") => `(tactic| (with_reducible refine Exists.intro _ (And.intro (by walk_at "ctor") ?_)))
local macro_rules | `(tactic| walk_at "ctor") => `(tactic| (constructor <;> first | assumption | omega | exact rfl))
local macro_rules | `(tactic| walk_at "cond") => `(tactic| first
  | (with_reducible refine iteT ?_)
  | (with_reducible refine iteF ?_)
  | ((with_reducible refine itecT ?ec ?_); (case ec => first | exact isB_ii | decide | (simp only [decide_eq_true_eq]; omega)))
  | ((with_reducible refine itecF ?ec ?_); (case ec => first | decide | (simp only [decide_eq_false_iff_not]; omega))))
local macro_rules | `(tactic| walk_at "len") => `(tactic| ((with_reducible refine And.intro ?ec ?_); (case ec => first | decide | walk_at "small")))
local macro_rules | `(tactic| walk_at "e") => `(tactic| first
  | ((with_reducible refine (?_ : Wp _ _ (.Name _ _) _ _)); first | walk_at "name" | walk_at "ty")
  | ((with_reducible refine (?_ : Wp _ _ (.Constant _ _ _) _ _)); with_reducible first | refine wp_int ?_ | refine wp_str ?_ | refine wp_bl ?_ | refine wp_non ?_)
  | ((with_reducible refine (?_ : WpA _ _ _ _ _)); first | (with_reducible refine wpa_nil ?_) | ((with_reducible refine wpa_cons ?ec ?_); (case ec => exact rfl)))
  | ((with_reducible refine (?_ : Bin _ _ _ _ _ _)); walk_at "bin")
  | ((with_reducible refine (?_ : Wp _ _ (.Call _ _ _ _) _ _)); first | walk_at "call" | walk_at "def")
  | (with_reducible refine wp_bin ?_)
  | ((with_reducible refine wp_cmp ?ec ?_); (case ec => first | exact nomark _ | with_unfolding_all rfl))
  | ((with_reducible refine wp_ix ?ec ?_); (case ec => exact fun _ _ => rfl))
  | ((with_reducible refine (?_ : Cal _ _ _ _ _)); first
      | walk_at "cal"
      | ((with_reducible refine cal_lenO (j := 0) (ts := ?eu) ?ea ?_); (case ea => exact rfl))
      | ((with_reducible refine cal_lenO (j := 1) (ts := ?eu) ?ea ?_); (case ea => exact rfl)))
  | (with_reducible refine wp_tup ?_)
  | (with_reducible refine wp_lst ?_)
  | ((with_reducible refine (?_ : WpT _ _ _ _ _)); first
      | ((with_reducible refine wpt_cmp ?ec ?_); (case ec => first | exact nomark _ | with_unfolding_all rfl))
      | (with_reducible refine wpt_not ?_)
      | (with_reducible refine wpt_w (wpw_and ?_))
      | (with_reducible refine wpt_w (wpw_or ?_))
      | ((with_reducible refine wpt_val ?ec ?_); (case ec => exact fun _ => rfl)))
  | ((with_reducible refine (?_ : WpW _ _ _ _ _)); with_reducible first | refine wpw_and ?_ | refine wpw_or ?_ | refine wpw_and1 ?_ | refine wpw_or1 ?_)
  | (with_reducible refine wp_if ?_)
  | (with_reducible refine KB.mk ?_)
  | (with_reducible refine wp_not ?_)
  | (with_reducible refine wp_una ?_)
  | (with_reducible refine una_neg ?_)
  | ((with_reducible refine (?_ : Wp _ _ (.BoolOp _ _ _) _ _)); with_reducible first | refine wp_and ?_ | refine wp_or ?_ | refine wp_one ?_)
  | ((with_reducible refine idx_own (j := 0) (ts := ?eu) (t := ?et) ?ea ?eb ?ec ?_); (case ea => exact rfl); (case eb => decide); (case ec => exact rfl))
  | walk_at "cond"
  | (with_reducible refine Exists.intro _ (And.intro rfl ?_)))
local macro_rules | `(tactic| walk_at "es") => `(tactic| repeat (first | walk_at "e" | walk_at "prom" | walk_at "len"))

section
variable {P : Program} {w : World} {K : PySem.W.Frag} {mg : Str → Option Value} {base : Heap} {f : Addr} {fd : FuncData}
abbrev s_is_number : Stmt := topS 4
abbrev N_is_number : List Str := ["thing"]
theorem sc_is_number : FnScope N_is_number ["thing"] (defScope s_is_number) := ⟨rfl, rfl, rfl, by decide +kernel, rfl, by decide +kernel, by decide +kernel⟩
inductive R_is_number : List T → T → Prop
  | mk (c : Int) : R_is_number [.int c] (.bl true)
abbrev D_is_number (P : Program) (w : World) (K : PySem.W.Frag) (mg : Str → Option Value) (base : Heap) : Prop := Df P w K mg base "is_number" 1 ["thing"] (spR R_is_number)
theorem ok_is_number (F : Fun K "is_number" "is_number" s_is_number f fd) (tx : Tx mg)  : FnOk P w K mg base CX0 1 f fd ["thing"] (spR R_is_number) := by
  refine fn_R F sc_is_number (fun ts t h => by cases h <;> rfl) fun cdv A outer s H E hr Z0 H0 ts t hR => ?_
  cases hR with
  | mk c =>
    refine wpb_cons (wps_ret ?_)
    walk_at "es"
    exact congrArg T.bl (by decide +kernel)
abbrev s_is_count : Stmt := topS 5
abbrev N_is_count : List Str := ["thing"]
theorem sc_is_count : FnScope N_is_count ["thing"] (defScope s_is_count) := ⟨rfl, rfl, rfl, by decide +kernel, rfl, by decide +kernel, by decide +kernel⟩
inductive R_is_count : List T → T → Prop
  | mk (c : Int) : R_is_count [.int c] (.bl (decide (0 ≤ c)))
abbrev D_is_count (P : Program) (w : World) (K : PySem.W.Frag) (mg : Str → Option Value) (base : Heap) : Prop := Df P w K mg base "is_count" 2 ["thing"] (spR R_is_count)
theorem ok_is_count (F : Fun K "is_count" "is_count" s_is_count f fd) (tx : Tx mg) (g_is_number : D_is_number P w K mg base) : FnOk P w K mg base CX0 2 f fd ["thing"] (spR R_is_count) := by
  refine fn_R F sc_is_count (fun ts t h => by cases h <;> rfl) fun cdv A outer s H E hr Z0 H0 ts t hR => ?_
  cases hR with
  | mk c =>
    refine wpb_cons (wps_ret ?_)
    walk_at "es"
    rfl
abbrev s_is_below : Stmt := topS 6
abbrev N_is_below : List Str := ["thing", "many"]
theorem sc_is_below : FnScope N_is_below ["thing", "many"] (defScope s_is_below) := ⟨rfl, rfl, rfl, by decide +kernel, rfl, by decide +kernel, by decide +kernel⟩
inductive R_is_below : List T → T → Prop
  | mk (c n : Int) : R_is_below [.int c, .int n] (.bl (decide (0 ≤ c ∧ c < n)))
abbrev D_is_below (P : Program) (w : World) (K : PySem.W.Frag) (mg : Str → Option Value) (base : Heap) : Prop := Df P w K mg base "is_below" 3 ["thing", "many"] (spR R_is_below)
theorem ok_is_below (F : Fun K "is_below" "is_below" s_is_below f fd) (tx : Tx mg) (g_is_count : D_is_count P w K mg base) : FnOk P w K mg base CX0 3 f fd ["thing", "many"] (spR R_is_below) := by
  refine fn_R F sc_is_below (fun ts t h => by cases h <;> rfl) fun cdv A outer s H E hr Z0 H0 ts t hR => ?_
  cases hR with
  | mk c n =>
    refine wpb_cons (wps_ret ?_)
    walk_at "es"
    refine iteC (fun h => ?_) fun h => ?_
    · have h0 := of_decide_eq_true h
      walk_at "es"
      exact congrArg T.bl (by simp [h0])
    · have h0 := of_decide_eq_false h
      exact congrArg T.bl (by simp [h0])
abbrev s_lamp_at : Stmt := topS 16
abbrev N_lamp_at : List Str := ["column", "line"]
theorem sc_lamp_at : FnScope N_lamp_at ["column", "line"] (defScope s_lamp_at) := ⟨rfl, rfl, rfl, by decide +kernel, rfl, by decide +kernel, by decide +kernel⟩
inductive R_lamp_at : List T → T → Prop
  | mk (c l : Int) : R_lamp_at [.int c, .int l] (.int (4 * c + l))
abbrev D_lamp_at (P : Program) (w : World) (K : PySem.W.Frag) (mg : Str → Option Value) (base : Heap) : Prop := Df P w K mg base "lamp_at" 1 ["column", "line"] (spR R_lamp_at)
theorem ok_lamp_at (F : Fun K "lamp_at" "lamp_at" s_lamp_at f fd) (tx : Tx mg)  : FnOk P w K mg base CX0 1 f fd ["column", "line"] (spR R_lamp_at) := by
  refine fn_R F sc_lamp_at (fun ts t h => by cases h <;> rfl) fun cdv A outer s H E hr Z0 H0 ts t hR => ?_
  cases hR with
  | mk c n =>
    refine wpb_cons (wps_ret ?_)
    walk_at "es"
    rfl
/-- the signs xored -/
def xors (xs : List Int) : Int := xs.foldl (fun a b => Builtin.bitXor a b) 0
theorem take_get {α : Type} {xs : List α} {i : Nat} {a : α} (h : xs[i]? = some a) : xs.take (i + 1) = xs.take i ++ [a] := by
  rw [List.take_add_one, h]
  rfl
theorem mapget {α β : Type} {e : α → β} {xs : List α} {i : Nat} {t : β} (h : (xs.map e)[i]? = some t) : ∃ a, xs[i]? = some a ∧ e a = t := by
  rw [List.getElem?_map] at h
  exact Option.map_eq_some_iff.mp h
abbrev s_sign_sum : Stmt := topS 10
abbrev N_sign_sum : List Str := ["signs", "found", "sign"]
theorem sc_sign_sum : FnScope N_sign_sum ["signs"] (defScope s_sign_sum) := ⟨rfl, rfl, rfl, by decide +kernel, rfl, by decide +kernel, by decide +kernel⟩
inductive R_sign_sum : List T → T → Prop
  | mk (xs : List Int) : R_sign_sum [tI xs] (.int (xors xs))
abbrev D_sign_sum (P : Program) (w : World) (K : PySem.W.Frag) (mg : Str → Option Value) (base : Heap) : Prop := Df P w K mg base "sign_sum" 1 ["signs"] (spR R_sign_sum)
theorem ok_sign_sum (F : Fun K "sign_sum" "sign_sum" s_sign_sum f fd) (tx : Tx mg)  : FnOk P w K mg base CX0 1 f fd ["signs"] (spR R_sign_sum) := by
  refine fn_R F sc_sign_sum (fun ts t h => by cases h <;> rfl) fun cdv A outer s H E hr Z0 H0 ts t hR => ?_
  cases hR with
  | mk xs =>
    refine wpb_cons (wps_set 1 sc_sign_sum.nd rfl (Or.inl rfl) rfl rfl ?_)
    walk_at "es"
    refine wpb_cons (wps_for PassesOwn.never rfl (tg_name 2 sc_sign_sum.nd rfl (Or.inl rfl) (Or.inl rfl)) (fun _ => rfl) (wpi_tup ?_))
    walk_at "es"
    refine ⟨fun i M' sl' => M' = ⟨Z0, H0, []⟩ ∧ ∃ w, sl' = [some (tI xs), some (.int (xors (xs.take i))), w], ⟨rfl, none, rfl⟩, ?_, ?_⟩
    · rintro i M2 sl2 t ht ⟨rfl, w, rfl⟩
      obtain ⟨a, ha, rfl⟩ := mapget ht
      refine ⟨_, rfl, ?_⟩
      refine wpb_cons (wps_set 1 sc_sign_sum.nd rfl (Or.inl rfl) rfl rfl ?_)
      walk_at "es"
      refine wpb_nil ⟨rfl, some (.int a), ?_⟩
      rw [take_get ha]
      unfold xors
      rw [List.foldl_append]
      rfl
    · rintro M2 sl2 ⟨rfl, w, rfl⟩
      refine wpb_cons (wps_ret ?_)
      walk_at "es"
      rw [List.length_map, List.take_length]
end

section
variable {P : Program} {w : World} {K : PySem.W.Frag} {mg : Str → Option Value} {base : Heap} {f : Addr} {fd : FuncData}
theorem hno1 {sl : Sl} {i : Nat} {x : Str} (h : sl[i]? = some none) : ∀ j ∈ [(x, i)].map (·.2), sl[j]? = some none ∨ sl[j]? = none := fun j hj => by
  have e : j = i := by simpa using hj
  rw [e]
  exact .inl h
theorem hsub1 {i : Nat} {x : Str} : ∀ j ∈ [i], j ∈ [(x, i)].map (·.2) := fun j hj => hj
theorem len_fm {α : Type} (xs : List α) (p : α → Bool) (g : α → T) : ((xs.filter p).map g).length ≤ xs.length := by
  rw [List.length_map]
  exact List.length_filter_le _ _
abbrev s_two_sum : Stmt := topS 19
abbrev N_two_sum : List Str := ["one", "other", "lamp"]
theorem sc_two_sum : FnScope N_two_sum ["one", "other"] (defScope s_two_sum) := ⟨rfl, rfl, rfl, by decide +kernel, rfl, by decide +kernel, by decide +kernel⟩
inductive R_two_sum : List T → T → Prop
  | mk (c : Bool) (xs ys : List Int) (hx : Lot xs) (hy : Lot ys) : R_two_sum [tI xs, Sq c (ys.map T.int)] (tI (symd xs ys))
abbrev D_two_sum (P : Program) (w : World) (K : PySem.W.Frag) (mg : Str → Option Value) (base : Heap) : Prop := Df P w K mg base "two_sum" 1 ["one", "other"] (spR R_two_sum)
theorem ok_two_sum (F : Fun K "two_sum" "two_sum" s_two_sum f fd) (tx : Tx mg)  : FnOk P w K mg base CX0 1 f fd ["one", "other"] (spR R_two_sum) := by
  refine fn_R F sc_two_sum (fun ts t h => by cases h <;> rfl) fun cdv A outer s H E hr Z0 H0 ts t hR => ?_
  cases hR with
  | mk c xs ys hx hy =>
    have lx := hx.len
    have ly := hy.len
    refine wpb_cons (wps_ret ?_)
    walk_at "es"
    refine wp_lcFil (own := [("lamp", 2)]) xs T.int (fun i => !decide (i ∈ ys)) T.int rfl sc_two_sum.nd (blkOk_by rfl) (fun _ _ _ _ _ => tg_name 2 sc_two_sum.nd rfl (by walk_at "loc") (by walk_at "loc")) hsub1 (hno1 rfl) (fun _ => rfl) (by omega) (wpi_tup ?_)
    walk_at "es"
    refine ⟨rfl, fun a ha => ⟨_, rfl, ?_, ?_⟩, ?_⟩
    · intro M' s2 H2 C cl fp
      walk_at "es"
      exact ⟨rfl, rfl⟩
    · intro _ M' s2 H2 C cl fp
      walk_at "es"
      exact ⟨rfl, rfl⟩
    refine wp_lcFil (own := [("lamp", 2)]) ys T.int (fun i => !decide (i ∈ xs)) T.int rfl sc_two_sum.nd (blkOk_by rfl) (fun _ _ _ _ _ => tg_name 2 sc_two_sum.nd rfl (by walk_at "loc") (by walk_at "loc")) hsub1 (hno1 rfl) (fun _ => rfl) (by omega) (wpi_sq ?_)
    walk_at "es"
    refine ⟨_, _, rfl, rfl, fun a ha => ⟨_, rfl, ?_, ?_⟩, ?_⟩
    · intro M' s2 H2 C cl fp
      walk_at "es"
      exact ⟨rfl, rfl⟩
    · intro _ M' s2 H2 C cl fp
      walk_at "es"
      exact ⟨rfl, rfl⟩
    have l1 := List.length_filter_le (fun i => !decide (i ∈ ys)) xs
    have l2 := List.length_filter_le (fun i => !decide (i ∈ xs)) ys
    refine bin_catLI (by omega) ?_
    walk_at "es"
    refine cal_sorted (ms := symd xs ys) (by rw [List.length_append]; omega) (two_uniq hx hy) ?_
    walk_at "es"
    rfl
abbrev s_column_lamps : Stmt := topS 21
abbrev N_column_lamps : List Str := ["lot", "column", "lamp"]
theorem sc_column_lamps : FnScope N_column_lamps ["lot", "column"] (defScope s_column_lamps) := ⟨rfl, rfl, rfl, by decide +kernel, rfl, by decide +kernel, by decide +kernel⟩
inductive R_column_lamps : List T → T → Prop
  | mkT (c : Int) (xs : List Int) (hx : xs.length ≤ 1000) : R_column_lamps [tI xs, .int c] (tI (xs.filter fun i => decide (i / 4 = c)))
  | mkL (c : Int) (xs : List Int) (hx : xs.length ≤ 1000) : R_column_lamps [lI xs, .int c] (tI (xs.filter fun i => decide (i / 4 = c)))
  | mkS (b : Bool) (c : Int) (xs : List Int) (hx : xs.length ≤ 1000) : R_column_lamps [Sq b (xs.map T.int), .int c] (tI (xs.filter fun i => decide (i / 4 = c)))
abbrev D_column_lamps (P : Program) (w : World) (K : PySem.W.Frag) (mg : Str → Option Value) (base : Heap) : Prop := Df P w K mg base "column_lamps" 1 ["lot", "column"] (spR R_column_lamps)
theorem ok_column_lamps (F : Fun K "column_lamps" "column_lamps" s_column_lamps f fd) (tx : Tx mg)  : FnOk P w K mg base CX0 1 f fd ["lot", "column"] (spR R_column_lamps) := by
  refine fn_R F sc_column_lamps (fun ts t h => by cases h <;> rfl) fun cdv A outer s H E hr Z0 H0 ts t hR => ?_
  obtain ⟨b, c, xs, hx, rfl, rfl⟩ : ∃ (b : Bool) (c : Int) (xs : List Int), xs.length ≤ 1000 ∧ ts = [Sq b (xs.map T.int), .int c] ∧ t = tI (xs.filter fun i => decide (i / 4 = c)) := by
    cases hR with
    | mkT c xs hx => exact ⟨false, c, xs, hx, rfl, rfl⟩
    | mkL c xs hx => exact ⟨true, c, xs, hx, rfl, rfl⟩
    | mkS b c xs hx => exact ⟨b, c, xs, hx, rfl, rfl⟩
  refine wpb_cons (wps_ret ?_)
  walk_at "es"
  refine wp_lcFil (own := [("lamp", 2)]) xs T.int (fun i => decide (i / 4 = c)) T.int rfl sc_column_lamps.nd (blkOk_by rfl) (fun _ _ _ _ _ => tg_name 2 sc_column_lamps.nd rfl (by walk_at "loc") (by walk_at "loc")) hsub1 (hno1 rfl) (fun _ => rfl) (by omega) (wpi_sq ?_)
  walk_at "es"
  refine ⟨_, _, rfl, rfl, fun a ha => ⟨_, rfl, ?_, ?_⟩, ?_⟩
  · intro M' s2 H2 C cl fp
    walk_at "es"
    exact ⟨rfl, rfl⟩
  · intro _ M' s2 H2 C cl fp
    walk_at "es"
    exact ⟨rfl, rfl⟩
  walk_at "es"
  rfl
abbrev s_lot_sum : Stmt := topS 20
abbrev N_lot_sum : List Str := ["lots", "found", "lot"]
theorem sc_lot_sum : FnScope N_lot_sum ["lots"] (defScope s_lot_sum) := ⟨rfl, rfl, rfl, by decide +kernel, rfl, by decide +kernel, by decide +kernel⟩
abbrev lotT (p : Bool × List Int) : T := Sq p.1 (p.2.map T.int)
def sums (ls : List (Bool × List Int)) : List Int := ls.foldl (fun a p => symd a p.2) []
inductive R_lot_sum : List T → T → Prop
  | mkT (ls : List (Bool × List Int)) (h : ∀ p ∈ ls, Lot p.2) : R_lot_sum [.tup (ls.map lotT)] (tI (sums ls))
  | mkL (ls : List (Bool × List Int)) (h : ∀ p ∈ ls, Lot p.2) : R_lot_sum [.lst (ls.map lotT)] (tI (sums ls))
theorem sums_lot : ∀ (ls : List (Bool × List Int)) (a : List Int), Lot a → Lot (ls.foldl (fun a p => symd a p.2) a)
  | [], _, h => h
  | p :: ls, a, h => sums_lot ls _ (symd_lot _ _)
abbrev D_lot_sum (P : Program) (w : World) (K : PySem.W.Frag) (mg : Str → Option Value) (base : Heap) : Prop := Df P w K mg base "lot_sum" 2 ["lots"] (spR R_lot_sum)
theorem ok_lot_sum (F : Fun K "lot_sum" "lot_sum" s_lot_sum f fd) (tx : Tx mg) (g_two_sum : D_two_sum P w K mg base) : FnOk P w K mg base CX0 2 f fd ["lots"] (spR R_lot_sum) := by
  refine fn_R F sc_lot_sum (fun ts t h => by cases h <;> rfl) fun cdv A outer s H E hr Z0 H0 ts t hR => ?_
  obtain ⟨b, ls, hl, rfl, rfl⟩ : ∃ (b : Bool) (ls : List (Bool × List Int)), (∀ p ∈ ls, Lot p.2) ∧ ts = [Sq b (ls.map lotT)] ∧ t = tI (sums ls) := by
    cases hR with
    | mkT ls h => exact ⟨false, ls, h, rfl, rfl⟩
    | mkL ls h => exact ⟨true, ls, h, rfl, rfl⟩
  refine wpb_cons (wps_set 1 sc_lot_sum.nd rfl (Or.inl rfl) rfl rfl ?_)
  walk_at "es"
  refine wpb_cons (wps_for PassesOwn.never rfl (tg_name 2 sc_lot_sum.nd rfl (Or.inl rfl) (Or.inl rfl)) (fun _ => rfl) (wpi_sq ?_))
  walk_at "es"
  refine ⟨b, _, rfl, fun i M' sl' => M' = ⟨Z0, H0, []⟩ ∧ ∃ w, sl' = [some (Sq b (ls.map lotT)), some (tI (sums (ls.take i))), w], ⟨rfl, none, rfl⟩, ?_, ?_⟩
  · rintro i M2 sl2 t ht ⟨rfl, w, rfl⟩
    obtain ⟨a, ha, rfl⟩ := mapget ht
    have h1 : Lot (sums (ls.take i)) := sums_lot _ _ lot_nil
    have h2 : Lot a.2 := hl a (List.mem_of_getElem? ha)
    refine ⟨_, rfl, ?_⟩
    refine wpb_cons (wps_set 1 sc_lot_sum.nd rfl (Or.inl rfl) rfl rfl ?_)
    walk_at "es"
    refine wpb_nil ⟨rfl, some (lotT a), ?_⟩
    rw [take_get ha]
    unfold sums
    rw [List.foldl_append]
    rfl
  · rintro M2 sl2 ⟨rfl, w, rfl⟩
    refine wpb_cons (wps_ret ?_)
    walk_at "es"
    rw [List.length_map, List.take_length]
end

section
variable {P : Program} {w : World} {K : PySem.W.Frag} {mg : Str → Option Value} {base : Heap} {f : Addr} {fd : FuncData}
def sgn (xs : List Int) (c : Int) : Int := xs.foldl (fun a l => Builtin.bitXor a (l % 4 * (if decide (l / 4 = c) = true then 1 else 0))) 0
theorem xor_in : ∀ a : Fin 4, ∀ b : Fin 4, 0 ≤ Builtin.bitXor (a.val : Int) (b.val : Int) ∧ Builtin.bitXor (a.val : Int) (b.val : Int) < 4 ∧ Builtin.bitXor (a.val : Int) 0 = (a.val : Int) := by decide +kernel
theorem xor_in' {a b : Int} (h0 : 0 ≤ a) (h1 : a < 4) (g0 : 0 ≤ b) (g1 : b < 4) : 0 ≤ Builtin.bitXor a b ∧ Builtin.bitXor a b < 4 ∧ Builtin.bitXor a 0 = a := by
  have := xor_in ⟨a.toNat, by omega⟩ ⟨b.toNat, by omega⟩
  have e1 : ((a.toNat : Nat) : Int) = a := by omega
  have e2 : ((b.toNat : Nat) : Int) = b := by omega
  simpa only [e1, e2] using this
theorem sgn_app (xs : List Int) (l c : Int) : sgn (xs ++ [l]) c = Builtin.bitXor (sgn xs c) (l % 4 * (if decide (l / 4 = c) = true then 1 else 0)) := by
  unfold sgn
  rw [List.foldl_append]
  rfl
theorem sgn_bd (c : Int) : ∀ (xs : List Int) (a : Int), 0 ≤ a → a < 4 → 0 ≤ xs.foldl (fun a l => Builtin.bitXor a (l % 4 * (if decide (l / 4 = c) = true then 1 else 0))) a ∧ xs.foldl (fun a l => Builtin.bitXor a (l % 4 * (if decide (l / 4 = c) = true then 1 else 0))) a < 4
  | [], a, h0, h1 => ⟨h0, h1⟩
  | x :: xs, a, h0, h1 => by
    have hb : 0 ≤ x % 4 * (if decide (x / 4 = c) = true then 1 else 0) ∧ x % 4 * (if decide (x / 4 = c) = true then 1 else 0) < 4 := by
      split <;> omega
    have := xor_in' h0 h1 hb.1 hb.2
    exact sgn_bd c xs _ this.1 this.2.1
theorem sgn_in (xs : List Int) (c : Int) : 0 ≤ sgn xs c ∧ sgn xs c < 4 := sgn_bd c xs 0 (by decide) (by decide)
theorem rng6 : rng 6 = [0, 1, 2, 3, 4, 5] := by decide +kernel
theorem sgn_set {xs : List Int} {a : Int} (h0 : 0 ≤ a) (h1 : a < 24) : ((rng 6).map (fun c => T.int (sgn xs c))).set (a / 4).toNat (.int (Builtin.bitXor (sgn xs (a / 4)) (a % 4))) = (rng 6).map (fun c => T.int (sgn (xs ++ [a]) c)) := by
  have hn : ∀ c, a / 4 ≠ c → sgn (xs ++ [a]) c = sgn xs c := fun c hc => by
    rw [sgn_app, if_neg (by simpa using hc), Int.mul_zero]
    exact (xor_in' (sgn_in xs c).1 (sgn_in xs c).2 (Int.le_refl 0) (by decide)).2.2
  have he : sgn (xs ++ [a]) (a / 4) = Builtin.bitXor (sgn xs (a / 4)) (a % 4) := by
    rw [sgn_app, if_pos (by simp), Int.mul_one]
  rw [← he, rng6]
  have hc : a / 4 = 0 ∨ a / 4 = 1 ∨ a / 4 = 2 ∨ a / 4 = 3 ∨ a / 4 = 4 ∨ a / 4 = 5 := by omega
  simp only [List.map_cons, List.map_nil]
  rcases hc with e | e | e | e | e | e <;> rw [e] at hn ⊢ <;> simp (disch := decide) only [hn] <;> rfl
theorem sgn_at {xs : List Int} {a : Int} (h0 : 0 ≤ a) (h1 : a < 24) : ((rng 6).map (fun c => T.int (sgn xs c)))[(a / 4).toNat]? = some (.int (sgn xs (a / 4))) := by
  rw [List.getElem?_map, rng_get (by omega)]
  have e : ((a / 4).toNat : Int) = a / 4 := by omega
  show some (T.int (sgn xs ((a / 4).toNat : Int))) = _
  rw [e]
abbrev s_column_signs : Stmt := topS 22
abbrev N_column_signs : List Str := ["lot", "found", "lamp"]
theorem sc_column_signs : FnScope N_column_signs ["lot"] (defScope s_column_signs) := ⟨rfl, rfl, rfl, by decide +kernel, rfl, by decide +kernel, by decide +kernel⟩
inductive R_column_signs : List T → T → Prop
  | mkT (xs : List Int) (hx : Lot xs) : R_column_signs [tI xs] (.tup ((rng 6).map fun c => T.int (sgn xs c)))
  | mkL (xs : List Int) (hx : Lot xs) : R_column_signs [lI xs] (.tup ((rng 6).map fun c => T.int (sgn xs c)))
  | mkS (b : Bool) (xs : List Int) (hx : Lot xs) : R_column_signs [Sq b (xs.map T.int)] (.tup ((rng 6).map fun c => T.int (sgn xs c)))
abbrev D_column_signs (P : Program) (w : World) (K : PySem.W.Frag) (mg : Str → Option Value) (base : Heap) : Prop := Df P w K mg base "column_signs" 1 ["lot"] (spR R_column_signs)
theorem ok_column_signs (F : Fun K "column_signs" "column_signs" s_column_signs f fd) (tx : Tx mg)  : FnOk P w K mg base CX0 1 f fd ["lot"] (spR R_column_signs) := by
  refine fn_R F sc_column_signs (fun ts t h => by cases h <;> rfl) fun cdv A outer s H E hr Z0 H0 ts t hR => ?_
  obtain ⟨b, xs, hx, rfl, rfl⟩ : ∃ (b : Bool) (xs : List Int), Lot xs ∧ ts = [Sq b (xs.map T.int)] ∧ t = .tup ((rng 6).map fun c => T.int (sgn xs c)) := by
    cases hR with
    | mkT xs hx => exact ⟨false, xs, hx, rfl, rfl⟩
    | mkL xs hx => exact ⟨true, xs, hx, rfl, rfl⟩
    | mkS b xs hx => exact ⟨b, xs, hx, rfl, rfl⟩
  
  refine wpb_cons (wps_own 1 sc_column_signs.nd rfl (Or.inl rfl) rfl rfl (wpn_rep ?_))
  walk_at "es"
  refine ⟨_, _, rfl, rfl, by decide, by decide, by decide, fun p => ?_⟩
  refine wpb_cons (wps_for PassesOwn.never rfl (tg_name 2 sc_column_signs.nd rfl (Or.inl rfl) (Or.inl rfl)) (fun _ => rfl) (wpi_sq ?_))
  walk_at "es"
  refine ⟨b, _, rfl, fun i M' sl' => M' = ⟨Z0, H0, [(p, .lst ((rng 6).map fun c => T.int (sgn (xs.take i) c)))]⟩ ∧ ∃ w, sl' = [some (Sq b (xs.map T.int)), some (.ptr p), w], ⟨rfl, none, rfl⟩, ?_, ?_⟩
  · rintro i M2 sl2 t ht ⟨rfl, w, rfl⟩
    obtain ⟨a, ha, rfl⟩ := mapget ht
    have hb := hx.mem (List.mem_of_getElem? ha)
    refine ⟨_, rfl, ?_⟩
    refine wpb_cons (wps_setItem 1 0 rfl rfl (Or.inl rfl) (fun v => rfl) rfl rfl rfl ?_)
    walk_at "es"
    refine idx_own (j := 0) rfl (by omega) (sgn_at hb.1 hb.2) ?_
    walk_at "es"
    refine ⟨_, _, rfl, rfl, by omega, by rw [List.length_map, rng_len]; omega, ?_⟩
    refine wpb_nil ⟨?_, some (.int a), rfl⟩
    rw [sgn_set hb.1 hb.2, take_get ha]
    rfl
  · rintro M2 sl2 ⟨rfl, w, rfl⟩
    refine wpb_close 1 rfl rfl ?_
    refine wpb_cons (wps_ret ?_)
    walk_at "es"
    rw [List.length_map, List.take_length]
abbrev s_parities : Stmt := topS 23
abbrev N_parities : List Str := ["lot", "columns", "column", "lamp"]
theorem sc_parities : FnScope N_parities ["lot"] (defScope s_parities) := ⟨rfl, rfl, rfl, by decide +kernel, rfl, by decide +kernel, by decide +kernel⟩
abbrev parT (xs : List Int) : T := .tup ((rng 6).map (fun c => T.int (((xs.filter fun i => decide (i / 4 = c)).length : Int) % 2)) ++ [T.int (((xs.filter fun i => decide (i % 4 = 0)).length : Int) % 2)])
inductive R_parities : List T → T → Prop
  | mkT (xs : List Int) (hx : xs.length ≤ 1000) : R_parities [tI xs] (parT xs)
  | mkL (xs : List Int) (hx : xs.length ≤ 1000) : R_parities [lI xs] (parT xs)
  | mkS (b : Bool) (xs : List Int) (hx : xs.length ≤ 1000) : R_parities [Sq b (xs.map T.int)] (parT xs)
abbrev D_parities (P : Program) (w : World) (K : PySem.W.Frag) (mg : Str → Option Value) (base : Heap) : Prop := Df P w K mg base "parities" 2 ["lot"] (spR R_parities)
theorem ok_parities (F : Fun K "parities" "parities" s_parities f fd) (tx : Tx mg) (g_column_lamps : D_column_lamps P w K mg base) : FnOk P w K mg base CX0 2 f fd ["lot"] (spR R_parities) := by
  refine fn_R F sc_parities (fun ts t h => by cases h <;> rfl) fun cdv A outer s H E hr Z0 H0 ts t hR => ?_
  obtain ⟨b, xs, hx, rfl, rfl⟩ : ∃ (b : Bool) (xs : List Int), xs.length ≤ 1000 ∧ ts = [Sq b (xs.map T.int)] ∧ t = parT xs := by
    cases hR with
    | mkT xs hx => exact ⟨false, xs, hx, rfl, rfl⟩
    | mkL xs hx => exact ⟨true, xs, hx, rfl, rfl⟩
    | mkS b xs hx => exact ⟨b, xs, hx, rfl, rfl⟩
  
  refine wpb_cons (wps_lcMap 1 (own := [("column", 2)]) (rng 6) T.int (fun c => T.int (((xs.filter fun i => decide (i / 4 = c)).length : Int) % 2)) rfl sc_parities.nd rfl rfl (sw_true rfl rfl rfl rfl) (blkOk_by rfl) (fun _ _ _ _ _ => tg_name 2 sc_parities.nd rfl (by walk_at "loc") (by walk_at "loc")) hsub1 (hno1 rfl) (fun _ => rfl) (by decide) (wpi_range tx.nRange rfl rfl ?_))
  walk_at "es"
  refine ⟨rfl, fun a ha => ⟨_, rfl, ?_⟩, ?_⟩
  · intro M' s2 H2 C cl fp
    walk_at "es"
    refine ⟨rfl, ?_⟩
    rw [List.length_map]
  refine wpb_cons (wps_ret ?_)
  walk_at "es"
  refine wp_lcFil (own := [("lamp", 3)]) xs T.int (fun i => decide (i % 4 = 0)) T.int rfl sc_parities.nd (blkOk_by rfl) (fun _ _ _ _ _ => tg_name 3 sc_parities.nd rfl (by walk_at "loc") (by walk_at "loc")) hsub1 (hno1 rfl) (fun _ => rfl) (by omega) (wpi_sq ?_)
  walk_at "es"
  refine ⟨_, _, rfl, rfl, fun a ha => ⟨_, rfl, ?_, ?_⟩, ?_⟩
  · intro M' s2 H2 C cl fp
    walk_at "es"
    exact ⟨rfl, rfl⟩
  · intro _ M' s2 H2 C cl fp
    walk_at "es"
    exact ⟨rfl, rfl⟩
  walk_at "es"
  rw [List.length_map]
end

section
variable {P : Program} {w : World} {K : PySem.W.Frag} {mg : Str → Option Value} {base : Heap} {f : Addr} {fd : FuncData}
def subs (xs : List Int) : List (List Int) := xs.foldl (fun f x => f ++ f.map fun o => o ++ [x]) [[]]
theorem subs_app (xs : List Int) (x : Int) : subs (xs ++ [x]) = subs xs ++ (subs xs).map fun o => o ++ [x] := by
  unfold subs
  rw [List.foldl_append]
  rfl
theorem subs_len : ∀ (xs : List Int) (f : List (List Int)) (n : Nat), (∀ o ∈ f, o.length ≤ n) → ∀ o ∈ xs.foldl (fun f x => f ++ f.map fun o => o ++ [x]) f, o.length ≤ n + xs.length
  | [], f, n, h => h
  | x :: xs, f, n, h => by
    intro o ho
    have := subs_len xs (f ++ f.map fun o => o ++ [x]) (n + 1) (fun o ho => by
      rcases List.mem_append.mp ho with ho | ho
      · have := h o ho
        omega
      · obtain ⟨p, hp, rfl⟩ := List.mem_map.mp ho
        have := h p hp
        simp
        omega) o ho
    simp only [List.length_cons]
    omega
theorem subs_len' (xs : List Int) : ∀ o ∈ subs xs, o.length ≤ xs.length := by
  have := subs_len xs [[]] 0 (by simp)
  simpa [subs] using this
theorem subs_card : ∀ (xs : List Int) (f : List (List Int)), (xs.foldl (fun f x => f ++ f.map fun o => o ++ [x]) f).length = f.length * 2 ^ xs.length
  | [], f => by simp
  | x :: xs, f => by
    rw [List.foldl_cons, subs_card xs]
    simp only [List.length_append, List.length_map, List.length_cons]
    rw [Nat.pow_succ]
    have : f.length + f.length = f.length * 2 := by omega
    rw [this, Nat.mul_assoc, Nat.mul_comm 2]
theorem subs_card' {xs : List Int} (h : xs.length ≤ 4) : (subs xs).length ≤ 16 := by
  unfold subs
  rw [subs_card]
  have : 2 ^ xs.length ≤ 2 ^ 4 := Nat.pow_le_pow_right (by decide) h
  simpa using this
theorem rows_app {xss : List (List Int)} {x : Int} : xss.map tI ++ xss.map (fun o => tI (o ++ [x])) = (xss ++ xss.map fun o => o ++ [x]).map tI := by
  rw [List.map_append, List.map_map]
  rfl
def ways (s p : Int) : List (List Int) := (srt (subs (rng 4))).filter fun o => decide ((o.length : Int) % 2 = p) && decide (xors o = s)
theorem ways_law : ∀ s : Fin 4, ∀ p : Fin 2, srt ((subs [0, 1, 2, 3]).filter fun o => decide ((o.length : Int) % 2 = (p.val : Int)) && decide (sgn o 0 = (s.val : Int))) = ways s.val p.val := by decide +kernel
theorem ways_law' {s p : Int} (h0 : 0 ≤ s) (h1 : s < 4) (g0 : 0 ≤ p) (g1 : p < 2) : srt ((subs [0, 1, 2, 3]).filter fun o => decide ((o.length : Int) % 2 = p) && decide (sgn o 0 = s)) = ways s p := by
  have := ways_law ⟨s.toNat, by omega⟩ ⟨p.toNat, by omega⟩
  have e1 : ((s.toNat : Nat) : Int) = s := by omega
  have e2 : ((p.toNat : Nat) : Int) = p := by omega
  simpa only [e1, e2] using this
theorem subs_mem : ∀ o ∈ subs [0, 1, 2, 3], ∀ i ∈ o, 0 ≤ i ∧ i < 24 := by decide +kernel
abbrev s_line_sets : Stmt := topS 24
abbrev N_line_sets : List Str := ["found", "line", "own"]
theorem sc_line_sets : FnScope N_line_sets [] (defScope s_line_sets) := ⟨rfl, rfl, rfl, by decide +kernel, rfl, by decide +kernel, by decide +kernel⟩
inductive R_line_sets : List T → T → Prop
  | mk : R_line_sets [] (.lst ((srt (subs (rng 4))).map tI))
abbrev D_line_sets (P : Program) (w : World) (K : PySem.W.Frag) (mg : Str → Option Value) (base : Heap) : Prop := Df P w K mg base "line_sets" 1 [] (spR R_line_sets)
theorem ok_line_sets (F : Fun K "line_sets" "line_sets" s_line_sets f fd) (tx : Tx mg)  : FnOk P w K mg base CX0 1 f fd [] (spR R_line_sets) := by
  refine fn_R F sc_line_sets (fun ts t h => by cases h <;> rfl) fun cdv A outer s H E hr Z0 H0 ts t hR => ?_
  cases hR with
  | mk =>
    refine wpb_cons (wps_set 0 sc_line_sets.nd rfl (Or.inl rfl) rfl rfl ?_)
    walk_at "es"
    refine wpb_cons (wps_for PassesOwn.never rfl (tg_name 1 sc_line_sets.nd rfl (Or.inr rfl) (Or.inl rfl)) (fun _ => rfl) (wpi_range tx.nRange rfl rfl ?_))
    walk_at "es"
    refine ⟨fun i M' sl' => M' = ⟨Z0, H0, []⟩ ∧ ∃ w, sl' = [some (.lst ((subs ((rng 4).take i)).map tI)), w, none], ⟨rfl, none, rfl⟩, ?_, ?_⟩
    · rintro i M2 sl2 t ht ⟨rfl, w, rfl⟩
      obtain ⟨a, ha, rfl⟩ := mapget ht
      have h4 : ((rng 4).take i).length ≤ 4 := by rw [List.length_take, rng_len]; omega
      have hc := subs_card' h4
      have hl := subs_len' ((rng 4).take i)
      refine ⟨_, rfl, ?_⟩
      refine wpb_cons (wps_set 0 sc_line_sets.nd rfl (Or.inl rfl) rfl rfl ?_)
      walk_at "es"
      refine wp_lcMap (own := [("own", 2)]) (subs ((rng 4).take i)) tI (fun o => tI (o ++ [a])) rfl sc_line_sets.nd (blkOk_by rfl) (fun _ _ _ _ _ => tg_name 2 sc_line_sets.nd rfl (by walk_at "loc") (by walk_at "loc")) hsub1 (hno1 rfl) (fun _ => rfl) (by omega) (wpi_lst ?_)
      walk_at "es"
      refine ⟨rfl, fun o ho => ⟨_, rfl, ?_⟩, ?_⟩
      · intro M' s2 H2 C cl fp
        have := hl o ho
        walk_at "es"
        exact ⟨rfl, by show T.tup _ = T.tup ((o ++ [a]).map T.int); rw [List.map_append]; rfl⟩
      walk_at "es"
      refine wpb_nil ⟨rfl, some (.int a), ?_⟩
      rw [take_get ha, subs_app, ← rows_app]
      rfl
    · rintro M2 sl2 ⟨rfl, w, rfl⟩
      refine wpb_cons (wps_ret ?_)
      walk_at "es"
      refine cal_srtT hr.units ?_
      show T.lst _ = _
      rw [List.length_map, List.take_length]
abbrev s_column_ways : Stmt := topS 25
abbrev N_column_ways : List Str := ["sign", "parity", "own"]
theorem sc_column_ways : FnScope N_column_ways ["sign", "parity"] (defScope s_column_ways) := ⟨rfl, rfl, rfl, by decide +kernel, rfl, by decide +kernel, by decide +kernel⟩
inductive R_column_ways : List T → T → Prop
  | mk (s p : Int) : R_column_ways [.int s, .int p] (.lst ((ways s p).map tI))
theorem srt_len (l : List (List Int)) : (srt l).length = l.length := (srt_perm l).length_eq
theorem subs4_len : (subs (rng 4)).length ≤ 16 := subs_card' (by decide)
abbrev D_column_ways (P : Program) (w : World) (K : PySem.W.Frag) (mg : Str → Option Value) (base : Heap) : Prop := Df P w K mg base "column_ways" 2 ["sign", "parity"] (spR R_column_ways)
theorem ok_column_ways (F : Fun K "column_ways" "column_ways" s_column_ways f fd) (tx : Tx mg) (g_line_sets : D_line_sets P w K mg base) (g_sign_sum : D_sign_sum P w K mg base) : FnOk P w K mg base CX0 2 f fd ["sign", "parity"] (spR R_column_ways) := by
  refine fn_R F sc_column_ways (fun ts t h => by cases h <;> rfl) fun cdv A outer s H E hr Z0 H0 ts t hR => ?_
  cases hR with
  | mk c p =>
    have h16 := subs4_len
    refine wpb_cons (wps_ret ?_)
    refine wp_lcFil (own := [("own", 2)]) (srt (subs (rng 4))) tI (fun o => decide ((o.length : Int) % 2 = p) && decide (xors o = c)) tI rfl sc_column_ways.nd (blkOk_by rfl) (fun _ _ _ _ _ => tg_name 2 sc_column_ways.nd rfl (by walk_at "loc") (by walk_at "loc")) hsub1 (hno1 rfl) (fun _ => rfl) (by rw [srt_len]; omega) (wpi_lst ?_)
    refine wp_call0 g_line_sets (by walk_at "rm") rfl R_line_sets.mk ?_
    walk_at "es"
    refine ⟨rfl, fun a ha => ⟨_, rfl, ?_, ?_⟩, ?_⟩
    · intro M' s2 H2 C cl fp
      walk_at "es"
      rw [List.length_map]
      refine iteC (fun h => ?_) fun h => ?_
      · walk_at "es"
        exact ⟨rfl, by rw [h, Bool.true_and]⟩
      · exact ⟨rfl, by rw [h, Bool.false_and]⟩
    · intro _ M' s2 H2 C cl fp
      walk_at "es"
      exact ⟨rfl, rfl⟩
    rfl
abbrev s__law_subsets : Stmt := topS 38
abbrev N__law_subsets : List Str := ["_law_things_so", "_law_found", "_law_thing_so", "_law_own"]
theorem sc__law_subsets : FnScope N__law_subsets ["_law_things_so"] (defScope s__law_subsets) := ⟨rfl, rfl, rfl, by decide +kernel, rfl, by decide +kernel, by decide +kernel⟩
inductive R__law_subsets : List T → T → Prop
  | mk : R__law_subsets [.lst [.int 0, .int 1, .int 2, .int 3]] (.lst ((subs [0, 1, 2, 3]).map tI))
abbrev D__law_subsets (P : Program) (w : World) (K : PySem.W.Frag) (mg : Str → Option Value) (base : Heap) : Prop := Df P w K mg base "_law_subsets" 1 ["_law_things_so"] (spR R__law_subsets)
theorem ok__law_subsets (F : Fun K "_law_subsets" "_law_subsets" s__law_subsets f fd) (tx : Tx mg)  : FnOk P w K mg base CX0 1 f fd ["_law_things_so"] (spR R__law_subsets) := by
  refine fn_R F sc__law_subsets (fun ts t h => by cases h <;> rfl) fun cdv A outer s H E hr Z0 H0 ts t hR => ?_
  cases hR with
  | mk =>
    refine wpb_cons (wps_set 1 sc__law_subsets.nd rfl (Or.inl rfl) rfl rfl ?_)
    walk_at "es"
    refine wpb_cons (wps_for PassesOwn.never rfl (tg_name 2 sc__law_subsets.nd rfl (Or.inr rfl) (Or.inl rfl)) (fun _ => rfl) (wpi_lst ?_))
    walk_at "es"
    refine ⟨fun i M' sl' => M' = ⟨Z0, H0, []⟩ ∧ ∃ w, sl' = [some (lI [0, 1, 2, 3]), some (.lst ((subs ([0, 1, 2, 3].take i)).map tI)), w, none], ⟨rfl, none, rfl⟩, ?_, ?_⟩
    · rintro i M2 sl2 t ht ⟨rfl, w, rfl⟩
      obtain ⟨a, ha, rfl⟩ := mapget (e := T.int) (xs := [0, 1, 2, 3]) ht
      have h4 : (([0, 1, 2, 3] : List Int).take i).length ≤ 4 := by rw [List.length_take]; simp; omega
      have hc := subs_card' h4
      have hl := subs_len' (([0, 1, 2, 3] : List Int).take i)
      refine ⟨_, rfl, ?_⟩
      refine wpb_cons (wps_set 1 sc__law_subsets.nd rfl (Or.inl rfl) rfl rfl ?_)
      walk_at "es"
      refine wp_lcMap (own := [("_law_own", 3)]) (subs (([0, 1, 2, 3] : List Int).take i)) tI (fun o => tI (o ++ [a])) rfl sc__law_subsets.nd (blkOk_by rfl) (fun _ _ _ _ _ => tg_name 3 sc__law_subsets.nd rfl (by walk_at "loc") (by walk_at "loc")) hsub1 (hno1 rfl) (fun _ => rfl) (by omega) (wpi_lst ?_)
      walk_at "es"
      refine ⟨rfl, fun o ho => ⟨_, rfl, ?_⟩, ?_⟩
      · intro M' s2 H2 C cl fp
        have := hl o ho
        walk_at "es"
        exact ⟨rfl, by show T.tup _ = T.tup ((o ++ [a]).map T.int); rw [List.map_append]; rfl⟩
      walk_at "es"
      refine wpb_nil ⟨rfl, some (.int a), ?_⟩
      rw [take_get ha, subs_app, ← rows_app]
      rfl
    · rintro M2 sl2 ⟨rfl, w, rfl⟩
      refine wpb_cons (wps_ret ?_)
      walk_at "es"
      rfl
abbrev s__law_sign : Stmt := topS 42
abbrev N__law_sign : List Str := ["_law_lot_so", "_law_column_so", "_law_found", "_law_lamp_so"]
theorem sc__law_sign : FnScope N__law_sign ["_law_lot_so", "_law_column_so"] (defScope s__law_sign) := ⟨rfl, rfl, rfl, by decide +kernel, rfl, by decide +kernel, by decide +kernel⟩
inductive R__law_sign : List T → T → Prop
  | mk (xs : List Int) (c : Int) (h : ∀ i ∈ xs, 0 ≤ i ∧ i < 24) : R__law_sign [tI xs, .int c] (.int (sgn xs c))
abbrev D__law_sign (P : Program) (w : World) (K : PySem.W.Frag) (mg : Str → Option Value) (base : Heap) : Prop := Df P w K mg base "_law_sign" 1 ["_law_lot_so", "_law_column_so"] (spR R__law_sign)
theorem ok__law_sign (F : Fun K "_law_sign" "_law_sign" s__law_sign f fd) (tx : Tx mg)  : FnOk P w K mg base CX0 1 f fd ["_law_lot_so", "_law_column_so"] (spR R__law_sign) := by
  refine fn_R F sc__law_sign (fun ts t h => by cases h <;> rfl) fun cdv A outer s H E hr Z0 H0 ts t hR => ?_
  cases hR with
  | mk xs c hx =>
    refine wpb_cons (wps_set 2 sc__law_sign.nd rfl (Or.inl rfl) rfl rfl ?_)
    walk_at "es"
    refine wpb_cons (wps_for PassesOwn.never rfl (tg_name 3 sc__law_sign.nd rfl (Or.inl rfl) (Or.inl rfl)) (fun _ => rfl) (wpi_tup ?_))
    walk_at "es"
    refine ⟨fun i M' sl' => M' = ⟨Z0, H0, []⟩ ∧ ∃ w, sl' = [some (tI xs), some (.int c), some (.int (sgn (xs.take i) c)), w], ⟨rfl, none, rfl⟩, ?_, ?_⟩
    · rintro i M2 sl2 t ht ⟨rfl, w, rfl⟩
      obtain ⟨a, ha, rfl⟩ := mapget ht
      refine ⟨_, rfl, ?_⟩
      refine wpb_cons (wps_set 2 sc__law_sign.nd rfl (Or.inl rfl) rfl rfl ?_)
      walk_at "es"
      refine wpb_nil ⟨rfl, some (.int a), ?_⟩
      rw [take_get ha, sgn_app]
      rfl
    · rintro M2 sl2 ⟨rfl, w, rfl⟩
      refine wpb_cons (wps_ret ?_)
      walk_at "es"
      rw [List.length_map, List.take_length]
abbrev s__law_ways : Stmt := topS 48
abbrev N__law_ways : List Str := ["_law_sign_so", "_law_parity_so", "_law_found", "_law_own"]
theorem sc__law_ways : FnScope N__law_ways ["_law_sign_so", "_law_parity_so"] (defScope s__law_ways) := ⟨rfl, rfl, rfl, by decide +kernel, rfl, by decide +kernel, by decide +kernel⟩
inductive R__law_ways : List T → T → Prop
  | mk (s p : Int) (h0 : 0 ≤ s) (h1 : s < 4) (g0 : 0 ≤ p) (g1 : p < 2) : R__law_ways [.int s, .int p] (.lst ((ways s p).map tI))
abbrev D__law_ways (P : Program) (w : World) (K : PySem.W.Frag) (mg : Str → Option Value) (base : Heap) : Prop := Df P w K mg base "_law_ways" 2 ["_law_sign_so", "_law_parity_so"] (spR R__law_ways)
theorem ok__law_ways (F : Fun K "_law_ways" "_law_ways" s__law_ways f fd) (tx : Tx mg) (g__law_subsets : D__law_subsets P w K mg base) (g__law_sign : D__law_sign P w K mg base) : FnOk P w K mg base CX0 2 f fd ["_law_sign_so", "_law_parity_so"] (spR R__law_ways) := by
  refine fn_R F sc__law_ways (fun ts t h => by cases h <;> rfl) fun cdv A outer s H E hr Z0 H0 ts t hR => ?_
  cases hR with
  | mk c p h0 h1 g0 g1 =>
    have h16 : (subs [0, 1, 2, 3]).length ≤ 16 := subs_card' (by decide)
    refine wpb_cons (wps_own 2 sc__law_ways.nd rfl (Or.inl rfl) rfl rfl (wpn_lst ?_))
    walk_at "es"
    intro q
    refine wpb_cons (wps_for PassesOwn.never rfl (tg_name 3 sc__law_ways.nd rfl (Or.inl rfl) (Or.inl rfl)) (fun _ => rfl) (wpi_lst ?_))
    walk_at "es"
    refine ⟨fun i M' sl' => M' = ⟨Z0, H0, [(q, .lst ((((subs [0, 1, 2, 3]).take i).filter fun o => decide ((o.length : Int) % 2 = p) && decide (sgn o 0 = c)).map tI))]⟩ ∧ ∃ w, sl' = [some (.int c), some (.int p), some (.ptr q), w], ⟨rfl, none, rfl⟩, ?_, ?_⟩
    · rintro i M2 sl2 t ht ⟨rfl, w, rfl⟩
      obtain ⟨a, ha, rfl⟩ := mapget ht
      have hm := subs_mem a (List.mem_of_getElem? ha)
      refine ⟨_, rfl, ?_⟩
      refine wpb_cons (wps_if ?_)
      walk_at "es"
      rw [List.length_map]
      refine iteC (fun h => ?_) fun h => ?_
      · walk_at "es"
        refine iteC (fun h' => ?_) fun h' => ?_
        · refine wpb_cons (wps_append 2 0 rfl rfl (Or.inl rfl) rfl rfl rfl rfl rfl rfl ?_)
          walk_at "es"
          refine ⟨?_, ?_⟩
          · rw [List.length_map]
            refine Nat.lt_of_le_of_lt (List.length_filter_le _ _) ?_
            rw [List.length_take]
            omega
          refine wpb_nil ?_
          refine wpb_nil ?_
          refine ⟨?_, some (tI a), rfl⟩
          rw [take_get ha, List.filter_append, List.filter_cons_of_pos (by rw [h, h', Bool.and_self]), List.map_append]
          rfl
        · refine wpb_nil (wpb_nil ⟨?_, some (tI a), rfl⟩)
          rw [take_get ha, List.filter_append, List.filter_cons_of_neg (by rw [h, h', Bool.and_false]; exact Bool.false_ne_true), List.map_append, List.filter_nil, List.map_nil, List.append_nil]
      · walk_at "es"
        refine wpb_nil (wpb_nil ⟨?_, some (tI a), rfl⟩)
        rw [take_get ha, List.filter_append, List.filter_cons_of_neg (by rw [h, Bool.false_and]; exact Bool.false_ne_true), List.map_append, List.filter_nil, List.map_nil, List.append_nil]
    · rintro M2 sl2 ⟨rfl, w, rfl⟩
      refine wpb_close 2 rfl rfl ?_
      refine wpb_cons (wps_ret ?_)
      walk_at "es"
      refine cal_srtT hr.units ?_
      show T.lst _ = _
      rw [List.length_map, List.take_length, ways_law' h0 h1 g0 g1]
end

section
variable {P : Program} {w : World} {K : PySem.W.Frag} {mg : Str → Option Value} {base : Heap} {f : Addr} {fd : FuncData}
theorem enT_inv : ∀ {ts : List T} {n i : Nat} {u : T}, (enT n ts)[i]? = some u → ∃ t, ts[i]? = some t ∧ u = .tup [.int ((n + i : Nat) : Int), t] := fun {ts n i u} h => by
  have hi : i < ts.length := by
    have := (List.getElem?_eq_some_iff.mp h).1
    rwa [enT_len] at this
  refine ⟨ts[i], List.getElem?_eq_getElem hi, ?_⟩
  have := enT_get (n := n) (List.getElem?_eq_getElem hi)
  rw [h] at this
  exact Option.some.inj this
def stepL (c s p : Int) (f : List (List Int)) : List (List Int) := ((ways s p).map fun ls => f.map fun o => o ++ ls.map fun l => 4 * c + l).flatten
def lw (p : Int) : Int → List Int → List (List Int) → List (List Int)
  | _, [], f => f
  | c, s :: r, f => lw p (c + 1) r (stepL c s p f)
theorem ways_ok : ∀ s : Fin 4, ∀ p : Fin 2, (ways s.val p.val).length = 2 ∧ ∀ ls ∈ ways s.val p.val, ls.length ≤ 4 ∧ ∀ l ∈ ls, 0 ≤ l ∧ l < 4 := by decide +kernel
theorem ways_ok' {s p : Int} (h0 : 0 ≤ s) (h1 : s < 4) (g0 : 0 ≤ p) (g1 : p < 2) : (ways s p).length = 2 ∧ ∀ ls ∈ ways s p, ls.length ≤ 4 ∧ ∀ l ∈ ls, 0 ≤ l ∧ l < 4 := by
  have := ways_ok ⟨s.toNat, by omega⟩ ⟨p.toNat, by omega⟩
  have e1 : ((s.toNat : Nat) : Int) = s := by omega
  have e2 : ((p.toNat : Nat) : Int) = p := by omega
  simpa only [e1, e2] using this
/-- the part of a step -/
def accL (c s p : Int) (f : List (List Int)) (j : Nat) : List (List Int) := (((ways s p).take j).map fun ls => f.map fun o => o ++ ls.map fun l => 4 * c + l).flatten
theorem accL_succ {c s p : Int} {f : List (List Int)} {j : Nat} {ls : List Int} (h : (ways s p)[j]? = some ls) : accL c s p f (j + 1) = accL c s p f j ++ f.map fun o => o ++ ls.map fun l => 4 * c + l := by
  unfold accL
  rw [take_get h, List.map_append, List.flatten_append]
  simp
theorem accL_all {c s p : Int} {f : List (List Int)} : accL c s p f (ways s p).length = stepL c s p f := by
  unfold accL stepL
  rw [List.take_length]
theorem accL_len (c s p : Int) (f : List (List Int)) : ∀ j, (accL c s p f j).length ≤ j * f.length
  | 0 => by simp [accL]
  | j + 1 => by
    have ih := accL_len c s p f j
    rw [Nat.succ_mul]
    cases h : (ways s p)[j]? with
    | none =>
      have : (ways s p).length ≤ j := by simpa using h
      have e : accL c s p f (j + 1) = accL c s p f j := by
        unfold accL
        rw [List.take_of_length_le (by omega), List.take_of_length_le this]
      rw [e]
      omega
    | some ls =>
      rw [accL_succ h, List.length_append, List.length_map]
      omega
theorem stepL_len {c s p : Int} {f : List (List Int)} (h0 : 0 ≤ s) (h1 : s < 4) (g0 : 0 ≤ p) (g1 : p < 2) : (stepL c s p f).length ≤ 2 * f.length := by
  have := accL_len c s p f (ways s p).length
  rw [accL_all, (ways_ok' h0 h1 g0 g1).1] at this
  exact this
theorem stepL_mem {c s p : Int} {f : List (List Int)} {o : List Int} (h : o ∈ stepL c s p f) : ∃ ls ∈ ways s p, ∃ o' ∈ f, o = o' ++ ls.map fun l => 4 * c + l := by
  unfold stepL at h
  obtain ⟨l, hl, ho⟩ := List.mem_flatten.mp h
  obtain ⟨ls, h1, rfl⟩ := List.mem_map.mp hl
  obtain ⟨o', h2, rfl⟩ := List.mem_map.mp ho
  exact ⟨ls, h1, o', h2, rfl⟩
/-- how a turn stands -/
structure LwOk (row : List Int) (p : Int) (i : Nat) (f : List (List Int)) : Prop where
  eq : lw p (i : Int) (row.drop i) f = lw p 0 row [[]]
  card : f.length ≤ 2 ^ i
  len : ∀ o ∈ f, o.length ≤ 4 * i
theorem LwOk.zero {row : List Int} {p : Int} : LwOk row p 0 [[]] := ⟨rfl, by simp, by simp⟩
theorem LwOk.step {row : List Int} {p s : Int} {i : Nat} {f : List (List Int)} (h : LwOk row p i f) (hs : row[i]? = some s) (h0 : 0 ≤ s) (h1 : s < 4) (g0 : 0 ≤ p) (g1 : p < 2) : LwOk row p (i + 1) (stepL i s p f) := by
  refine ⟨?_, ?_, fun o ho => ?_⟩
  · rw [← h.eq]
    obtain ⟨hi, e⟩ := List.getElem?_eq_some_iff.mp hs
    rw [List.drop_eq_getElem_cons hi, e]
    show _ = lw p ((i : Int) + 1) _ _
    rfl
  · have := stepL_len (c := i) (f := f) h0 h1 g0 g1
    have := h.card
    rw [Nat.pow_succ]
    omega
  · obtain ⟨ls, hl, o', ho', rfl⟩ := stepL_mem ho
    have := h.len o' ho'
    have := ((ways_ok' h0 h1 g0 g1).2 ls hl).1
    rw [List.length_append, List.length_map]
    omega
theorem LwOk.done {row : List Int} {p : Int} {i : Nat} {f : List (List Int)} (h : LwOk row p i f) (hi : i = row.length) : f = lw p 0 row [[]] := by
  have := h.eq
  rw [hi, List.drop_length] at this
  exact this
def Row (row : List Int) : Prop := row.length = 6 ∧ ∀ s ∈ row, 0 ≤ s ∧ s < 4
abbrev s_lots_with : Stmt := topS 26
abbrev N_lots_with : List Str := ["row", "parity", "found", "column", "sign", "longer", "lines", "here", "line", "own"]
theorem sc_lots_with : FnScope N_lots_with ["row", "parity"] (defScope s_lots_with) := ⟨rfl, rfl, rfl, by decide +kernel, rfl, by decide +kernel, by decide +kernel⟩
inductive R_lots_with : List T → T → Prop
  | mkT (row : List Int) (p : Int) (hr : Row row) (g0 : 0 ≤ p) (g1 : p < 2) : R_lots_with [tI row, .int p] (.lst ((srt (lw p 0 row [[]])).map tI))
  | mkL (row : List Int) (p : Int) (hr : Row row) (g0 : 0 ≤ p) (g1 : p < 2) : R_lots_with [lI row, .int p] (.lst ((srt (lw p 0 row [[]])).map tI))
abbrev D_lots_with (P : Program) (w : World) (K : PySem.W.Frag) (mg : Str → Option Value) (base : Heap) : Prop := Df P w K mg base "lots_with" 3 ["row", "parity"] (spR R_lots_with)
theorem ok_lots_with (F : Fun K "lots_with" "lots_with" s_lots_with f fd) (tx : Tx mg) (g_lamp_at : D_lamp_at P w K mg base) (g_column_ways : D_column_ways P w K mg base) : FnOk P w K mg base CX0 3 f fd ["row", "parity"] (spR R_lots_with) := by
  refine fn_R F sc_lots_with (fun ts t h => by cases h <;> rfl) fun cdv A outer s H E hr Z0 H0 ts t hR => ?_
  cases hR with
  | mkT row p hr0 g0 g1 =>
    refine wpb_cons (wps_set 2 sc_lots_with.nd rfl (Or.inl rfl) rfl rfl ?_)
    walk_at "es"
    refine wpb_cons (wps_for PassesOwn.never rfl (tg_pair 3 4 rfl sc_lots_with.nd rfl rfl (by walk_at "loc") (by walk_at "loc") (by walk_at "loc") (by walk_at "loc")) (fun _ => rfl) (wpi_enumT tx.nEnumerate rfl rfl ?_))
    walk_at "es"
    refine ⟨fun i M' sl' => M' = ⟨Z0, H0, []⟩ ∧ ∃ f, LwOk row p i f ∧ ∃ w3 w4 w5 w6 w7, sl' = [some (tI row), some (.int p), some (.lst (f.map tI)), w3, w4, w5, w6, w7, none, none], ⟨rfl, [[]], LwOk.zero, none, none, none, none, none, rfl⟩, ?_, ?_⟩
    · rintro i M2 sl2 t ht ⟨rfl, f, hf, w3, w4, w5, w6, w7, rfl⟩
      obtain ⟨t, ht2, rfl⟩ := enT_inv ht
      obtain ⟨s, hs, rfl⟩ := mapget ht2
      rw [Nat.zero_add]
      have hs2 := hr0.2 s (List.mem_of_getElem? hs)
      have hw := ways_ok' hs2.1 hs2.2 g0 g1
      have hi6 : i < 6 := by
        have := (List.getElem?_eq_some_iff.mp hs).1
        rw [hr0.1] at this
        exact this
      have hcard : f.length ≤ 64 := Nat.le_trans hf.card (Nat.pow_le_pow_right (by decide) (show i ≤ 6 by omega))
      have hlen := hf.len
      have hacc := accL_len i s p f
      refine ⟨_, rfl, ?_⟩
      refine wpb_cons (wps_own 5 sc_lots_with.nd rfl (Or.inl rfl) rfl rfl (wpn_lst ?_))
      walk_at "es"
      intro q
      refine wpb_cons (wps_for PassesOwn.never rfl (tg_name 6 sc_lots_with.nd rfl (by walk_at "loc") (by walk_at "loc")) (fun _ => rfl) (wpi_lst ?_))
      walk_at "es"
      refine ⟨fun j M' sl' => M' = ⟨Z0, H0, [(q, .lst ((accL i s p f j).map tI))]⟩ ∧ ∃ w6 w7, sl' = [some (tI row), some (.int p), some (.lst (f.map tI)), some (.int i), some (.int s), some (.ptr q), w6, w7, none, none], ⟨rfl, w6, w7, rfl⟩, ?_, ?_⟩
      · rintro j M3 sl3 t ht ⟨rfl, w6, w7, rfl⟩
        obtain ⟨ls, hls, rfl⟩ := mapget ht
        have hl4 := (hw.2 ls (List.mem_of_getElem? hls)).1
        have hj : j < 2 := by
          have := (List.getElem?_eq_some_iff.mp hls).1
          rw [hw.1] at this
          exact this
        have hja : (accL i s p f j).length ≤ 128 := Nat.le_trans (hacc j) (Nat.le_trans (Nat.mul_le_mul (show j ≤ 2 by omega) hcard) (by decide))
        refine ⟨_, rfl, ?_⟩
        refine wpb_cons (wps_set 7 sc_lots_with.nd rfl (by walk_at "loc") rfl rfl ?_)
        walk_at "es"
        refine wp_lcMap (own := [("line", 8)]) ls T.int (fun l => T.int (4 * (i : Int) + l)) rfl sc_lots_with.nd (blkOk_by rfl) (fun _ _ _ _ _ => tg_name 8 sc_lots_with.nd rfl (by walk_at "loc") (by walk_at "loc")) hsub1 (hno1 rfl) (fun _ => rfl) (by omega) (wpi_tup ?_)
        walk_at "es"
        refine ⟨rfl, fun l hl => ⟨_, rfl, ?_⟩, ?_⟩
        · intro M' s2 H2 C cl fp
          walk_at "es"
          exact ⟨rfl, rfl⟩
        walk_at "es"
        have eh : ls.map (fun l => T.int (4 * (i : Int) + l)) = (ls.map fun l => 4 * (i : Int) + l).map T.int := by rw [List.map_map]; rfl
        rw [eh]
        refine wpb_cons (wps_extend 5 0 rfl rfl (Or.inl rfl) rfl rfl rfl rfl rfl rfl ?_)
        refine wp_lcMap (own := [("own", 9)]) f tI (fun o => tI (o ++ ls.map fun l => 4 * (i : Int) + l)) rfl sc_lots_with.nd (blkOk_by rfl) (fun _ _ _ _ _ => tg_name 9 sc_lots_with.nd rfl (by walk_at "loc") (by walk_at "loc")) hsub1 (hno1 rfl) (fun _ => rfl) (by omega) (wpi_lst ?_)
        walk_at "es"
        refine ⟨rfl, fun o ho => ⟨_, rfl, ?_⟩, ?_⟩
        · intro M' s2 H2 C cl fp
          have := hlen o ho
          walk_at "es"
          refine ⟨rfl, ?_⟩
          show T.tup _ = T.tup ((o ++ ls.map fun l => 4 * (i : Int) + l).map T.int)
          rw [List.map_append]
        refine ⟨_, _, rfl, rfl, by rw [List.length_map, List.length_map]; omega, ?_⟩
        have ea : (accL i s p f j).map tI ++ f.map (fun o => tI (o ++ ls.map fun l => 4 * (i : Int) + l)) = (accL i s p f (j + 1)).map tI := by
          rw [accL_succ hls, List.map_append, List.map_map]
          rfl
        refine wpb_nil ⟨?_, some (tI ls), some (tI (ls.map fun l => 4 * (i : Int) + l)), rfl⟩
        rw [← ea]
        rfl
      · rintro M3 sl3 ⟨rfl, w6, w7, rfl⟩
        rw [List.length_map, accL_all]
        refine wpb_close 5 rfl rfl ?_
        refine wpb_cons (wps_set 2 sc_lots_with.nd rfl (Or.inl rfl) rfl rfl ?_)
        walk_at "es"
        exact wpb_nil ⟨rfl, _, hf.step hs hs2.1 hs2.2 g0 g1, _, _, _, _, _, rfl⟩
    · rintro M2 sl2 ⟨rfl, f, hf, w3, w4, w5, w6, w7, rfl⟩
      rw [enT_len, List.length_map] at hf
      refine wpb_cons (wps_ret ?_)
      walk_at "es"
      refine cal_srtT hr.units ?_
      show T.lst _ = _
      rw [hf.done rfl]
  | mkL row p hr0 g0 g1 =>
    refine wpb_cons (wps_set 2 sc_lots_with.nd rfl (Or.inl rfl) rfl rfl ?_)
    walk_at "es"
    refine wpb_cons (wps_for PassesOwn.never rfl (tg_pair 3 4 rfl sc_lots_with.nd rfl rfl (by walk_at "loc") (by walk_at "loc") (by walk_at "loc") (by walk_at "loc")) (fun _ => rfl) (wpi_enumL tx.nEnumerate rfl rfl ?_))
    walk_at "es"
    refine ⟨fun i M' sl' => M' = ⟨Z0, H0, []⟩ ∧ ∃ f, LwOk row p i f ∧ ∃ w3 w4 w5 w6 w7, sl' = [some (lI row), some (.int p), some (.lst (f.map tI)), w3, w4, w5, w6, w7, none, none], ⟨rfl, [[]], LwOk.zero, none, none, none, none, none, rfl⟩, ?_, ?_⟩
    · rintro i M2 sl2 t ht ⟨rfl, f, hf, w3, w4, w5, w6, w7, rfl⟩
      obtain ⟨t, ht2, rfl⟩ := enT_inv ht
      obtain ⟨s, hs, rfl⟩ := mapget ht2
      rw [Nat.zero_add]
      have hs2 := hr0.2 s (List.mem_of_getElem? hs)
      have hw := ways_ok' hs2.1 hs2.2 g0 g1
      have hi6 : i < 6 := by
        have := (List.getElem?_eq_some_iff.mp hs).1
        rw [hr0.1] at this
        exact this
      have hcard : f.length ≤ 64 := Nat.le_trans hf.card (Nat.pow_le_pow_right (by decide) (show i ≤ 6 by omega))
      have hlen := hf.len
      have hacc := accL_len i s p f
      refine ⟨_, rfl, ?_⟩
      refine wpb_cons (wps_own 5 sc_lots_with.nd rfl (Or.inl rfl) rfl rfl (wpn_lst ?_))
      walk_at "es"
      intro q
      refine wpb_cons (wps_for PassesOwn.never rfl (tg_name 6 sc_lots_with.nd rfl (by walk_at "loc") (by walk_at "loc")) (fun _ => rfl) (wpi_lst ?_))
      walk_at "es"
      refine ⟨fun j M' sl' => M' = ⟨Z0, H0, [(q, .lst ((accL i s p f j).map tI))]⟩ ∧ ∃ w6 w7, sl' = [some (lI row), some (.int p), some (.lst (f.map tI)), some (.int i), some (.int s), some (.ptr q), w6, w7, none, none], ⟨rfl, w6, w7, rfl⟩, ?_, ?_⟩
      · rintro j M3 sl3 t ht ⟨rfl, w6, w7, rfl⟩
        obtain ⟨ls, hls, rfl⟩ := mapget ht
        have hl4 := (hw.2 ls (List.mem_of_getElem? hls)).1
        have hj : j < 2 := by
          have := (List.getElem?_eq_some_iff.mp hls).1
          rw [hw.1] at this
          exact this
        have hja : (accL i s p f j).length ≤ 128 := Nat.le_trans (hacc j) (Nat.le_trans (Nat.mul_le_mul (show j ≤ 2 by omega) hcard) (by decide))
        refine ⟨_, rfl, ?_⟩
        refine wpb_cons (wps_set 7 sc_lots_with.nd rfl (by walk_at "loc") rfl rfl ?_)
        walk_at "es"
        refine wp_lcMap (own := [("line", 8)]) ls T.int (fun l => T.int (4 * (i : Int) + l)) rfl sc_lots_with.nd (blkOk_by rfl) (fun _ _ _ _ _ => tg_name 8 sc_lots_with.nd rfl (by walk_at "loc") (by walk_at "loc")) hsub1 (hno1 rfl) (fun _ => rfl) (by omega) (wpi_tup ?_)
        walk_at "es"
        refine ⟨rfl, fun l hl => ⟨_, rfl, ?_⟩, ?_⟩
        · intro M' s2 H2 C cl fp
          walk_at "es"
          exact ⟨rfl, rfl⟩
        walk_at "es"
        have eh : ls.map (fun l => T.int (4 * (i : Int) + l)) = (ls.map fun l => 4 * (i : Int) + l).map T.int := by rw [List.map_map]; rfl
        rw [eh]
        refine wpb_cons (wps_extend 5 0 rfl rfl (Or.inl rfl) rfl rfl rfl rfl rfl rfl ?_)
        refine wp_lcMap (own := [("own", 9)]) f tI (fun o => tI (o ++ ls.map fun l => 4 * (i : Int) + l)) rfl sc_lots_with.nd (blkOk_by rfl) (fun _ _ _ _ _ => tg_name 9 sc_lots_with.nd rfl (by walk_at "loc") (by walk_at "loc")) hsub1 (hno1 rfl) (fun _ => rfl) (by omega) (wpi_lst ?_)
        walk_at "es"
        refine ⟨rfl, fun o ho => ⟨_, rfl, ?_⟩, ?_⟩
        · intro M' s2 H2 C cl fp
          have := hlen o ho
          walk_at "es"
          refine ⟨rfl, ?_⟩
          show T.tup _ = T.tup ((o ++ ls.map fun l => 4 * (i : Int) + l).map T.int)
          rw [List.map_append]
        refine ⟨_, _, rfl, rfl, by rw [List.length_map, List.length_map]; omega, ?_⟩
        have ea : (accL i s p f j).map tI ++ f.map (fun o => tI (o ++ ls.map fun l => 4 * (i : Int) + l)) = (accL i s p f (j + 1)).map tI := by
          rw [accL_succ hls, List.map_append, List.map_map]
          rfl
        refine wpb_nil ⟨?_, some (tI ls), some (tI (ls.map fun l => 4 * (i : Int) + l)), rfl⟩
        rw [← ea]
        rfl
      · rintro M3 sl3 ⟨rfl, w6, w7, rfl⟩
        rw [List.length_map, accL_all]
        refine wpb_close 5 rfl rfl ?_
        refine wpb_cons (wps_set 2 sc_lots_with.nd rfl (Or.inl rfl) rfl rfl ?_)
        walk_at "es"
        exact wpb_nil ⟨rfl, _, hf.step hs hs2.1 hs2.2 g0 g1, _, _, _, _, _, rfl⟩
    · rintro M2 sl2 ⟨rfl, f, hf, w3, w4, w5, w6, w7, rfl⟩
      rw [enT_len, List.length_map] at hf
      refine wpb_cons (wps_ret ?_)
      walk_at "es"
      refine cal_srtT hr.units ?_
      show T.lst _ = _
      rw [hf.done rfl]
abbrev s__law_lots_with : Stmt := topS 49
abbrev N__law_lots_with : List Str := ["_law_row_so", "_law_parity_so", "_law_found", "_law_column_so", "_law_sign_so", "_law_longer_so", "_law_lines_so", "_law_lamps_so", "_law_x", "_law_own"]
theorem sc__law_lots_with : FnScope N__law_lots_with ["_law_row_so", "_law_parity_so"] (defScope s__law_lots_with) := ⟨rfl, rfl, rfl, by decide +kernel, rfl, by decide +kernel, by decide +kernel⟩
inductive R__law_lots_with : List T → T → Prop
  | mkT (row : List Int) (p : Int) (hr : Row row) (g0 : 0 ≤ p) (g1 : p < 2) : R__law_lots_with [tI row, .int p] (.lst ((srt (lw p 0 row [[]])).map tI))
  | mkL (row : List Int) (p : Int) (hr : Row row) (g0 : 0 ≤ p) (g1 : p < 2) : R__law_lots_with [lI row, .int p] (.lst ((srt (lw p 0 row [[]])).map tI))
abbrev D__law_lots_with (P : Program) (w : World) (K : PySem.W.Frag) (mg : Str → Option Value) (base : Heap) : Prop := Df P w K mg base "_law_lots_with" 3 ["_law_row_so", "_law_parity_so"] (spR R__law_lots_with)
theorem ok__law_lots_with (F : Fun K "_law_lots_with" "_law_lots_with" s__law_lots_with f fd) (tx : Tx mg) (g__law_ways : D__law_ways P w K mg base) : FnOk P w K mg base CX0 3 f fd ["_law_row_so", "_law_parity_so"] (spR R__law_lots_with) := by
  refine fn_R F sc__law_lots_with (fun ts t h => by cases h <;> rfl) fun cdv A outer s H E hr Z0 H0 ts t hR => ?_
  cases hR with
  | mkT row p hr0 g0 g1 =>
    refine wpb_cons (wps_set 2 sc__law_lots_with.nd rfl (Or.inl rfl) rfl rfl ?_)
    walk_at "es"
    refine wpb_cons (wps_for PassesOwn.never rfl (tg_pair 3 4 rfl sc__law_lots_with.nd rfl rfl (by walk_at "loc") (by walk_at "loc") (by walk_at "loc") (by walk_at "loc")) (fun _ => rfl) (wpi_enumT tx.nEnumerate rfl rfl ?_))
    walk_at "es"
    refine ⟨fun i M' sl' => M' = ⟨Z0, H0, []⟩ ∧ ∃ f, LwOk row p i f ∧ ∃ w3 w4 w5 w6 w7, sl' = [some (tI row), some (.int p), some (.lst (f.map tI)), w3, w4, w5, w6, w7, none, none], ⟨rfl, [[]], LwOk.zero, none, none, none, none, none, rfl⟩, ?_, ?_⟩
    · rintro i M2 sl2 t ht ⟨rfl, f, hf, w3, w4, w5, w6, w7, rfl⟩
      obtain ⟨t, ht2, rfl⟩ := enT_inv ht
      obtain ⟨s, hs, rfl⟩ := mapget ht2
      rw [Nat.zero_add]
      have hs2 := hr0.2 s (List.mem_of_getElem? hs)
      have hw := ways_ok' hs2.1 hs2.2 g0 g1
      have hi6 : i < 6 := by
        have := (List.getElem?_eq_some_iff.mp hs).1
        rw [hr0.1] at this
        exact this
      have hcard : f.length ≤ 64 := Nat.le_trans hf.card (Nat.pow_le_pow_right (by decide) (show i ≤ 6 by omega))
      have hlen := hf.len
      have hacc := accL_len i s p f
      refine ⟨_, rfl, ?_⟩
      refine wpb_cons (wps_set 5 sc__law_lots_with.nd rfl (Or.inl rfl) rfl rfl ?_)
      walk_at "es"
      refine wpb_cons (wps_for PassesOwn.never rfl (tg_name 6 sc__law_lots_with.nd rfl (by walk_at "loc") (by walk_at "loc")) (fun _ => rfl) (wpi_lst ?_))
      walk_at "es"
      refine ⟨fun j M' sl' => M' = ⟨Z0, H0, []⟩ ∧ ∃ w6 w7, sl' = [some (tI row), some (.int p), some (.lst (f.map tI)), some (.int i), some (.int s), some (.lst ((accL i s p f j).map tI)), w6, w7, none, none], ⟨rfl, w6, w7, rfl⟩, ?_, ?_⟩
      · rintro j M3 sl3 t ht ⟨rfl, w6, w7, rfl⟩
        obtain ⟨ls, hls, rfl⟩ := mapget ht
        have hl4 := (hw.2 ls (List.mem_of_getElem? hls)).1
        have hj : j < 2 := by
          have := (List.getElem?_eq_some_iff.mp hls).1
          rw [hw.1] at this
          exact this
        have hja : (accL i s p f j).length ≤ 128 := Nat.le_trans (hacc j) (Nat.le_trans (Nat.mul_le_mul (show j ≤ 2 by omega) hcard) (by decide))
        refine ⟨_, rfl, ?_⟩
        refine wpb_cons (wps_set 7 sc__law_lots_with.nd rfl (by walk_at "loc") rfl rfl ?_)
        walk_at "es"
        refine wp_lcMap (own := [("_law_own", 9)]) ls T.int (fun l => T.int (4 * (i : Int) + l)) rfl sc__law_lots_with.nd (blkOk_by rfl) (fun _ _ _ _ _ => tg_name 9 sc__law_lots_with.nd rfl (by walk_at "loc") (by walk_at "loc")) hsub1 (hno1 rfl) (fun _ => rfl) (by omega) (wpi_tup ?_)
        walk_at "es"
        refine ⟨rfl, fun l hl => ⟨_, rfl, ?_⟩, ?_⟩
        · intro M' s2 H2 C cl fp
          walk_at "es"
          exact ⟨rfl, rfl⟩
        walk_at "es"
        have eh : ls.map (fun l => T.int (4 * (i : Int) + l)) = (ls.map fun l => 4 * (i : Int) + l).map T.int := by rw [List.map_map]; rfl
        rw [eh]
        refine wpb_cons (wps_set 5 sc__law_lots_with.nd rfl (Or.inl rfl) rfl rfl ?_)
        walk_at "es"
        refine wp_lcMap (own := [("_law_own", 9)]) f tI (fun o => tI (o ++ ls.map fun l => 4 * (i : Int) + l)) rfl sc__law_lots_with.nd (blkOk_by rfl) (fun _ _ _ _ _ => tg_name 9 sc__law_lots_with.nd rfl (by walk_at "loc") (by walk_at "loc")) hsub1 (hno1 rfl) (fun _ => rfl) (by omega) (wpi_lst ?_)
        walk_at "es"
        refine ⟨rfl, fun o ho => ⟨_, rfl, ?_⟩, ?_⟩
        · intro M' s2 H2 C cl fp
          have := hlen o ho
          walk_at "es"
          refine ⟨rfl, ?_⟩
          show T.tup _ = T.tup ((o ++ ls.map fun l => 4 * (i : Int) + l).map T.int)
          rw [List.map_append]
        refine bin_catL (by rw [List.length_map, List.length_map]; omega) ?_
        have ea : (accL i s p f j).map tI ++ f.map (fun o => tI (o ++ ls.map fun l => 4 * (i : Int) + l)) = (accL i s p f (j + 1)).map tI := by
          rw [accL_succ hls, List.map_append, List.map_map]
          rfl
        refine wpb_nil ⟨rfl, some (tI ls), some (tI (ls.map fun l => 4 * (i : Int) + l)), ?_⟩
        rw [← ea]
        rfl
      · rintro M3 sl3 ⟨rfl, w6, w7, rfl⟩
        rw [List.length_map, accL_all]
        refine wpb_cons (wps_set 2 sc__law_lots_with.nd rfl (Or.inl rfl) rfl rfl ?_)
        walk_at "es"
        exact wpb_nil ⟨rfl, _, hf.step hs hs2.1 hs2.2 g0 g1, _, _, _, _, _, rfl⟩
    · rintro M2 sl2 ⟨rfl, f, hf, w3, w4, w5, w6, w7, rfl⟩
      rw [enT_len, List.length_map] at hf
      refine wpb_cons (wps_ret ?_)
      walk_at "es"
      refine cal_srtT hr.units ?_
      show T.lst _ = _
      rw [hf.done rfl]
  | mkL row p hr0 g0 g1 =>
    refine wpb_cons (wps_set 2 sc__law_lots_with.nd rfl (Or.inl rfl) rfl rfl ?_)
    walk_at "es"
    refine wpb_cons (wps_for PassesOwn.never rfl (tg_pair 3 4 rfl sc__law_lots_with.nd rfl rfl (by walk_at "loc") (by walk_at "loc") (by walk_at "loc") (by walk_at "loc")) (fun _ => rfl) (wpi_enumL tx.nEnumerate rfl rfl ?_))
    walk_at "es"
    refine ⟨fun i M' sl' => M' = ⟨Z0, H0, []⟩ ∧ ∃ f, LwOk row p i f ∧ ∃ w3 w4 w5 w6 w7, sl' = [some (lI row), some (.int p), some (.lst (f.map tI)), w3, w4, w5, w6, w7, none, none], ⟨rfl, [[]], LwOk.zero, none, none, none, none, none, rfl⟩, ?_, ?_⟩
    · rintro i M2 sl2 t ht ⟨rfl, f, hf, w3, w4, w5, w6, w7, rfl⟩
      obtain ⟨t, ht2, rfl⟩ := enT_inv ht
      obtain ⟨s, hs, rfl⟩ := mapget ht2
      rw [Nat.zero_add]
      have hs2 := hr0.2 s (List.mem_of_getElem? hs)
      have hw := ways_ok' hs2.1 hs2.2 g0 g1
      have hi6 : i < 6 := by
        have := (List.getElem?_eq_some_iff.mp hs).1
        rw [hr0.1] at this
        exact this
      have hcard : f.length ≤ 64 := Nat.le_trans hf.card (Nat.pow_le_pow_right (by decide) (show i ≤ 6 by omega))
      have hlen := hf.len
      have hacc := accL_len i s p f
      refine ⟨_, rfl, ?_⟩
      refine wpb_cons (wps_set 5 sc__law_lots_with.nd rfl (Or.inl rfl) rfl rfl ?_)
      walk_at "es"
      refine wpb_cons (wps_for PassesOwn.never rfl (tg_name 6 sc__law_lots_with.nd rfl (by walk_at "loc") (by walk_at "loc")) (fun _ => rfl) (wpi_lst ?_))
      walk_at "es"
      refine ⟨fun j M' sl' => M' = ⟨Z0, H0, []⟩ ∧ ∃ w6 w7, sl' = [some (lI row), some (.int p), some (.lst (f.map tI)), some (.int i), some (.int s), some (.lst ((accL i s p f j).map tI)), w6, w7, none, none], ⟨rfl, w6, w7, rfl⟩, ?_, ?_⟩
      · rintro j M3 sl3 t ht ⟨rfl, w6, w7, rfl⟩
        obtain ⟨ls, hls, rfl⟩ := mapget ht
        have hl4 := (hw.2 ls (List.mem_of_getElem? hls)).1
        have hj : j < 2 := by
          have := (List.getElem?_eq_some_iff.mp hls).1
          rw [hw.1] at this
          exact this
        have hja : (accL i s p f j).length ≤ 128 := Nat.le_trans (hacc j) (Nat.le_trans (Nat.mul_le_mul (show j ≤ 2 by omega) hcard) (by decide))
        refine ⟨_, rfl, ?_⟩
        refine wpb_cons (wps_set 7 sc__law_lots_with.nd rfl (by walk_at "loc") rfl rfl ?_)
        walk_at "es"
        refine wp_lcMap (own := [("_law_own", 9)]) ls T.int (fun l => T.int (4 * (i : Int) + l)) rfl sc__law_lots_with.nd (blkOk_by rfl) (fun _ _ _ _ _ => tg_name 9 sc__law_lots_with.nd rfl (by walk_at "loc") (by walk_at "loc")) hsub1 (hno1 rfl) (fun _ => rfl) (by omega) (wpi_tup ?_)
        walk_at "es"
        refine ⟨rfl, fun l hl => ⟨_, rfl, ?_⟩, ?_⟩
        · intro M' s2 H2 C cl fp
          walk_at "es"
          exact ⟨rfl, rfl⟩
        walk_at "es"
        have eh : ls.map (fun l => T.int (4 * (i : Int) + l)) = (ls.map fun l => 4 * (i : Int) + l).map T.int := by rw [List.map_map]; rfl
        rw [eh]
        refine wpb_cons (wps_set 5 sc__law_lots_with.nd rfl (Or.inl rfl) rfl rfl ?_)
        walk_at "es"
        refine wp_lcMap (own := [("_law_own", 9)]) f tI (fun o => tI (o ++ ls.map fun l => 4 * (i : Int) + l)) rfl sc__law_lots_with.nd (blkOk_by rfl) (fun _ _ _ _ _ => tg_name 9 sc__law_lots_with.nd rfl (by walk_at "loc") (by walk_at "loc")) hsub1 (hno1 rfl) (fun _ => rfl) (by omega) (wpi_lst ?_)
        walk_at "es"
        refine ⟨rfl, fun o ho => ⟨_, rfl, ?_⟩, ?_⟩
        · intro M' s2 H2 C cl fp
          have := hlen o ho
          walk_at "es"
          refine ⟨rfl, ?_⟩
          show T.tup _ = T.tup ((o ++ ls.map fun l => 4 * (i : Int) + l).map T.int)
          rw [List.map_append]
        refine bin_catL (by rw [List.length_map, List.length_map]; omega) ?_
        have ea : (accL i s p f j).map tI ++ f.map (fun o => tI (o ++ ls.map fun l => 4 * (i : Int) + l)) = (accL i s p f (j + 1)).map tI := by
          rw [accL_succ hls, List.map_append, List.map_map]
          rfl
        refine wpb_nil ⟨rfl, some (tI ls), some (tI (ls.map fun l => 4 * (i : Int) + l)), ?_⟩
        rw [← ea]
        rfl
      · rintro M3 sl3 ⟨rfl, w6, w7, rfl⟩
        rw [List.length_map, accL_all]
        refine wpb_cons (wps_set 2 sc__law_lots_with.nd rfl (Or.inl rfl) rfl rfl ?_)
        walk_at "es"
        exact wpb_nil ⟨rfl, _, hf.step hs hs2.1 hs2.2 g0 g1, _, _, _, _, _, rfl⟩
    · rintro M2 sl2 ⟨rfl, f, hf, w3, w4, w5, w6, w7, rfl⟩
      rw [enT_len, List.length_map] at hf
      refine wpb_cons (wps_ret ?_)
      walk_at "es"
      refine cal_srtT hr.units ?_
      show T.lst _ = _
      rw [hf.done rfl]
end

section
variable {P : Program} {w : World} {K : PySem.W.Frag} {mg : Str → Option Value} {base : Heap} {f : Addr} {fd : FuncData}
theorem marklen (b : Bool) : (if b = true then ("#" : Str) else ".").length = 1 := by cases b <;> decide
def markS (xs : List Int) (l c : Int) : Str := if decide (4 * c + l ∈ xs) = true then "#" else "."
def rowS (xs : List Int) (l : Int) : Str := Txt.join "" ((rng 6).map fun c => markS xs l c)
def drawS (xs : List Int) : List Str := (rng 4).map fun l => rowS xs l
theorem row_sum (xs : List Int) (l : Int) : (((rng 6).map fun c => markS xs l c).map (·.length)).sum + ((rng 6).map fun c => markS xs l c).length * ("" : Str).length ≤ 100000 := by
  have e : ∀ c, (markS xs l c).length = 1 := fun c => marklen _
  rw [rng6]
  simp only [List.map_cons, List.map_nil, e, List.length_cons, List.length_nil]
  decide
abbrev s_drawn : Stmt := topS 27
abbrev N_drawn : List Str := ["lot", "lines", "line", "column"]
theorem sc_drawn : FnScope N_drawn ["lot"] (defScope s_drawn) := ⟨rfl, rfl, rfl, by decide +kernel, rfl, by decide +kernel, by decide +kernel⟩
inductive R_drawn : List T → T → Prop
  | mkT (xs : List Int) (hx : xs.length ≤ 1000) : R_drawn [tI xs] (.tup ((drawS xs).map T.str))
  | mkL (xs : List Int) (hx : xs.length ≤ 1000) : R_drawn [lI xs] (.tup ((drawS xs).map T.str))
  | mkS (b : Bool) (xs : List Int) (hx : xs.length ≤ 1000) : R_drawn [Sq b (xs.map T.int)] (.tup ((drawS xs).map T.str))
abbrev D_drawn (P : Program) (w : World) (K : PySem.W.Frag) (mg : Str → Option Value) (base : Heap) : Prop := Df P w K mg base "drawn" 2 ["lot"] (spR R_drawn)
theorem ok_drawn (F : Fun K "drawn" "drawn" s_drawn f fd) (tx : Tx mg) (g_lamp_at : D_lamp_at P w K mg base) : FnOk P w K mg base CX0 2 f fd ["lot"] (spR R_drawn) := by
  refine fn_R F sc_drawn (fun ts t h => by cases h <;> rfl) fun cdv A outer s H E hr Z0 H0 ts t hR => ?_
  obtain ⟨b, xs, hx, rfl, rfl⟩ : ∃ (b : Bool) (xs : List Int), xs.length ≤ 1000 ∧ ts = [Sq b (xs.map T.int)] ∧ t = .tup ((drawS xs).map T.str) := by
    cases hR with
    | mkT xs hx => exact ⟨false, xs, hx, rfl, rfl⟩
    | mkL xs hx => exact ⟨true, xs, hx, rfl, rfl⟩
    | mkS b xs hx => exact ⟨b, xs, hx, rfl, rfl⟩
  
  refine wpb_cons (wps_own 1 sc_drawn.nd rfl (Or.inl rfl) rfl rfl (wpn_lst ?_))
  walk_at "es"
  intro q
  refine wpb_cons (wps_for PassesOwn.never rfl (tg_name 2 sc_drawn.nd rfl (by walk_at "loc") (by walk_at "loc")) (fun _ => rfl) (wpi_range tx.nRange rfl rfl ?_))
  walk_at "es"
  refine ⟨fun i M' sl' => M' = ⟨Z0, H0, [(q, .lst (((rng 4).take i).map fun l => T.str (rowS xs l)))]⟩ ∧ ∃ w, sl' = [some (Sq b (xs.map T.int)), some (.ptr q), w, none], ⟨rfl, none, rfl⟩, ?_, ?_⟩
  · rintro i M2 sl2 t ht ⟨rfl, w, rfl⟩
    obtain ⟨a, ha, rfl⟩ := mapget ht
    refine ⟨_, rfl, ?_⟩
    refine wpb_cons (wps_append 1 0 rfl rfl (Or.inl rfl) rfl rfl rfl rfl rfl rfl ?_)
    refine wp_join rfl rfl rfl (wp_str ⟨_, rfl, ?_⟩)
    refine wp_lcMap (own := [("column", 3)]) (rng 6) T.int (fun c => T.str (markS xs a c)) rfl sc_drawn.nd (blkOk_by rfl) (fun _ _ _ _ _ => tg_name 3 sc_drawn.nd rfl (by walk_at "loc") (by walk_at "loc")) hsub1 (hno1 rfl) (fun _ => rfl) (by decide) (wpi_range tx.nRange rfl rfl ?_)
    walk_at "es"
    refine ⟨rfl, fun c hc => ⟨_, rfl, ?_⟩, ?_⟩
    · intro M' s2 H2 C cl fp
      walk_at "es"
      refine iteC (fun h => ?_) fun h => ?_
      · walk_at "es"
        refine ⟨rfl, ?_⟩
        unfold markS
        rw [if_pos h]
      · walk_at "es"
        refine ⟨rfl, ?_⟩
        unfold markS
        rw [if_neg (by rw [h]; exact Bool.false_ne_true)]
    refine ⟨(rng 6).map fun c => markS xs a c, by rw [List.map_map]; rfl, row_sum xs a, ?_⟩
    refine ⟨_, rfl, ?_, ?_⟩
    · rw [List.length_map, List.length_take, rng_len]
      omega
    refine wpb_nil ⟨?_, some (.int a), rfl⟩
    rw [take_get ha, List.map_append]
    rfl
  · rintro M2 sl2 ⟨rfl, w, rfl⟩
    refine wpb_close 1 rfl rfl ?_
    refine wpb_cons (wps_ret ?_)
    walk_at "es"
    show T.tup _ = T.tup _
    rw [List.length_map, List.take_length]
    unfold drawS
    rw [List.map_map]
    rfl
abbrev s__law_drawn : Stmt := topS 50
abbrev N__law_drawn : List Str := ["_law_lot_so", "_law_rows_so", "_law_line_so", "_law_column_so"]
theorem sc__law_drawn : FnScope N__law_drawn ["_law_lot_so"] (defScope s__law_drawn) := ⟨rfl, rfl, rfl, by decide +kernel, rfl, by decide +kernel, by decide +kernel⟩
inductive R__law_drawn : List T → T → Prop
  | mkT (xs : List Int) (hx : xs.length ≤ 1000) : R__law_drawn [tI xs] (.tup ((drawS xs).map T.str))
  | mkL (xs : List Int) (hx : xs.length ≤ 1000) : R__law_drawn [lI xs] (.tup ((drawS xs).map T.str))
  | mkS (b : Bool) (xs : List Int) (hx : xs.length ≤ 1000) : R__law_drawn [Sq b (xs.map T.int)] (.tup ((drawS xs).map T.str))
abbrev D__law_drawn (P : Program) (w : World) (K : PySem.W.Frag) (mg : Str → Option Value) (base : Heap) : Prop := Df P w K mg base "_law_drawn" 2 ["_law_lot_so"] (spR R__law_drawn)
theorem ok__law_drawn (F : Fun K "_law_drawn" "_law_drawn" s__law_drawn f fd) (tx : Tx mg)  : FnOk P w K mg base CX0 2 f fd ["_law_lot_so"] (spR R__law_drawn) := by
  refine fn_R F sc__law_drawn (fun ts t h => by cases h <;> rfl) fun cdv A outer s H E hr Z0 H0 ts t hR => ?_
  obtain ⟨b, xs, hx, rfl, rfl⟩ : ∃ (b : Bool) (xs : List Int), xs.length ≤ 1000 ∧ ts = [Sq b (xs.map T.int)] ∧ t = .tup ((drawS xs).map T.str) := by
    cases hR with
    | mkT xs hx => exact ⟨false, xs, hx, rfl, rfl⟩
    | mkL xs hx => exact ⟨true, xs, hx, rfl, rfl⟩
    | mkS b xs hx => exact ⟨b, xs, hx, rfl, rfl⟩
  
  refine wpb_cons (wps_own 1 sc__law_drawn.nd rfl (Or.inl rfl) rfl rfl (wpn_lst ?_))
  walk_at "es"
  intro q
  refine wpb_cons (wps_for PassesOwn.never rfl (tg_name 2 sc__law_drawn.nd rfl (by walk_at "loc") (by walk_at "loc")) (fun _ => rfl) (wpi_range tx.nRange rfl rfl ?_))
  walk_at "es"
  refine ⟨fun i M' sl' => M' = ⟨Z0, H0, [(q, .lst (((rng 4).take i).map fun l => T.str (rowS xs l)))]⟩ ∧ ∃ w, sl' = [some (Sq b (xs.map T.int)), some (.ptr q), w, none], ⟨rfl, none, rfl⟩, ?_, ?_⟩
  · rintro i M2 sl2 t ht ⟨rfl, w, rfl⟩
    obtain ⟨a, ha, rfl⟩ := mapget ht
    refine ⟨_, rfl, ?_⟩
    refine wpb_cons (wps_append 1 0 rfl rfl (Or.inl rfl) rfl rfl rfl rfl rfl rfl ?_)
    refine wp_join rfl rfl rfl (wp_str ⟨_, rfl, ?_⟩)
    refine wp_lcMap (own := [("_law_column_so", 3)]) (rng 6) T.int (fun c => T.str (markS xs a c)) rfl sc__law_drawn.nd (blkOk_by rfl) (fun _ _ _ _ _ => tg_name 3 sc__law_drawn.nd rfl (by walk_at "loc") (by walk_at "loc")) hsub1 (hno1 rfl) (fun _ => rfl) (by decide) (wpi_range tx.nRange rfl rfl ?_)
    walk_at "es"
    refine ⟨rfl, fun c hc => ⟨_, rfl, ?_⟩, ?_⟩
    · intro M' s2 H2 C cl fp
      walk_at "es"
      refine iteC (fun h => ?_) fun h => ?_
      · walk_at "es"
        refine ⟨rfl, ?_⟩
        unfold markS
        rw [if_pos h]
      · walk_at "es"
        refine ⟨rfl, ?_⟩
        unfold markS
        rw [if_neg (by rw [h]; exact Bool.false_ne_true)]
    refine ⟨(rng 6).map fun c => markS xs a c, by rw [List.map_map]; rfl, row_sum xs a, ?_⟩
    refine ⟨_, rfl, ?_, ?_⟩
    · rw [List.length_map, List.length_take, rng_len]
      omega
    refine wpb_nil ⟨?_, some (.int a), rfl⟩
    rw [take_get ha, List.map_append]
    rfl
  · rintro M2 sl2 ⟨rfl, w, rfl⟩
    refine wpb_close 1 rfl rfl ?_
    refine wpb_cons (wps_ret ?_)
    walk_at "es"
    show T.tup _ = T.tup _
    rw [List.length_map, List.take_length]
    unfold drawS
    rw [List.map_map]
    rfl
abbrev s__law_signs_of : Stmt := topS 46
abbrev N__law_signs_of : List Str := ["_law_lot_so", "_law_column_so"]
theorem sc__law_signs_of : FnScope N__law_signs_of ["_law_lot_so"] (defScope s__law_signs_of) := ⟨rfl, rfl, rfl, by decide +kernel, rfl, by decide +kernel, by decide +kernel⟩
inductive R__law_signs_of : List T → T → Prop
  | mk (xs : List Int) (h : Lot xs) : R__law_signs_of [tI xs] (.tup ((rng 6).map fun c => T.int (sgn xs c)))
abbrev D__law_signs_of (P : Program) (w : World) (K : PySem.W.Frag) (mg : Str → Option Value) (base : Heap) : Prop := Df P w K mg base "_law_signs_of" 2 ["_law_lot_so"] (spR R__law_signs_of)
theorem ok__law_signs_of (F : Fun K "_law_signs_of" "_law_signs_of" s__law_signs_of f fd) (tx : Tx mg) (g__law_sign : D__law_sign P w K mg base) : FnOk P w K mg base CX0 2 f fd ["_law_lot_so"] (spR R__law_signs_of) := by
  refine fn_R F sc__law_signs_of (fun ts t h => by cases h <;> rfl) fun cdv A outer s H E hr Z0 H0 ts t hR => ?_
  cases hR with
  | mk xs hx =>
    have hm : ∀ i ∈ xs, 0 ≤ i ∧ i < 24 := fun i hi => hx.mem hi
    refine wpb_cons (wps_ret ?_)
    walk_at "es"
    refine wp_lcMap (own := [("_law_column_so", 1)]) (rng 6) T.int (fun c => T.int (sgn xs c)) rfl sc__law_signs_of.nd (blkOk_by rfl) (fun _ _ _ _ _ => tg_name 1 sc__law_signs_of.nd rfl (by walk_at "loc") (by walk_at "loc")) hsub1 (hno1 rfl) (fun _ => rfl) (by decide) (wpi_range tx.nRange rfl rfl ?_)
    walk_at "es"
    refine ⟨rfl, fun a ha => ⟨_, rfl, ?_⟩, ?_⟩
    · intro M' s2 H2 C cl fp
      walk_at "es"
      exact ⟨rfl, rfl⟩
    walk_at "es"
    rfl
abbrev s__law_parities : Stmt := topS 47
abbrev N__law_parities : List Str := ["_law_lot_so", "_law_found", "_law_column_so", "_law_own"]
theorem sc__law_parities : FnScope N__law_parities ["_law_lot_so"] (defScope s__law_parities) := ⟨rfl, rfl, rfl, by decide +kernel, rfl, by decide +kernel, by decide +kernel⟩
inductive R__law_parities : List T → T → Prop
  | mk (xs : List Int) (h : xs.length ≤ 1000) : R__law_parities [tI xs] (parT xs)
abbrev D__law_parities (P : Program) (w : World) (K : PySem.W.Frag) (mg : Str → Option Value) (base : Heap) : Prop := Df P w K mg base "_law_parities" 1 ["_law_lot_so"] (spR R__law_parities)
theorem ok__law_parities (F : Fun K "_law_parities" "_law_parities" s__law_parities f fd) (tx : Tx mg)  : FnOk P w K mg base CX0 1 f fd ["_law_lot_so"] (spR R__law_parities) := by
  refine fn_R F sc__law_parities (fun ts t h => by cases h <;> rfl) fun cdv A outer s H E hr Z0 H0 ts t hR => ?_
  cases hR with
  | mk xs hx =>
    refine wpb_cons (wps_lcMap 1 (own := [("_law_column_so", 2)]) (rng 6) T.int (fun c => T.int (((xs.filter fun i => decide (i / 4 = c)).length : Int) % 2)) rfl sc__law_parities.nd rfl rfl (sw_true rfl rfl rfl rfl) (blkOk_by rfl) (fun _ _ _ _ _ => tg_name 2 sc__law_parities.nd rfl (by walk_at "loc") (by walk_at "loc")) hsub1 (hno1 rfl) (fun _ => rfl) (by decide) (wpi_range tx.nRange rfl rfl ?_))
    walk_at "es"
    refine ⟨rfl, fun c hc => ⟨_, rfl, ?_⟩, ?_⟩
    · intro M' s2 H2 C cl fp
      walk_at "es"
      refine wp_lcFil (own := [("_law_own", 3)]) xs T.int (fun i => decide (i / 4 = c)) T.int rfl sc__law_parities.nd (blkOk_by rfl) (fun _ _ _ _ _ => tg_name 3 sc__law_parities.nd rfl (by walk_at "loc") (by walk_at "loc")) hsub1 (hno1 rfl) (fun _ => rfl) (by omega) (wpi_tup ?_)
      walk_at "es"
      refine ⟨rfl, fun a ha => ⟨_, rfl, ?_, ?_⟩, ?_⟩
      · intro M' s2 H2 C cl fp
        walk_at "es"
        exact ⟨rfl, rfl⟩
      · intro _ M' s2 H2 C cl fp
        walk_at "es"
        exact ⟨rfl, rfl⟩
      walk_at "es"
      refine ⟨rfl, ?_⟩
      rw [List.length_map]
    refine wpb_cons (wps_ret ?_)
    walk_at "es"
    refine wp_lcFil (own := [("_law_own", 3)]) xs T.int (fun i => decide (i % 4 = 0)) T.int rfl sc__law_parities.nd (blkOk_by rfl) (fun _ _ _ _ _ => tg_name 3 sc__law_parities.nd rfl (by walk_at "loc") (by walk_at "loc")) hsub1 (hno1 rfl) (fun _ => rfl) (by omega) (wpi_tup ?_)
    walk_at "es"
    refine ⟨rfl, fun a ha => ⟨_, rfl, ?_, ?_⟩, ?_⟩
    · intro M' s2 H2 C cl fp
      walk_at "es"
      exact ⟨rfl, rfl⟩
    · intro _ M' s2 H2 C cl fp
      walk_at "es"
      exact ⟨rfl, rfl⟩
    walk_at "es"
    rw [List.length_map]
abbrev s__law_lot_sum : Stmt := topS 43
abbrev N__law_lot_sum : List Str := ["_law_one_so", "_law_two_so", "_law_own"]
theorem sc__law_lot_sum : FnScope N__law_lot_sum ["_law_one_so", "_law_two_so"] (defScope s__law_lot_sum) := ⟨rfl, rfl, rfl, by decide +kernel, rfl, by decide +kernel, by decide +kernel⟩
inductive R__law_lot_sum : List T → T → Prop
  | mk (xs ys : List Int) : R__law_lot_sum [tI xs, tI ys] (tI (symd xs ys))
abbrev D__law_lot_sum (P : Program) (w : World) (K : PySem.W.Frag) (mg : Str → Option Value) (base : Heap) : Prop := Df P w K mg base "_law_lot_sum" 1 ["_law_one_so", "_law_two_so"] (spR R__law_lot_sum)
theorem ok__law_lot_sum (F : Fun K "_law_lot_sum" "_law_lot_sum" s__law_lot_sum f fd) (tx : Tx mg)  : FnOk P w K mg base CX0 1 f fd ["_law_one_so", "_law_two_so"] (spR R__law_lot_sum) := by
  refine fn_R F sc__law_lot_sum (fun ts t h => by cases h <;> rfl) fun cdv A outer s H E hr Z0 H0 ts t hR => ?_
  cases hR with
  | mk xs ys =>
    refine wpb_cons (wps_ret ?_)
    walk_at "es"
    refine wp_lcFil (own := [("_law_own", 2)]) (rng 24) T.int (fun i => decide (i ∈ xs) != decide (i ∈ ys)) T.int rfl sc__law_lot_sum.nd (blkOk_by rfl) (fun _ _ _ _ _ => tg_name 2 sc__law_lot_sum.nd rfl (by walk_at "loc") (by walk_at "loc")) hsub1 (hno1 rfl) (fun _ => rfl) (by decide) (wpi_range tx.nRange rfl rfl ?_)
    walk_at "es"
    refine ⟨rfl, fun a ha => ⟨_, rfl, ?_, ?_⟩, ?_⟩
    · intro M' s2 H2 C cl fp
      walk_at "es"
      refine ⟨rfl, ?_⟩
      cases decide (a ∈ xs) <;> cases decide (a ∈ ys) <;> rfl
    · intro _ M' s2 H2 C cl fp
      walk_at "es"
      exact ⟨rfl, rfl⟩
    walk_at "es"
    rfl
end

section
variable {P : Program} {w : World} {K : PySem.W.Frag} {mg : Str → Option Value} {base : Heap} {f : Addr} {fd : FuncData}
abbrev s__law_signs_product : Stmt := topS 39
abbrev N__law_signs_product : List Str := ["_law_one_so", "_law_two_so", "_law_found"]
theorem sc__law_signs_product : FnScope N__law_signs_product ["_law_one_so", "_law_two_so"] (defScope s__law_signs_product) := ⟨rfl, rfl, rfl, by decide +kernel, rfl, by decide +kernel, by decide +kernel⟩
def sprod0 (a b : Int) : Int := Builtin.bitXor (if (Builtin.bitAnd a 1 != 0) = true then b else 0) (if (Builtin.bitAnd a 2 != 0) = true then 2 * b else 0)
def sprod (a b : Int) : Int := if decide (3 < sprod0 a b) = true then Builtin.bitXor (sprod0 a b) 7 else sprod0 a b
theorem sprod_in : ∀ a : Fin 4, ∀ b : Fin 4, 0 ≤ sprod a.val b.val ∧ sprod a.val b.val < 4 := by decide +kernel
theorem sprod_in' {a b : Int} (h0 : 0 ≤ a) (h1 : a < 4) (g0 : 0 ≤ b) (g1 : b < 4) : 0 ≤ sprod a b ∧ sprod a b < 4 := by
  have := sprod_in ⟨a.toNat, by omega⟩ ⟨b.toNat, by omega⟩
  have e1 : ((a.toNat : Nat) : Int) = a := by omega
  have e2 : ((b.toNat : Nat) : Int) = b := by omega
  simpa only [e1, e2] using this
inductive R__law_signs_product : List T → T → Prop
  | mk (a b : Int) (g0 : 0 ≤ b) (g1 : b < 4) : R__law_signs_product [.int a, .int b] (.int (sprod a b))
abbrev D__law_signs_product (P : Program) (w : World) (K : PySem.W.Frag) (mg : Str → Option Value) (base : Heap) : Prop := Df P w K mg base "_law_signs_product" 1 ["_law_one_so", "_law_two_so"] (spR R__law_signs_product)
theorem ok__law_signs_product (F : Fun K "_law_signs_product" "_law_signs_product" s__law_signs_product f fd) (tx : Tx mg)  : FnOk P w K mg base CX0 1 f fd ["_law_one_so", "_law_two_so"] (spR R__law_signs_product) := by
  refine fn_R F sc__law_signs_product (fun ts t h => by cases h <;> rfl) fun cdv A outer s H E hr Z0 H0 ts t hR => ?_
  cases hR with
  | mk a b g0 g1 =>
    refine wpb_cons (wps_set 2 sc__law_signs_product.nd rfl (Or.inl rfl) rfl rfl ?_)
    walk_at "es"
    have fin : ∀ x y : Int, (if (Builtin.bitAnd a 1 != 0) = true then b else 0) = x → (if (Builtin.bitAnd a 2 != 0) = true then 2 * b else 0) = y → sprod0 a b = Builtin.bitXor x y := fun x y h1 h2 => by
      unfold sprod0
      rw [h1, h2]
    refine iteC (fun h => ?_) fun h => ?_
    · walk_at "es"
      refine iteC (fun h' => ?_) fun h' => ?_
      · walk_at "es"
        rw [← fin _ _ (if_pos h) (if_pos h')]
        refine wpb_cons (wps_ret ?_)
        walk_at "es"
        refine iteC (fun h3 => ?_) fun h3 => ?_
        · walk_at "es"
          exact congrArg T.int (if_pos h3).symm
        · walk_at "es"
          exact congrArg T.int (if_neg (by rw [h3]; exact Bool.false_ne_true)).symm
      · walk_at "es"
        rw [← fin _ _ (if_pos h) (if_neg (by rw [h']; exact Bool.false_ne_true))]
        refine wpb_cons (wps_ret ?_)
        walk_at "es"
        refine iteC (fun h3 => ?_) fun h3 => ?_
        · walk_at "es"
          exact congrArg T.int (if_pos h3).symm
        · walk_at "es"
          exact congrArg T.int (if_neg (by rw [h3]; exact Bool.false_ne_true)).symm
    · walk_at "es"
      refine iteC (fun h' => ?_) fun h' => ?_
      · walk_at "es"
        rw [← fin _ _ (if_neg (by rw [h]; exact Bool.false_ne_true)) (if_pos h')]
        refine wpb_cons (wps_ret ?_)
        walk_at "es"
        refine iteC (fun h3 => ?_) fun h3 => ?_
        · walk_at "es"
          exact congrArg T.int (if_pos h3).symm
        · walk_at "es"
          exact congrArg T.int (if_neg (by rw [h3]; exact Bool.false_ne_true)).symm
      · walk_at "es"
        rw [← fin _ _ (if_neg (by rw [h]; exact Bool.false_ne_true)) (if_neg (by rw [h']; exact Bool.false_ne_true))]
        refine wpb_cons (wps_ret ?_)
        walk_at "es"
        refine iteC (fun h3 => ?_) fun h3 => ?_
        · walk_at "es"
          exact congrArg T.int (if_pos h3).symm
        · walk_at "es"
          exact congrArg T.int (if_neg (by rw [h3]; exact Bool.false_ne_true)).symm
abbrev s__law_word_by : Stmt := topS 40
abbrev N__law_word_by : List Str := ["_law_one_so", "_law_two_so", "_law_three_so", "_law_fourth_so", "_law_fifth_so", "_law_sixth_so"]
theorem sc__law_word_by : FnScope N__law_word_by ["_law_one_so", "_law_two_so", "_law_three_so"] (defScope s__law_word_by) := ⟨rfl, rfl, rfl, by decide +kernel, rfl, by decide +kernel, by decide +kernel⟩
def word (a b c : Int) : List Int := [a, b, c, Builtin.bitXor (Builtin.bitXor a b) c, Builtin.bitXor (Builtin.bitXor (sprod 3 a) (sprod 2 b)) c, Builtin.bitXor (Builtin.bitXor (sprod 2 a) (sprod 3 b)) c]
inductive R__law_word_by : List T → T → Prop
  | mk (a b c : Int) (g0 : 0 ≤ a) (g1 : a < 4) (h0 : 0 ≤ b) (h1 : b < 4) : R__law_word_by [.int a, .int b, .int c] (tI (word a b c))
abbrev D__law_word_by (P : Program) (w : World) (K : PySem.W.Frag) (mg : Str → Option Value) (base : Heap) : Prop := Df P w K mg base "_law_word_by" 2 ["_law_one_so", "_law_two_so", "_law_three_so"] (spR R__law_word_by)
theorem ok__law_word_by (F : Fun K "_law_word_by" "_law_word_by" s__law_word_by f fd) (tx : Tx mg) (g__law_signs_product : D__law_signs_product P w K mg base) : FnOk P w K mg base CX0 2 f fd ["_law_one_so", "_law_two_so", "_law_three_so"] (spR R__law_word_by) := by
  refine fn_R F sc__law_word_by (fun ts t h => by cases h <;> rfl) fun cdv A outer s H E hr Z0 H0 ts t hR => ?_
  cases hR with
  | mk a b c g0 g1 h0 h1 =>
    refine wpb_cons (wps_set 3 sc__law_word_by.nd rfl (Or.inl rfl) rfl rfl ?_)
    walk_at "es"
    refine wpb_cons (wps_set 4 sc__law_word_by.nd rfl (Or.inl rfl) rfl rfl ?_)
    walk_at "es"
    refine wpb_cons (wps_set 5 sc__law_word_by.nd rfl (Or.inl rfl) rfl rfl ?_)
    walk_at "es"
    refine wpb_cons (wps_ret ?_)
    walk_at "es"
    rfl
abbrev s__law_words : Stmt := topS 41
abbrev N__law_words : List Str := ["_law_found", "_law_one_so", "_law_two_so", "_law_three_so"]
theorem sc__law_words : FnScope N__law_words [] (defScope s__law_words) := ⟨rfl, rfl, rfl, by decide +kernel, rfl, by decide +kernel, by decide +kernel⟩
def wpre2 (a : Int) (j : Nat) : List (List Int) := (((rng 4).take j).map fun b => (rng 4).map fun c => word a b c).flatten
def wpre (i : Nat) : List (List Int) := (((rng 4).take i).map fun a => wpre2 a 4).flatten
theorem wpre2_succ {a b : Int} {j : Nat} (h : (rng 4)[j]? = some b) : wpre2 a (j + 1) = wpre2 a j ++ (rng 4).map fun c => word a b c := by
  unfold wpre2
  rw [take_get h, List.map_append, List.flatten_append]
  simp
theorem wpre_succ {a : Int} {i : Nat} (h : (rng 4)[i]? = some a) : wpre (i + 1) = wpre i ++ wpre2 a 4 := by
  unfold wpre
  rw [take_get h, List.map_append, List.flatten_append]
  simp
theorem wpre2_len (a : Int) : ∀ j, (wpre2 a j).length ≤ 4 * j
  | 0 => by simp [wpre2]
  | j + 1 => by
    have ih := wpre2_len a j
    by_cases h : j < 4
    · rw [wpre2_succ (rng_get h), List.length_append, List.length_map, rng_len]
      omega
    · have e : wpre2 a (j + 1) = wpre2 a j := by
        unfold wpre2
        rw [List.take_of_length_le (by rw [rng_len]; omega), List.take_of_length_le (by rw [rng_len]; omega)]
      rw [e]
      omega
theorem wpre_len : ∀ j, (wpre j).length ≤ 16 * j
  | 0 => by simp [wpre]
  | j + 1 => by
    have ih := wpre_len j
    by_cases h : j < 4
    · have := wpre2_len j 4
      rw [wpre_succ (rng_get h), List.length_append]
      omega
    · have e : wpre (j + 1) = wpre j := by
        unfold wpre
        rw [List.take_of_length_le (by rw [rng_len]; omega), List.take_of_length_le (by rw [rng_len]; omega)]
      rw [e]
      omega
inductive R__law_words : List T → T → Prop
  | mk : R__law_words [] (.lst ((wpre 4).map tI))
theorem words_ok : (wpre 4).length = 64 ∧ ∀ w ∈ wpre 4, w.length = 6 ∧ ∀ s ∈ w, 0 ≤ s ∧ s < 4 := by decide +kernel
abbrev D__law_words (P : Program) (w : World) (K : PySem.W.Frag) (mg : Str → Option Value) (base : Heap) : Prop := Df P w K mg base "_law_words" 3 [] (spR R__law_words)
theorem ok__law_words (F : Fun K "_law_words" "_law_words" s__law_words f fd) (tx : Tx mg) (g__law_word_by : D__law_word_by P w K mg base) : FnOk P w K mg base CX0 3 f fd [] (spR R__law_words) := by
  refine fn_R F sc__law_words (fun ts t h => by cases h <;> rfl) fun cdv A outer s H E hr Z0 H0 ts t hR => ?_
  cases hR with
  | mk =>
    refine wpb_cons (wps_set 0 sc__law_words.nd rfl (Or.inl rfl) rfl rfl ?_)
    walk_at "es"
    refine wpb_cons (wps_for PassesOwn.never rfl (tg_name 1 sc__law_words.nd rfl (by walk_at "loc") (by walk_at "loc")) (fun _ => rfl) (wpi_range tx.nRange rfl rfl ?_))
    walk_at "es"
    refine ⟨fun i M' sl' => M' = ⟨Z0, H0, []⟩ ∧ ∃ w w2, sl' = [some (.lst ((wpre i).map tI)), w, w2, none], ⟨rfl, none, none, rfl⟩, ?_, ?_⟩
    · rintro i M2 sl2 t ht ⟨rfl, w, w2, rfl⟩
      obtain ⟨a, ha, rfl⟩ := mapget ht
      have ha2 : 0 ≤ a ∧ a < 4 := rng_mem.mp (List.mem_of_getElem? ha)
      have hi : i < 4 := by
        have := (List.getElem?_eq_some_iff.mp ha).1
        rw [rng_len] at this
        exact this
      refine ⟨_, rfl, ?_⟩
      refine wpb_cons (wps_for PassesOwn.never rfl (tg_name 2 sc__law_words.nd rfl (by walk_at "loc") (by walk_at "loc")) (fun _ => rfl) (wpi_range tx.nRange rfl rfl ?_))
      walk_at "es"
      refine ⟨fun j M' sl' => M' = ⟨Z0, H0, []⟩ ∧ ∃ w2, sl' = [some (.lst ((wpre i ++ wpre2 a j).map tI)), some (.int a), w2, none], ⟨rfl, w2, ?_⟩, ?_, ?_⟩
      · show _ = [some (T.lst ((wpre i ++ []).map tI)), _, _, _]
        rw [List.append_nil]
        rfl
      · rintro j M3 sl3 t ht ⟨rfl, w2, rfl⟩
        obtain ⟨b, hb, rfl⟩ := mapget ht
        have hb2 : 0 ≤ b ∧ b < 4 := rng_mem.mp (List.mem_of_getElem? hb)
        have hj : j < 4 := by
          have := (List.getElem?_eq_some_iff.mp hb).1
          rw [rng_len] at this
          exact this
        have l1 := wpre_len i
        have l2 := wpre2_len a j
        refine ⟨_, rfl, ?_⟩
        refine wpb_cons (wps_set 0 sc__law_words.nd rfl (Or.inl rfl) rfl rfl ?_)
        walk_at "es"
        refine wp_lcMap (own := [("_law_three_so", 3)]) (rng 4) T.int (fun c => tI (word a b c)) rfl sc__law_words.nd (blkOk_by rfl) (fun _ _ _ _ _ => tg_name 3 sc__law_words.nd rfl (by walk_at "loc") (by walk_at "loc")) hsub1 (hno1 rfl) (fun _ => rfl) (by decide) (wpi_range tx.nRange rfl rfl ?_)
        walk_at "es"
        refine ⟨rfl, fun c hc => ⟨_, rfl, ?_⟩, ?_⟩
        · intro M' s2 H2 C cl fp
          walk_at "es"
          exact ⟨rfl, rfl⟩
        walk_at "es"
        refine wpb_nil ⟨rfl, some (.int b), ?_⟩
        rw [wpre2_succ hb, ← List.append_assoc, List.map_append (l₁ := wpre i ++ wpre2 a j), List.map_map]
        rfl
      · rintro M3 sl3 ⟨rfl, w2, rfl⟩
        refine wpb_nil ⟨rfl, some (.int a), w2, ?_⟩
        rw [wpre_succ ha, List.length_map, rng_len]
    · rintro M2 sl2 ⟨rfl, w, w2, rfl⟩
      refine wpb_cons (wps_ret ?_)
      walk_at "es"
      rw [List.length_map, rng_len]
end

section
variable {P : Program} {w : World} {K : PySem.W.Frag} {mg : Str → Option Value} {base : Heap} {f fS fC fL fD C1 I1 C2 I2 : Addr} {fd : FuncData}
abbrev s_is_drawn_line : Stmt := topS 28
abbrev N_is_drawn_line : List Str := ["text", "mark"]
theorem sc_is_drawn_line : FnScope N_is_drawn_line ["text"] (defScope s_is_drawn_line) := ⟨rfl, rfl, rfl, by decide +kernel, rfl, by decide +kernel, by decide +kernel⟩
def markOk (c : Nat) : Bool := decide ((⟨#[c]⟩ : Str) ∈ [("#" : Str), "."])
def goodLine (z : Str) : Bool := decide ((z.length : Int) = 6) && z.cps.toList.all markOk
theorem cps_len (z : Str) : z.cps.toList.length = z.length := Array.length_toList
inductive R_is_drawn_line : List T → T → Prop
  | mk (z : Str) (hz : z.length ≤ 1000) : R_is_drawn_line [.str z] (.bl (goodLine z))
abbrev D_is_drawn_line (P : Program) (w : World) (K : PySem.W.Frag) (mg : Str → Option Value) (base : Heap) : Prop := Df P w K mg base "is_drawn_line" 1 ["text"] (spR R_is_drawn_line)
theorem ok_is_drawn_line (F : Fun K "is_drawn_line" "is_drawn_line" s_is_drawn_line f fd) (tx : Tx mg)  : FnOk P w K mg base CX0 1 f fd ["text"] (spR R_is_drawn_line) := by
  refine fn_R F sc_is_drawn_line (fun ts t h => by cases h <;> rfl) fun cdv A outer s H E hr Z0 H0 ts t hR => ?_
  cases hR with
  | mk z hz =>
    refine wpb_cons (wps_ret ?_)
    walk_at "es"
    refine iteC (fun h => ?_) fun h => ?_
    · refine wp_one ?_
      refine wp_all tx rfl rfl rfl (wpa_cons rfl ?_)
      refine wp_lcMap (own := [("mark", 1)]) z.cps.toList (fun c => T.str ⟨#[c]⟩) (fun c => T.bl (markOk c)) rfl sc_is_drawn_line.nd (blkOk_by rfl) (fun _ _ _ _ _ => tg_name 1 sc_is_drawn_line.nd rfl (by walk_at "loc") (by walk_at "loc")) hsub1 (hno1 rfl) (fun _ => rfl) (by rw [cps_len]; omega) (wpi_str ?_)
      walk_at "es"
      refine ⟨rfl, fun c hc => ⟨_, rfl, ?_⟩, ?_⟩
      · intro M' s2 H2 C cl fp
        walk_at "es"
        refine bin_inS (b := false) (ns := ["#", "."]) rfl ?_
        exact ⟨rfl, rfl⟩
      have e : z.cps.toList.map (fun c => T.bl (markOk c)) = (z.cps.toList.map markOk).map T.bl := by rw [List.map_map]; rfl
      rw [e]
      refine wpa_nil ?_
      refine cal_all rfl ?_
      show T.bl _ = T.bl _
      unfold goodLine
      rw [h, Bool.true_and, List.all_map]
      rfl
    · show T.bl _ = T.bl _
      unfold goodLine
      rw [h, Bool.false_and]
abbrev s_sure_lamp : Stmt := topS 15
abbrev N_sure_lamp : List Str := ["lamp"]
theorem sc_sure_lamp : FnScope N_sure_lamp ["lamp"] (defScope s_sure_lamp) := ⟨rfl, rfl, rfl, by decide +kernel, rfl, by decide +kernel, by decide +kernel⟩
inductive R_sure_lamp : List T → T → Prop
  | mk (i : Int) (h0 : 0 ≤ i) (h1 : i < 24) : R_sure_lamp [.int i] (.int i)
inductive Ex_sure_lamp : List T → Int → Prop
  | mk (i : Int) (h : ¬ (0 ≤ i ∧ i < 24)) : Ex_sure_lamp [.int i] i
theorem ok_sure_lamp (F : Fun K "sure_lamp" "sure_lamp" s_sure_lamp f fd) (tx : Tx mg) (g_is_below : D_is_below P w K mg base) (t1 : PySem.XNoLamp.Txt K mg C1 I1) : FnOk P w K mg base (L2.CX P w) 4 f fd ["lamp"] (spX R_sure_lamp Ex_sure_lamp C1 "lamp") := by
  refine fn_X F sc_sure_lamp (fun ts h => by rcases h with ⟨t, h⟩ | ⟨n, h⟩ <;> cases h <;> rfl) fun cdv A outer s H E hr Z0 H0 ts gr gx XW hW hh => ?_
  refine wpb_cons (wps_if ?_)
  rcases hh with ⟨t, hR, hg⟩ | ⟨n, hR, hg⟩
  · cases hR with
    | mk i h0 h1 =>
      walk_at "es"
      refine itecF (by simp [h0, h1]) ?_
      refine wpb_nil ?_
      refine wpb_cons (wps_ret ?_)
      walk_at "es"
      exact hg
  · cases hR with
    | mk i h0 =>
      walk_at "es"
      refine itecT (by rw [decide_eq_false h0]; rfl) ?_
      refine wpb_cons (wps_raise_NoLamp rfl t1 hr takes_cx rfl rfl rfl hW ?_)
      walk_at "es"
      exact hg
abbrev s_column_of : Stmt := topS 17
abbrev N_column_of : List Str := ["lamp"]
theorem sc_column_of : FnScope N_column_of ["lamp"] (defScope s_column_of) := ⟨rfl, rfl, rfl, by decide +kernel, rfl, by decide +kernel, by decide +kernel⟩
inductive R_column_of : List T → T → Prop
  | mk (i : Int) (h0 : 0 ≤ i) (h1 : i < 24) : R_column_of [.int i] (.int (i / 4))
theorem ok_column_of (F : Fun K "column_of" "column_of" s_column_of f fd) (tx : Tx mg) (gS : DfX P w K mg base "sure_lamp" fS 4 ["lamp"] (spX R_sure_lamp Ex_sure_lamp C1 "lamp")) : FnOk P w K mg base (L2.CX P w) 5 f fd ["lamp"] (spX R_column_of Ex_sure_lamp C1 "lamp") := by
  refine fn_X F sc_column_of (fun ts h => by rcases h with ⟨t, h⟩ | ⟨n, h⟩ <;> cases h <;> rfl) fun cdv A outer s H E hr Z0 H0 ts gr gx XW hW hh => ?_
  rcases hh with ⟨t, hR, hg⟩ | ⟨n, hR, hg⟩
  · cases hR with
    | mk i h0 h1 =>
      refine wpb_cons (wps_ret (wp_bin ?_))
      refine wp_callX gS (hr.mono (by decide)) rfl rfl rfl ?_
      walk_at "es"
      exact hg
  · cases hR with
    | mk i h0 =>
      refine wpb_cons (wps_retX gS (hr.mono (by decide)) rfl rfl rfl takes_cx hW ?_)
      walk_at "es"
      exact hg
abbrev s_line_of : Stmt := topS 18
abbrev N_line_of : List Str := ["lamp"]
theorem sc_line_of : FnScope N_line_of ["lamp"] (defScope s_line_of) := ⟨rfl, rfl, rfl, by decide +kernel, rfl, by decide +kernel, by decide +kernel⟩
inductive R_line_of : List T → T → Prop
  | mk (i : Int) (h0 : 0 ≤ i) (h1 : i < 24) : R_line_of [.int i] (.int (i % 4))
theorem ok_line_of (F : Fun K "line_of" "line_of" s_line_of f fd) (tx : Tx mg) (gS : DfX P w K mg base "sure_lamp" fS 4 ["lamp"] (spX R_sure_lamp Ex_sure_lamp C1 "lamp")) : FnOk P w K mg base (L2.CX P w) 5 f fd ["lamp"] (spX R_line_of Ex_sure_lamp C1 "lamp") := by
  refine fn_X F sc_line_of (fun ts h => by rcases h with ⟨t, h⟩ | ⟨n, h⟩ <;> cases h <;> rfl) fun cdv A outer s H E hr Z0 H0 ts gr gx XW hW hh => ?_
  rcases hh with ⟨t, hR, hg⟩ | ⟨n, hR, hg⟩
  · cases hR with
    | mk i h0 h1 =>
      refine wpb_cons (wps_ret (wp_bin ?_))
      refine wp_callX gS (hr.mono (by decide)) rfl rfl rfl ?_
      walk_at "es"
      exact hg
  · cases hR with
    | mk i h0 =>
      refine wpb_cons (wps_retX gS (hr.mono (by decide)) rfl rfl rfl takes_cx hW ?_)
      walk_at "es"
      exact hg
abbrev s_read_drawn : Stmt := topS 29
abbrev N_read_drawn : List Str := ["strings", "line", "lamp"]
theorem sc_read_drawn : FnScope N_read_drawn ["strings"] (defScope s_read_drawn) := ⟨rfl, rfl, rfl, by decide +kernel, rfl, by decide +kernel, by decide +kernel⟩
def badAt (zs : List Str) (l : Int) : Bool := decide ((zs.length : Int) ≤ l) || !goodLine (zs.getD l.toNat "")
def fb (zs : List Str) : Option Int := match (rng 4).find? (badAt zs) with
  | some l => some l
  | none => if decide ((4 : Int) < (zs.length : Int)) = true then some 4 else none
def markAt (zs : List Str) (i : Int) : Bool := match zs[(i % 4).toNat]? with
  | some z => match z.cps.toList[(i / 4).toNat]? with
    | some c => decide ((⟨#[c]⟩ : Str) = "#")
    | none => false
  | none => false
def readS (zs : List Str) : List Int := (rng 24).filter fun i => markAt zs i
def Strs (zs : List Str) : Prop := zs.length ≤ 1000 ∧ ∀ z ∈ zs, z.length ≤ 1000
inductive R_read_drawn : List T → T → Prop
  | mk (b : Bool) (zs : List Str) (hz : Strs zs) (h : fb zs = none) : R_read_drawn [Sq b (zs.map T.str)] (tI (readS zs))
inductive Ex_read_drawn : List T → Int → Prop
  | mk (b : Bool) (zs : List Str) (n : Int) (hz : Strs zs) (h : fb zs = some n) : Ex_read_drawn [Sq b (zs.map T.str)] n
theorem find_step {xs : List Int} {p : Int → Bool} {i : Nat} {a : Int} (h : xs[i]? = some a) (hp : p a = false) : (xs.drop i).find? p = (xs.drop (i + 1)).find? p := by
  obtain ⟨hi, e⟩ := List.getElem?_eq_some_iff.mp h
  rw [List.drop_eq_getElem_cons hi, e, List.find?_cons_of_neg (by rw [hp]; exact Bool.false_ne_true)]
theorem find_hit {xs : List Int} {p : Int → Bool} {i : Nat} {a : Int} (h : xs[i]? = some a) (hp : p a = true) : (xs.drop i).find? p = some a := by
  obtain ⟨hi, e⟩ := List.getElem?_eq_some_iff.mp h
  rw [List.drop_eq_getElem_cons hi, e, List.find?_cons_of_pos hp]
theorem ok_read_drawn (F : Fun K "read_drawn" "read_drawn" s_read_drawn f fd) (tx : Tx mg) (g_is_drawn_line : D_is_drawn_line P w K mg base) (t2 : PySem.XBadLine.Txt K mg C2 I2) : FnOk P w K mg base (L2.CX P w) 4 f fd ["strings"] (spX R_read_drawn Ex_read_drawn C2 "number") := by
  refine fn_X F sc_read_drawn (fun ts h => by rcases h with ⟨t, h⟩ | ⟨n, h⟩ <;> cases h <;> rfl) fun cdv A outer s H E hr Z0 H0 ts gr gx XW hW hh => ?_
  obtain ⟨b, zs, hz, rfl, hN, hS⟩ : ∃ (b : Bool) (zs : List Str), Strs zs ∧ ts = [Sq b (zs.map T.str)] ∧ (fb zs = none → gr (tI (readS zs))) ∧ ∀ n, fb zs = some n → gx n := by
    rcases hh with ⟨t, hR, hg⟩ | ⟨n, hR, hg⟩
    · cases hR with
      | mk b zs hz h => exact ⟨b, zs, hz, rfl, fun _ => hg, fun n hn => (by rw [h] at hn; cases hn)⟩
    · cases hR with
      | mk b zs n hz h => exact ⟨b, zs, hz, rfl, fun hn => (by rw [h] at hn; cases hn), fun m hm => (by rw [h] at hm; cases hm; exact hg)⟩
  refine wpb_cons (wps_for PassesOwn.leaving rfl (tg_name 1 sc_read_drawn.nd rfl (by walk_at "loc") (by walk_at "loc")) (fun _ => rfl) (wpi_range tx.nRange rfl rfl ?_))
  walk_at "es"
  refine ⟨fun i M' sl' => M' = ⟨Z0, H0, []⟩ ∧ ((rng 4).drop i).find? (badAt zs) = (rng 4).find? (badAt zs) ∧ ∃ w, sl' = [some (Sq b (zs.map T.str)), w, none], ⟨rfl, rfl, none, rfl⟩, ?_, ?_⟩
  · rintro i M2 sl2 t ht ⟨rfl, hf, w, rfl⟩
    obtain ⟨a, ha, rfl⟩ := mapget ht
    have ha2 : 0 ≤ a ∧ a < 4 := rng_mem.mp (List.mem_of_getElem? ha)
    have hit : badAt zs a = true → gx a := fun hb => by
      refine hS a ?_
      unfold fb
      rw [← hf, find_hit ha hb]
    refine ⟨_, rfl, ?_⟩
    refine wpb_cons (wps_if ?_)
    walk_at "es"
    rw [List.length_map]
    refine iteC (fun h => ?_) fun h => ?_
    · walk_at "es"
      refine wpb_cons (wps_raise_BadLine rfl t2 hr takes_cx rfl rfl rfl hW ?_)
      walk_at "es"
      exact hit (by unfold badAt; rw [h, Bool.true_or])
    · have hl : a.toNat < zs.length := by
        have := of_decide_eq_false h
        omega
      have hg : zs[a.toNat]? = some (zs.getD a.toNat "") := by
        rw [List.getD_eq_getElem?_getD, List.getElem?_eq_getElem hl]
        rfl
      have hzz := hz.2 _ (List.mem_of_getElem? hg)
      walk_at "es"
      refine idx_sq ha2.1 (by rw [List.getElem?_map, hg]; rfl) ?_
      walk_at "es"
      refine iteC (fun h2 => ?_) fun h2 => ?_
      · refine wpb_cons (wps_raise_BadLine rfl t2 hr takes_cx rfl rfl rfl hW ?_)
        walk_at "es"
        exact hit (by unfold badAt; rw [h2, Bool.or_true])
      · refine wpb_nil ?_
        refine wpb_nil ?_
        refine ⟨rfl, ?_, some (.int a), rfl⟩
        rw [← find_step ha (by unfold badAt; rw [h, h2]; rfl)]
        exact hf
  · rintro M2 sl2 ⟨rfl, hf, w, rfl⟩
    have hnone : (rng 4).find? (badAt zs) = none := by
      rw [← hf, List.length_map, rng_len]
      rfl
    have hfb : fb zs = if decide ((4 : Int) < (zs.length : Int)) = true then some 4 else none := by
      unfold fb
      rw [hnone]
    have hall : ∀ l ∈ rng 4, badAt zs l = false := fun l hl => by
      have := List.find?_eq_none.mp hnone l hl
      simpa using this
    refine wpb_cons (wps_if ?_)
    walk_at "es"
    rw [List.length_map]
    refine iteC (fun h => ?_) fun h => ?_
    · refine wpb_cons (wps_raise_BadLine rfl t2 hr takes_cx rfl rfl rfl hW ?_)
      walk_at "es"
      exact hS 4 (by rw [hfb, if_pos h])
    · refine wpb_nil ?_
      have hn := hN (by rw [hfb, if_neg (by rw [h]; exact Bool.false_ne_true)])
      have hat : ∀ i : Int, 0 ≤ i → i < 24 → ∃ z c, zs[(i % 4).toNat]? = some z ∧ z.length ≤ 1000 ∧ z.cps.toList[(i / 4).toNat]? = some c ∧ markAt zs i = decide ((⟨#[c]⟩ : Str) = "#") := fun i h0 h1 => by
        have hb := hall (i % 4) (rng_mem.mpr (by omega))
        unfold badAt at hb
        obtain ⟨hb1, hb2⟩ := Bool.or_eq_false_iff.mp hb
        have hl : (i % 4).toNat < zs.length := by
          have := of_decide_eq_false hb1
          omega
        have hg : zs[(i % 4).toNat]? = some (zs.getD (i % 4).toNat "") := by
          rw [List.getD_eq_getElem?_getD, List.getElem?_eq_getElem hl]
          rfl
        have hgl : goodLine (zs.getD (i % 4).toNat "") = true := by simpa using hb2
        unfold goodLine at hgl
        obtain ⟨hg1, _⟩ := Bool.and_eq_true_iff.mp hgl
        have hg1 := of_decide_eq_true hg1
        have hc : (i / 4).toNat < (zs.getD (i % 4).toNat "").cps.toList.length := by
          rw [cps_len]
          omega
        refine ⟨_, _, hg, hz.2 _ (List.mem_of_getElem? hg), List.getElem?_eq_getElem hc, ?_⟩
        unfold markAt
        rw [hg]
        dsimp only
        rw [List.getElem?_eq_getElem hc]
      refine wpb_cons (wps_ret ?_)
      walk_at "es"
      refine wp_lcFil (own := [("lamp", 2)]) (rng 24) T.int (fun i => markAt zs i) T.int rfl sc_read_drawn.nd (blkOk_by rfl) (fun _ _ _ _ _ => tg_name 2 sc_read_drawn.nd rfl (by walk_at "loc") (by walk_at "loc")) hsub1 (hno1 rfl) (fun _ => rfl) (by decide) (wpi_range tx.nRange rfl rfl ?_)
      walk_at "es"
      refine ⟨rfl, fun i hi => ⟨_, rfl, ?_, ?_⟩, ?_⟩
      · intro M' s2 H2 C cl fp
        have hi2 : 0 ≤ i ∧ i < 24 := rng_mem.mp hi
        obtain ⟨z, c, h1, h2, h3, h4⟩ := hat i hi2.1 hi2.2
        walk_at "es"
        refine idx_sq (by omega) (by rw [List.getElem?_map, h1]; rfl) ?_
        walk_at "es"
        refine idx_str (by omega) (by omega) h3 ?_
        walk_at "es"
        exact ⟨rfl, h4.symm⟩
      · intro _ M' s2 H2 C cl fp
        walk_at "es"
        exact ⟨rfl, rfl⟩
      walk_at "es"
      exact hn
abbrev s__law_heard : Stmt := topS 45
abbrev N__law_heard : List Str := ["_law_door", "_law_one", "error"]
theorem sc__law_heard : FnScope N__law_heard ["_law_door", "_law_one"] (defScope s__law_heard) := ⟨rfl, rfl, rfl, by decide +kernel, rfl, by decide +kernel, by decide +kernel⟩
inductive R__law_heard : List T → T → Prop
  | col (i : Int) (h0 : 0 ≤ i) (h1 : i < 24) : R__law_heard [.int 0, .int i] (.int (i / 4))
  | line (i : Int) (h0 : 0 ≤ i) (h1 : i < 24) : R__law_heard [.int 1, .int i] (.int (i % 4))
  | ncol (i : Int) (h : ¬ (0 ≤ i ∧ i < 24)) : R__law_heard [.int 0, .int i] (.lst [.str "lamp", .int i, .bl true])
  | nline (i : Int) (h : ¬ (0 ≤ i ∧ i < 24)) : R__law_heard [.int 1, .int i] (.lst [.str "lamp", .int i, .bl true])
  | readT (zs : List Str) (hz : Strs zs) (h : fb zs = none) : R__law_heard [.int 2, .tup (zs.map T.str)] (tI (readS zs))
  | readL (zs : List Str) (hz : Strs zs) (h : fb zs = none) : R__law_heard [.int 2, .lst (zs.map T.str)] (tI (readS zs))
  | badT (zs : List Str) (n : Int) (hz : Strs zs) (h : fb zs = some n) : R__law_heard [.int 2, .tup (zs.map T.str)] (.lst [.str "line", .int n, .bl true])
  | badL (zs : List Str) (n : Int) (hz : Strs zs) (h : fb zs = some n) : R__law_heard [.int 2, .lst (zs.map T.str)] (.lst [.str "line", .int n, .bl true])
/-- what the top says beyond Tx, for this -/
structure TxE (K : PySem.W.Frag) (mg : Str → Option Value) (C1 I1 C2 I2 : Addr) : Prop where
  t1 : PySem.XNoLamp.Txt K mg C1 I1
  t2 : PySem.XBadLine.Txt K mg C2 I2
  x21 : PySem.W.exmOne K (.ref C2) (.ref C1) = some false
  nL : mg "LookupError" = none
  nV : mg "ValueError" = none
theorem ok__law_heard (F : Fun K "_law_heard" "_law_heard" s__law_heard f fd) (tx : Tx mg) (te : TxE K mg C1 I1 C2 I2) (gC : DfX P w K mg base "column_of" fC 5 ["lamp"] (spX R_column_of Ex_sure_lamp C1 "lamp")) (gL : DfX P w K mg base "line_of" fL 5 ["lamp"] (spX R_line_of Ex_sure_lamp C1 "lamp"))
    (gD : DfX P w K mg base "read_drawn" fD 4 ["strings"] (spX R_read_drawn Ex_read_drawn C2 "number")) : FnOk P w K mg base CX0 6 f fd ["_law_door", "_law_one"] (spR R__law_heard) := by
  refine fn_R F sc__law_heard (fun ts t h => by cases h <;> rfl) fun cdv A outer s H E hr Z0 H0 ts t hR => ?_
  obtain ⟨_, _, mC, _⟩ := gC.ex
  obtain ⟨_, _, mL, _⟩ := gL.ex
  obtain ⟨_, _, mD, _⟩ := gD.ex
  have hds := HdsN.cons (X := (cxOf CX0 P w K mg base N__law_heard "_law_heard" (defScope s__law_heard) f cdv A outer s H E).nox) (n := "error") (x := "NoLamp") (np := ⟨154, 11, 154, 17⟩) (pos' := ⟨154, 4, 155, 67⟩) ⟨rfl, by decide, .inl te.t1.gC⟩
    (fun a oe cls d pn hz hf => suite_NoLamp (i := 2) (en := "error") (word := "lamp") (j := 0) (p1 := ⟨155, 16, 155, 22⟩) (p2 := ⟨155, 24, 155, 29⟩) (p3 := ⟨155, 24, 155, 34⟩) (p4 := ⟨155, 36, 155, 46⟩) (p5 := ⟨155, 47, 155, 52⟩) (p6 := ⟨155, 54, 155, 65⟩) (p7 := ⟨155, 36, 155, 66⟩) (p8 := ⟨155, 15, 155, 67⟩) (p9 := ⟨155, 8, 155, 67⟩)
      te.t1 hz hf rfl (by walk_at "vis") (by decide) (by decide) rfl tx.nIsinstance rfl te.nL rfl (fun Y h => by rfl) (fun Y h => by rfl))
    (HdsN.cons (x := "BadLine") (np := ⟨156, 11, 156, 18⟩) (pos' := ⟨156, 4, 157, 68⟩) ⟨rfl, by decide, .inl te.t2.gC⟩
      (fun a oe cls d pn hz hf => suite_BadLine (i := 2) (en := "error") (word := "line") (j := 0) (p1 := ⟨157, 16, 157, 22⟩) (p2 := ⟨157, 24, 157, 29⟩) (p3 := ⟨157, 24, 157, 36⟩) (p4 := ⟨157, 38, 157, 48⟩) (p5 := ⟨157, 49, 157, 54⟩) (p6 := ⟨157, 56, 157, 66⟩) (p7 := ⟨157, 38, 157, 67⟩) (p8 := ⟨157, 15, 157, 68⟩) (p9 := ⟨157, 8, 157, 68⟩)
        te.t2 hz hf rfl (by walk_at "vis") (by decide) (by decide) rfl tx.nIsinstance rfl te.nV rfl (fun Y h => by rfl) (fun Y h => by rfl))
      HdsN.nil)
  have set2 : ∀ (σ' : L2.St) (a : Addr), σ'.length = (slots N__law_heard ts).length → ts.length = 2 → (σ'.set 2 (some (.ref a)))[2]? = some (some (.ref a)) := fun σ' a hl h2 => by
    have : (slots N__law_heard ts).length = 3 := by
      unfold slots
      simp [h2]
    rw [List.getElem?_set_self (by omega)]
  have e7 : ts.length = 2 := by cases hR <;> rfl
  have cat1 : ∀ (σ' : L2.St) (H' : Hp) (n : Int) (d : Addr) (E' : Ends), σ'.length = (slots N__law_heard ts).length → H' d = some (.xd [(("lamp" : Str), .int n)]) → (∀ p, H' p = none → E'.rt (.ref p) (upd H' p (.lst [.str "lamp", .int n, .bl true]))) → wNam K 2 (fun _ _ _ _ => False) E' [(.ref C1, tsX 2 C1 "lamp" "lamp"), (.ref C2, tsX 2 C2 "number" "line")] (.ref C1) (some d) σ' H' := fun σ' H' n d E' hl hd hq =>
    ⟨true, te.t1.te, fun _ a _ => ⟨set2 σ' a hl e7, rfl, d, n, rfl, hd, hq⟩, fun h => nomatch h⟩
  have cat2 : ∀ (σ' : L2.St) (H' : Hp) (n : Int) (d : Addr) (E' : Ends), σ'.length = (slots N__law_heard ts).length → H' d = some (.xd [(("number" : Str), .int n)]) → (∀ p, H' p = none → E'.rt (.ref p) (upd H' p (.lst [.str "line", .int n, .bl true]))) → wNam K 2 (fun _ _ _ _ => False) E' [(.ref C1, tsX 2 C1 "lamp" "lamp"), (.ref C2, tsX 2 C2 "number" "line")] (.ref C2) (some d) σ' H' := fun σ' H' n d E' hl hd hq =>
    ⟨false, te.x21, (fun h => nomatch h), fun _ => ⟨true, te.t2.te, (fun _ a _ => ⟨set2 σ' a hl e7, rfl, d, n, rfl, hd, hq⟩), (fun h => nomatch h)⟩⟩
  cases hR with
  | col i h0 h1 =>
    refine wpb_cons (wps_heard (fld := "lamp") (word := "lamp") (gx := fun _ => False) rfl rfl sc__law_heard.nd rfl rfl takes0 hds cat1 (fun _ _ h => h.elim) ?_)
    intro pn xe W XW tk hW
    refine wpb_cons (wps_retE rfl gC (hr.mono (by decide)) rfl rfl tk hW ?_)
    refine wp_ix (fun _ _ => rfl) (wp_tup (wpa_cons rfl (wp_globR mC rfl (wpa_cons rfl (wp_globR mL rfl (wpa_cons rfl (wp_globR mD rfl (wpa_nil ⟨(by show 3 ≤ 100000; decide), ?_⟩))))))))
    walk_at "var"
    refine idx_tup (by decide) rfl ⟨rfl, ?_⟩
    refine wpa_cons rfl ?_
    walk_at "var"
    refine wpa_nil ?_
    exact .inl ⟨_, .mk i h0 h1, rfl⟩
  | line i h0 h1 =>
    refine wpb_cons (wps_heard (fld := "lamp") (word := "lamp") (gx := fun _ => False) rfl rfl sc__law_heard.nd rfl rfl takes0 hds cat1 (fun _ _ h => h.elim) ?_)
    intro pn xe W XW tk hW
    refine wpb_cons (wps_retE rfl gL (hr.mono (by decide)) rfl rfl tk hW ?_)
    refine wp_ix (fun _ _ => rfl) (wp_tup (wpa_cons rfl (wp_globR mC rfl (wpa_cons rfl (wp_globR mL rfl (wpa_cons rfl (wp_globR mD rfl (wpa_nil ⟨(by show 3 ≤ 100000; decide), ?_⟩))))))))
    walk_at "var"
    refine idx_tup (by decide) rfl ⟨rfl, ?_⟩
    refine wpa_cons rfl ?_
    walk_at "var"
    refine wpa_nil ?_
    exact .inl ⟨_, .mk i h0 h1, rfl⟩
  | ncol i h =>
    refine wpb_cons (wps_heard (fld := "lamp") (word := "lamp") (gx := fun n => n = i) rfl rfl sc__law_heard.nd rfl rfl takes0 hds cat1 (fun _ n h => by subst h; rfl) ?_)
    intro pn xe W XW tk hW
    refine wpb_cons (wps_retE rfl gC (hr.mono (by decide)) rfl rfl tk hW ?_)
    refine wp_ix (fun _ _ => rfl) (wp_tup (wpa_cons rfl (wp_globR mC rfl (wpa_cons rfl (wp_globR mL rfl (wpa_cons rfl (wp_globR mD rfl (wpa_nil ⟨(by show 3 ≤ 100000; decide), ?_⟩))))))))
    walk_at "var"
    refine idx_tup (by decide) rfl ⟨rfl, ?_⟩
    refine wpa_cons rfl ?_
    walk_at "var"
    refine wpa_nil ?_
    exact .inr ⟨i, .mk i h, rfl⟩
  | nline i h =>
    refine wpb_cons (wps_heard (fld := "lamp") (word := "lamp") (gx := fun n => n = i) rfl rfl sc__law_heard.nd rfl rfl takes0 hds cat1 (fun _ n h => by subst h; rfl) ?_)
    intro pn xe W XW tk hW
    refine wpb_cons (wps_retE rfl gL (hr.mono (by decide)) rfl rfl tk hW ?_)
    refine wp_ix (fun _ _ => rfl) (wp_tup (wpa_cons rfl (wp_globR mC rfl (wpa_cons rfl (wp_globR mL rfl (wpa_cons rfl (wp_globR mD rfl (wpa_nil ⟨(by show 3 ≤ 100000; decide), ?_⟩))))))))
    walk_at "var"
    refine idx_tup (by decide) rfl ⟨rfl, ?_⟩
    refine wpa_cons rfl ?_
    walk_at "var"
    refine wpa_nil ?_
    exact .inr ⟨i, .mk i h, rfl⟩
  | readT zs hz h =>
    refine wpb_cons (wps_heard (fld := "number") (word := "line") (gx := fun _ => False) rfl rfl sc__law_heard.nd rfl rfl takes0 hds cat2 (fun _ _ h => h.elim) ?_)
    intro pn xe W XW tk hW
    refine wpb_cons (wps_retE rfl gD (hr.mono (by decide)) rfl rfl tk hW ?_)
    refine wp_ix (fun _ _ => rfl) (wp_tup (wpa_cons rfl (wp_globR mC rfl (wpa_cons rfl (wp_globR mL rfl (wpa_cons rfl (wp_globR mD rfl (wpa_nil ⟨(by show 3 ≤ 100000; decide), ?_⟩))))))))
    walk_at "var"
    refine idx_tup (by decide) rfl ⟨rfl, ?_⟩
    refine wpa_cons rfl ?_
    walk_at "var"
    refine wpa_nil ?_
    exact .inl ⟨_, .mk false zs hz h, rfl⟩
  | readL zs hz h =>
    refine wpb_cons (wps_heard (fld := "number") (word := "line") (gx := fun _ => False) rfl rfl sc__law_heard.nd rfl rfl takes0 hds cat2 (fun _ _ h => h.elim) ?_)
    intro pn xe W XW tk hW
    refine wpb_cons (wps_retE rfl gD (hr.mono (by decide)) rfl rfl tk hW ?_)
    refine wp_ix (fun _ _ => rfl) (wp_tup (wpa_cons rfl (wp_globR mC rfl (wpa_cons rfl (wp_globR mL rfl (wpa_cons rfl (wp_globR mD rfl (wpa_nil ⟨(by show 3 ≤ 100000; decide), ?_⟩))))))))
    walk_at "var"
    refine idx_tup (by decide) rfl ⟨rfl, ?_⟩
    refine wpa_cons rfl ?_
    walk_at "var"
    refine wpa_nil ?_
    exact .inl ⟨_, .mk true zs hz h, rfl⟩
  | badT zs n hz h =>
    refine wpb_cons (wps_heard (fld := "number") (word := "line") (gx := fun m => m = n) rfl rfl sc__law_heard.nd rfl rfl takes0 hds cat2 (fun _ n h => by subst h; rfl) ?_)
    intro pn xe W XW tk hW
    refine wpb_cons (wps_retE rfl gD (hr.mono (by decide)) rfl rfl tk hW ?_)
    refine wp_ix (fun _ _ => rfl) (wp_tup (wpa_cons rfl (wp_globR mC rfl (wpa_cons rfl (wp_globR mL rfl (wpa_cons rfl (wp_globR mD rfl (wpa_nil ⟨(by show 3 ≤ 100000; decide), ?_⟩))))))))
    walk_at "var"
    refine idx_tup (by decide) rfl ⟨rfl, ?_⟩
    refine wpa_cons rfl ?_
    walk_at "var"
    refine wpa_nil ?_
    exact .inr ⟨n, .mk false zs n hz h, rfl⟩
  | badL zs n hz h =>
    refine wpb_cons (wps_heard (fld := "number") (word := "line") (gx := fun m => m = n) rfl rfl sc__law_heard.nd rfl rfl takes0 hds cat2 (fun _ n h => by subst h; rfl) ?_)
    intro pn xe W XW tk hW
    refine wpb_cons (wps_retE rfl gD (hr.mono (by decide)) rfl rfl tk hW ?_)
    refine wp_ix (fun _ _ => rfl) (wp_tup (wpa_cons rfl (wp_globR mC rfl (wpa_cons rfl (wp_globR mL rfl (wpa_cons rfl (wp_globR mD rfl (wpa_nil ⟨(by show 3 ≤ 100000; decide), ?_⟩))))))))
    walk_at "var"
    refine idx_tup (by decide) rfl ⟨rfl, ?_⟩
    refine wpa_cons rfl ?_
    walk_at "var"
    refine wpa_nil ?_
    exact .inr ⟨n, .mk true zs n hz h, rfl⟩
abbrev D__law_heard (P : Program) (w : World) (K : PySem.W.Frag) (mg : Str → Option Value) (base : Heap) : Prop := Df P w K mg base "_law_heard" 6 ["_law_door", "_law_one"] (spR R__law_heard)
end

section
variable {X : Cx} {M : Mo} {sl : Sl} {k : KT} {kn : Mo → List T → Prop} {pos : Pos} {D : DT}
theorem rgV_rng (n : Nat) : rgV 0 (n : Int) = (rng n).map V.int := by
  unfold rgV rng
  rw [List.map_map]
  have e : ((n : Int) - 0).toNat = n := by omega
  rw [e]
  refine List.map_congr_left fun i _ => ?_
  show V.int (0 + (i : Int)) = V.int (i : Int)
  rw [Int.zero_add]
theorem wp_listRg {e : Expr} {p p2 pos2 : Pos} (hc : X.calm = true) (hg : Gl X "list") (hm : X.mg "list" = none) (hg2 : Gl X "range") (hm2 : X.mg "range" = none) (he : starEach [e] X.env = (false, eval e X.env) :: starEach [] X.env) (he2 : starEach [.Call (.Name "range" p2) [e] [] pos2] X.env = (false, eval (.Call (.Name "range" p2) [e] [] pos2) X.env) :: starEach [] X.env)
    (h : Wp X M e sl fun M1 t => ∃ n : Nat, t = .int n ∧ n ≤ 100000 ∧ k M1 (.lst ((rng n).map T.int))) : Wp X M (.Call (.Name "list" p) [.Call (.Name "range" p2) [e] [] pos2] [] pos) sl k :=
  wp_of (pe_listRg hc hg hm (prg_1 hg2 hm2 pe_tW he) he2) fun σ H Q o s e' => h σ H _ o s fun v H1 M1 t f1 o1 r1 ⟨n, ht, hn, k1⟩ => by
    subst ht
    refine ⟨(n : Int), Rd.int_iff.mp r1, RgOk.of_le (by decide) (by omega) (by decide) (by omega), fun q hq => ?_⟩
    refine (e'.fr f1).upd o1 hq (Rd.newL o1 hq ?_) k1
    rw [rgV_rng]
    exact Rds.ofInts _
theorem bin_pow {i j : Int} (c : CPow i j) (q : k M (.int (i ^ j.toNat))) : Bin X (binaryOp .Pow) M (.int i) (.int j) k := bin_I op_pow c q
/-- x or y, both new lists -/
theorem wpn_orT {a b : Expr} (h : WpN X M a sl fun M1 ts => if ts.isEmpty = true then WpN X M1 (.BoolOp .Or [b] pos) sl kn else kn M1 ts) : WpN X M (.BoolOp .Or [a, b] pos) sl kn := fun σ H Q o s e =>
  tW_of (pe_orT pe_tW pe_tW) (h σ H _ o s fun p H1 M1 ts vs f1 o1 hp r1 k1 => by
    have hl := r1.length
    cases ts with
    | nil =>
      have : vs = [] := List.eq_nil_of_length_eq_zero hl
      subst this
      refine ⟨false, .inl ⟨[], SqL.of upd_same, rfl⟩, ?_⟩
      have f2 : Fr M1 H1 M1 (L2.upd H1 p (.lst [])) := Fr.same (same_upd hp)
      exact k1 σ _ Q (o1.same (same_upd hp)) ((f1.trans f2).sld s) fun q H3 M3 ts3 vs3 f3 o3 hq r3 k3 => e q H3 M3 ts3 vs3 ((f1.trans f2).trans f3) o3 hq r3 k3
    | cons t ts =>
      cases vs with
      | nil => simp at hl
      | cons v vs => exact ⟨true, .inl ⟨_, SqL.of upd_same, rfl⟩, e p H1 M1 _ _ f1 o1 hp r1 k1⟩)
theorem wpn_one {a : Expr} {op : BoolOp} (h : WpN X M a sl kn) : WpN X M (.BoolOp op [a] pos) sl kn := fun σ H Q o s e => tW_of (pe_one pe_tW) (h σ H Q o s e)
/-- a slice of the script, which is read off the ground -/
theorem sli_ptr {a : Addr} {ns : List Int} {lo hi : Option Int} (hs : ∀ H, M.Ok H → SqL X.K H a (ns.map V.int)) (q : k M (.lst ((cutT ns lo hi).map T.int))) : Sli X M (.ptr a) lo hi k := fun x H Q o ra e => by
  have := Rd.ptr_iff.mp ra
  subst this
  refine sW_of sl_list ⟨a, ns.map V.int, rfl, hs H o, fun p hp => e.upd o hp (Rd.newL o hp ?_) q⟩
  have ec : cutV (ns.map V.int) lo hi = (cutT ns lo hi).map V.int := by
    unfold cutV cutT
    rw [List.map_take, List.map_drop, List.length_map]
  rw [ec]
  exact Rds.ofInts _
/-- a box may be said to have been drawn from more often -/
theorem wpb_moreTin {j : Nat} {a : Addr} {n n' : Nat} {sts : List Stmt} (ho : M.os[j]? = some (a, .tin n)) (hn : n ≤ n') (h : WpB X (M.put j (.tin n')) sts sl D) : WpB X M sts sl D := fun σ H E o s e => by
  obtain ⟨_, _, x, b, c, ha, ht⟩ := o.at_ ho
  obtain ⟨o1, f1⟩ := o.say ho (o := .tin n') ⟨x, b, c, ha, ht.1, ht.2.1, ht.2.2.1, ht.2.2.2.1, by have := ht.2.2.2.2; omega⟩
  exact h σ H E o1 (f1.sld s) (e.fr f1)
theorem zipT_self : ∀ ts : List T, zipT ts ts = ts.map fun t => .tup [t, t]
  | [] => rfl
  | t :: ts => by
    show .tup [t, t] :: zipT ts ts = _
    rw [zipT_self ts]
    rfl
theorem hno2 {sl : Sl} {i j : Nat} {x y : Str} (h : sl[i]? = some none) (g : sl[j]? = some none) : ∀ l ∈ [(x, i), (y, j)].map (·.2), sl[l]? = some none ∨ sl[l]? = none := fun l hl => by
  have e : l = i ∨ l = j := by simpa using hl
  rcases e with e | e <;> rw [e]
  · exact .inl h
  · exact .inl g
theorem hsub2 {i j : Nat} {x y : Str} : ∀ l ∈ [i, j], l ∈ [(x, i), (y, j)].map (·.2) := fun l hl => hl
end

section
variable {P : Program} {w : World} {K : PySem.W.Frag} {mg : Str → Option Value} {base : Heap} {f : Addr} {fd : FuncData}
abbrev s__law_same : Stmt := topS 37
abbrev N__law_same : List Str := ["_law_got", "_law_due", "_law_mine", "_law_its"]
theorem sc__law_same : FnScope N__law_same ["_law_got", "_law_due"] (defScope s__law_same) := ⟨rfl, rfl, rfl, by decide +kernel, rfl, by decide +kernel, by decide +kernel⟩
def flatT : T → Bool
  | .int _ => true
  | .str z => decide (z.length ≤ 1000)
  | .bl _ => true
  | _ => false
def Good : Nat → T → Prop
  | 0, t => flatT t = true
  | d + 1, t => flatT t = true ∨ ∃ b ts, t = Sq b ts ∧ ts.length ≤ 50000 ∧ ∀ u ∈ ts, Good d u
theorem Good.up : ∀ {d : Nat} {t : T}, flatT t = true → Good d t
  | 0, _, h => h
  | _ + 1, _, h => .inl h
inductive R__law_same (d : Nat) : List T → T → Prop
  | mk (t : T) (h : Good d t) : R__law_same d [t, t] (.bl true)
abbrev D__law_same (d : Nat) (P : Program) (w : World) (K : PySem.W.Frag) (mg : Str → Option Value) (base : Heap) : Prop := Df P w K mg base "_law_same" (d + 1) ["_law_got", "_law_due"] (spR (R__law_same d))
theorem ite_isB : (isB "int" "list" || isB "int" "tuple") = false ∧ (isB "str" "list" || isB "str" "tuple") = false ∧ (isB "bool" "list" || isB "bool" "tuple") = false ∧ (isB "list" "list" || isB "list" "tuple") = true ∧ (isB "tuple" "list" || isB "tuple" "tuple") = true ∧ (isB "int" "bool" || isB "int" "str") = false ∧ (isB "str" "bool" || isB "str" "str") = true ∧ (isB "bool" "bool" || isB "bool" "str") = true := by decide +kernel
theorem isB_more : isB "int" "bool" = false ∧ isB "list" "list" = true ∧ isB "tuple" "list" = false ∧ isB "list" "tuple" = false ∧ isB "tuple" "tuple" = true ∧ isB "bool" "bool" = true ∧ isB "str" "bool" = false := by decide +kernel
theorem same_flat {cdv : Value} {A : Around} {outer : List Env} {s : Shared} {H : Hp} {E : XK} {Z0 : Addr → Prop} {H0 : Hp} (tx : Tx mg) {t : T} (hf : flatT t = true) : WpB (cxOf CX0 P w K mg base N__law_same "_law_same" (defScope s__law_same) f cdv A outer s H E).nox ⟨Z0, H0, []⟩ (defBody s__law_same) (slots N__law_same [t, t]) { nx := fun _ _ => False, rt := fun _ u => u = .bl true } := by
  cases t with
  | non => cases hf
  | ty n => cases hf
  | ptr a => cases hf
  | lst l => cases hf
  | tup l => cases hf
  | int i =>
    refine wpb_cons (wps_if (wpt_val (fun _ => rfl) (wp_isi2 (c := "list") (d := "tuple") tx.nIsinstance tx.nList tx.nTuple (by decide +kernel) (by decide +kernel) rfl rfl rfl (by decide) (by decide) rfl (by decide +kernel) ?_)))
    walk_at "es"
    try refine itecF ite_isB.1 ?_
    refine wpb_nil ?_
    refine wpb_cons (wps_if ?_)
    walk_at "es"
    try refine itecF rfl ?_
    refine wpw_or1 (wpt_val (fun _ => rfl) (wp_isi2 (c := "bool") (d := "str") tx.nIsinstance tx.nBool tx.nStr (by decide +kernel) (by decide +kernel) rfl rfl rfl (by decide) (by decide) rfl (by decide +kernel) ?_))
    walk_at "es"
    try rw [ite_isB.2.2.2.2.2.1]
    try refine iteF ?_
    refine wpb_nil ?_
    refine wpb_cons (wps_ret ?_)
    walk_at "es"
    try rw [isB_more.1]
    try refine itecT rfl ?_
    walk_at "es"
    exact congrArg T.bl (decide_eq_true rfl)
  | str z =>
    have hz : z.length ≤ 1000 := of_decide_eq_true hf
    refine wpb_cons (wps_if (wpt_val (fun _ => rfl) (wp_isi2 (c := "list") (d := "tuple") tx.nIsinstance tx.nList tx.nTuple (by decide +kernel) (by decide +kernel) rfl rfl rfl (by decide) (by decide) rfl (by decide +kernel) ?_)))
    walk_at "es"
    try refine itecF ite_isB.2.1 ?_
    refine wpb_nil ?_
    refine wpb_cons (wps_if ?_)
    walk_at "es"
    try refine itecF rfl ?_
    refine wpw_or1 (wpt_val (fun _ => rfl) (wp_isi2 (c := "bool") (d := "str") tx.nIsinstance tx.nBool tx.nStr (by decide +kernel) (by decide +kernel) rfl rfl rfl (by decide) (by decide) rfl (by decide +kernel) ?_))
    walk_at "es"
    try rw [ite_isB.2.2.2.2.2.2.1]
    try refine iteT ?_
    refine wpb_cons (wps_ret ?_)
    walk_at "es"
    try refine itecT (decide_eq_true rfl) ?_
    walk_at "es"
    try refine itecT (decide_eq_true rfl) ?_
    walk_at "es"
    exact congrArg T.bl (decide_eq_true rfl)
  | bl c =>
    refine wpb_cons (wps_if (wpt_val (fun _ => rfl) (wp_isi2 (c := "list") (d := "tuple") tx.nIsinstance tx.nList tx.nTuple (by decide +kernel) (by decide +kernel) rfl rfl rfl (by decide) (by decide) rfl (by decide +kernel) ?_)))
    walk_at "es"
    try refine itecF ite_isB.2.2.1 ?_
    refine wpb_nil ?_
    refine wpb_cons (wps_if ?_)
    walk_at "es"
    try refine itecF rfl ?_
    refine wpw_or1 (wpt_val (fun _ => rfl) (wp_isi2 (c := "bool") (d := "str") tx.nIsinstance tx.nBool tx.nStr (by decide +kernel) (by decide +kernel) rfl rfl rfl (by decide) (by decide) rfl (by decide +kernel) ?_))
    walk_at "es"
    try rw [ite_isB.2.2.2.2.2.2.2]
    try refine iteT ?_
    refine wpb_cons (wps_ret ?_)
    walk_at "es"
    try refine itecT (decide_eq_true rfl) ?_
    walk_at "es"
    try refine itecT (decide_eq_true rfl) ?_
    walk_at "es"
    exact congrArg T.bl (decide_eq_true rfl)
theorem ok__law_same0 (F : Fun K "_law_same" "_law_same" s__law_same f fd) (tx : Tx mg) : FnOk P w K mg base CX0 1 f fd ["_law_got", "_law_due"] (spR (R__law_same 0)) := by
  refine fn_R F sc__law_same (fun ts t h => by cases h <;> rfl) fun cdv A outer s H E hr Z0 H0 ts t hR => ?_
  cases hR with
  | mk t h => exact same_flat tx h
theorem ok__law_same_succ {dd : Nat} (F : Fun K "_law_same" "_law_same" s__law_same f fd) (tx : Tx mg) (g : D__law_same dd P w K mg base) : FnOk P w K mg base CX0 (dd + 2) f fd ["_law_got", "_law_due"] (spR (R__law_same (dd + 1))) := by
  refine fn_R F sc__law_same (fun ts t h => by cases h <;> rfl) fun cdv A outer s H E hr Z0 H0 ts t hR => ?_
  cases hR with
  | mk t h =>
    rcases h with h | ⟨b, ts, rfl, hl, hh⟩
    · exact same_flat tx h
    · cases b with
      | true =>
        refine wpb_cons (wps_if (wpt_val (fun _ => rfl) (wp_isi2 (c := "list") (d := "tuple") tx.nIsinstance tx.nList tx.nTuple (by decide +kernel) (by decide +kernel) rfl rfl rfl (by decide) (by decide) rfl (by decide +kernel) ?_)))
        walk_at "es"
        try refine itecT ite_isB.2.2.2.1 ?_
        refine wpb_cons (wps_if ?_)
        walk_at "es"
        try refine itecF (by cases (isB "list" "list") <;> rfl) ?_
        try refine wpw_or1 ?_
        walk_at "es"
        try refine itecF (by cases (isB "list" "tuple") <;> rfl) ?_
        refine wpb_nil ?_
        refine wpb_cons (wps_ret ?_)
        walk_at "es"
        try refine itecT (decide_eq_true rfl) ?_
        refine wp_one (wp_all tx rfl rfl rfl (wpa_cons rfl ?_))
        refine wp_lcMap (own := [("_law_mine", 2), ("_law_its", 3)]) ts (fun t => .tup [t, t]) (fun _ => T.bl true) rfl sc__law_same.nd (blkOk_by rfl) (fun _ _ _ _ _ => tg_pair 2 3 rfl sc__law_same.nd rfl rfl (by walk_at "loc") (by walk_at "loc") (by walk_at "loc") (by walk_at "loc")) hsub2 (hno2 rfl rfl) (fun _ => rfl) hl (wpi_zip tx.nZip rfl rfl rfl ?_)
        walk_at "es"
        refine ⟨true, ts, ts, rfl, zipT_self ts, fun u hu => ⟨_, rfl, ?_⟩, ?_⟩
        · intro M' s2 H2 C cl fp
          have hg := hh u hu
          refine wp_call g hr rfl rfl rfl ?_
          walk_at "es"
          exact ⟨rfl, rfl⟩
        have e : ts.map (fun _ => T.bl true) = (ts.map fun _ => true).map T.bl := by rw [List.map_map]; rfl
        rw [e]
        refine wpa_nil ?_
        refine cal_all rfl ?_
        show T.bl _ = T.bl _
        congr 1
        rw [List.all_map]
        simp
      | false =>
        refine wpb_cons (wps_if (wpt_val (fun _ => rfl) (wp_isi2 (c := "list") (d := "tuple") tx.nIsinstance tx.nList tx.nTuple (by decide +kernel) (by decide +kernel) rfl rfl rfl (by decide) (by decide) rfl (by decide +kernel) ?_)))
        walk_at "es"
        try refine itecT ite_isB.2.2.2.2.1 ?_
        refine wpb_cons (wps_if ?_)
        walk_at "es"
        try refine itecF (by cases (isB "tuple" "list") <;> rfl) ?_
        try refine wpw_or1 ?_
        walk_at "es"
        try refine itecF (by cases (isB "tuple" "tuple") <;> rfl) ?_
        refine wpb_nil ?_
        refine wpb_cons (wps_ret ?_)
        walk_at "es"
        try refine itecT (decide_eq_true rfl) ?_
        refine wp_one (wp_all tx rfl rfl rfl (wpa_cons rfl ?_))
        refine wp_lcMap (own := [("_law_mine", 2), ("_law_its", 3)]) ts (fun t => .tup [t, t]) (fun _ => T.bl true) rfl sc__law_same.nd (blkOk_by rfl) (fun _ _ _ _ _ => tg_pair 2 3 rfl sc__law_same.nd rfl rfl (by walk_at "loc") (by walk_at "loc") (by walk_at "loc") (by walk_at "loc")) hsub2 (hno2 rfl rfl) (fun _ => rfl) hl (wpi_zip tx.nZip rfl rfl rfl ?_)
        walk_at "es"
        refine ⟨false, ts, ts, rfl, zipT_self ts, fun u hu => ⟨_, rfl, ?_⟩, ?_⟩
        · intro M' s2 H2 C cl fp
          have hg := hh u hu
          refine wp_call g hr rfl rfl rfl ?_
          walk_at "es"
          exact ⟨rfl, rfl⟩
        have e : ts.map (fun _ => T.bl true) = (ts.map fun _ => true).map T.bl := by rw [List.map_map]; rfl
        rw [e]
        refine wpa_nil ?_
        refine cal_all rfl ?_
        show T.bl _ = T.bl _
        congr 1
        rw [List.all_map]
        simp
end

section
variable {P : Program} {w : World} {K : PySem.W.Frag} {mg : Str → Option Value} {base : Heap} {f : Addr} {fd : FuncData}
abbrev s__law_take : Stmt := topS 32
abbrev N__law_take : List Str := ["_law_tin", "_law_below_so", "_law_draw_so", "_law_once_so", "_law_wide_so", "_law_twice_so"]
theorem sc__law_take : FnScope N__law_take ["_law_tin", "_law_below_so"] (defScope s__law_take) := ⟨rfl, rfl, rfl, by decide +kernel, rfl, by decide +kernel, by decide +kernel⟩
inductive Pr__law_take : List T → Prop
  | mk (b : Int) (h0 : 0 < b) (h1 : b < 1073741824) : Pr__law_take [.int b]
inductive R__law_take : List T → T → Prop
  | mk (b r : Int) (h0 : 0 ≤ r) (h1 : r < b) : R__law_take [.int b] (.int r)
abbrev D__law_take (P : Program) (w : World) (K : PySem.W.Frag) (mg : Str → Option Value) (base : Heap) : Prop := Df P w K mg base "_law_take" 1 ["_law_tin", "_law_below_so"] (spT 100000 1 Pr__law_take R__law_take)
theorem ok__law_take (F : Fun K "_law_take" "_law_take" s__law_take f fd) (tx : Tx mg)  : FnOk P w K mg base CX0 1 f fd ["_law_tin", "_law_below_so"] (spT 100000 1 Pr__law_take R__law_take) := by
  refine fn_T F sc__law_take (fun ts h => by cases h <;> rfl) fun cdv A outer s H E hr Z0 H0 a n ts hn hP => ?_
  cases hP with
  | mk bl h0 h1 =>
    refine wpb_openTin (j := 0) rfl fun x b c ht => ?_
    obtain ⟨t1, t2, t3, t4, t5⟩ := ht
    refine wpb_cons (wps_if ?_)
    walk_at "es"
    refine iteC (fun h => ?_) fun h => ?_
    · refine wpb_cons (wps_set 2 sc__law_take.nd rfl (Or.inl rfl) rfl rfl ?_)
      walk_at "es"
      refine wpb_cons (wps_setItem 0 0 rfl rfl (Or.inl rfl) (fun v => rfl) rfl rfl rfl ?_)
      walk_at "es"
      refine ⟨_, _, rfl, rfl, by decide, by simp, ?_⟩
      refine wpb_shutTin (j := 0) (a := a) (n := n + 1) (x := x / bl) (b := b) (c := c) rfl ⟨Int.ediv_nonneg t1 (by omega), t2, t3, t4, by omega⟩ ?_
      refine wpb_cons (wps_ret ?_)
      walk_at "es"
      exact ⟨⟨0, rfl⟩, .mk bl _ (Int.emod_nonneg _ (by omega)) (Int.emod_lt_of_pos _ h0)⟩
    · refine wpb_nil ?_
      refine wpb_cons (wps_setItem 0 0 rfl rfl (Or.inl rfl) (fun v => rfl) rfl rfl rfl ?_)
      walk_at "es"
      refine ⟨_, _, rfl, rfl, by decide, by simp, ?_⟩
      refine wpb_cons (wps_set 3 sc__law_take.nd rfl (Or.inl rfl) rfl rfl ?_)
      walk_at "es"
      generalize e1 : (b + 48271 * (c + 1)) * (39373 + (c + 1)) % 2147483647 = on
      have hon : 0 ≤ on ∧ on < 2147483647 := by omega
      refine wpb_cons (wps_set 4 sc__law_take.nd rfl (Or.inl rfl) rfl rfl ?_)
      walk_at "es"
      refine wpb_cons (wps_set 5 sc__law_take.nd rfl (Or.inl rfl) rfl rfl ?_)
      walk_at "es"
      generalize e2 : (on + (c + 1) + b / 1000003) * (on % 40009 + 7) % 2147483629 = tw
      have htw : 0 ≤ tw ∧ tw < 2147483629 := by omega
      refine wpb_shutTin (j := 0) (a := a) (n := n + 1) (x := x) (b := b) (c := c + 1) rfl ⟨t1, t2, t3, by omega, by omega⟩ ?_
      refine wpb_cons (wps_ret ?_)
      walk_at "es"
      exact ⟨⟨0, rfl⟩, .mk bl _ (Int.emod_nonneg _ (by omega)) (Int.emod_lt_of_pos _ h0)⟩
abbrev s__law_of : Stmt := topS 34
abbrev N__law_of : List Str := ["_law_tin", "_law_goods_so"]
theorem sc__law_of : FnScope N__law_of ["_law_tin", "_law_goods_so"] (defScope s__law_of) := ⟨rfl, rfl, rfl, by decide +kernel, rfl, by decide +kernel, by decide +kernel⟩
inductive Pr__law_of : List T → Prop
  | mk (gs : List T) (h0 : 0 < gs.length) (h1 : gs.length ≤ 1000) : Pr__law_of [.lst gs]
inductive R__law_of : List T → T → Prop
  | mk (gs : List T) (t : T) (h : t ∈ gs) : R__law_of [.lst gs] t
abbrev D__law_of (P : Program) (w : World) (K : PySem.W.Frag) (mg : Str → Option Value) (base : Heap) : Prop := Df P w K mg base "_law_of" 2 ["_law_tin", "_law_goods_so"] (spT 99000 1 Pr__law_of R__law_of)
theorem ok__law_of (F : Fun K "_law_of" "_law_of" s__law_of f fd) (tx : Tx mg) (g__law_take : D__law_take P w K mg base) : FnOk P w K mg base CX0 2 f fd ["_law_tin", "_law_goods_so"] (spT 99000 1 Pr__law_of R__law_of) := by
  refine fn_T F sc__law_of (fun ts h => by cases h <;> rfl) fun cdv A outer s H E hr Z0 H0 a n ts hn hP => ?_
  cases hP with
  | mk gs h0 h1 =>
    refine wpb_cons (wps_ret ?_)
    walk_at "es"
    refine ⟨0, _, _, _, rfl, rfl, by omega, .mk _ (by omega) (by omega), fun t hR => ?_⟩
    cases hR with
    | mk _ r g0 g1 =>
      have hg : gs[r.toNat]? = some (gs[r.toNat]'(by omega)) := List.getElem?_eq_getElem _
      refine idx_lst g0 hg ?_
      exact ⟨⟨0, rfl⟩, .mk gs _ (List.getElem_mem _)⟩
abbrev s__law_pick : Stmt := topS 35
abbrev N__law_pick : List Str := ["_law_tin", "_law_goods_so", "_law_count_so", "_law_pool_so", "_law_found", "_law_lap"]
theorem sc__law_pick : FnScope N__law_pick ["_law_tin", "_law_goods_so", "_law_count_so"] (defScope s__law_pick) := ⟨rfl, rfl, rfl, by decide +kernel, rfl, by decide +kernel, by decide +kernel⟩
inductive Pr__law_pick : List T → Prop
  | mk (c : Int) (h0 : 0 ≤ c) : Pr__law_pick [lI (rng 24), .int c]
inductive R__law_pick : List T → T → Prop
  | mk (c : Int) (ms : List Int) (h : ms.Nodup) (hl : ms.length ≤ 24) (hm : ∀ i ∈ ms, 0 ≤ i ∧ i < 24) : R__law_pick [lI (rng 24), .int c] (lI ms)
theorem erase_map : ∀ (xs : List Int) (i : Nat), (xs.map T.int).eraseIdx i = (xs.eraseIdx i).map T.int
  | [], _ => rfl
  | x :: xs, 0 => rfl
  | x :: xs, i + 1 => by
    show T.int x :: (xs.map T.int).eraseIdx i = T.int x :: (xs.eraseIdx i).map T.int
    rw [erase_map xs i]
theorem erase_perm : ∀ {xs : List Int} {i : Nat} (h : i < xs.length), (xs[i] :: xs.eraseIdx i).Perm xs
  | x :: xs, 0, _ => List.Perm.refl _
  | x :: xs, i + 1, h => (List.Perm.swap x (xs[i]'(by simpa using h)) (xs.eraseIdx i)).trans (List.Perm.cons x (erase_perm (by simpa using h)))
theorem rng_nd (n : Nat) : (rng n).Nodup := (rng_pair n).imp fun h => by omega
abbrev D__law_pick (P : Program) (w : World) (K : PySem.W.Frag) (mg : Str → Option Value) (base : Heap) : Prop := Df P w K mg base "_law_pick" 2 ["_law_tin", "_law_goods_so", "_law_count_so"] (spT 99000 24 Pr__law_pick R__law_pick)
theorem ok__law_pick (F : Fun K "_law_pick" "_law_pick" s__law_pick f fd) (tx : Tx mg) (g__law_take : D__law_take P w K mg base) : FnOk P w K mg base CX0 2 f fd ["_law_tin", "_law_goods_so", "_law_count_so"] (spT 99000 24 Pr__law_pick R__law_pick) := by
  refine fn_T F sc__law_pick (fun ts h => by cases h <;> rfl) fun cdv A outer s H E hr Z0 H0 a n ts hn hP => ?_
  cases hP with
  | mk c h0 =>
    refine wpb_cons (wps_par_own 3 4 rfl sc__law_pick.nd rfl rfl (by decide) rfl rfl rfl rfl rfl rfl ?_)
    refine wpn_list tx.nList (by decide +kernel) rfl rfl ?_
    walk_at "es"
    refine ⟨true, _, rfl, fun p => ?_⟩
    refine wpn_lst ?_
    walk_at "es"
    intro q
    refine wpb_cons (wps_for PassesOwn.never rfl (tg_name 5 sc__law_pick.nd rfl (by walk_at "loc") (by walk_at "loc")) (fun _ => rfl) (wpi_range tx.nRange rfl rfl ?_))
    walk_at "es"
    obtain ⟨m, hm, hme⟩ : ∃ m : Nat, m ≤ 24 ∧ (if (((rng 24).map T.int).length : Int) < c then (((rng 24).map T.int).length : Int) else c) = (m : Int) := by
      rw [List.length_map, rng_len]
      refine ⟨(if ((24 : Nat) : Int) < c then ((24 : Nat) : Int) else c).toNat, ?_, ?_⟩ <;> split <;> omega
    rw [hme]
    refine ⟨m, rfl, by omega, ?_⟩
    refine ⟨fun i M' sl' => ∃ fs ps, (fs ++ ps).Perm (rng 24) ∧ fs.length = i ∧ M' = ⟨Z0, H0, [(q, .lst (fs.map T.int)), (p, .lst (ps.map T.int)), (a, .tin (n + i))]⟩ ∧ ∃ w, sl' = [some (.ptr a), some (lI (rng 24)), some (.int c), some (.ptr p), some (.ptr q), w], ⟨[], rng 24, List.Perm.refl _, rfl, rfl, none, rfl⟩, ?_, ?_⟩
    · rintro i M2 sl2 t ht ⟨fs, ps, hp, hf, rfl, w, rfl⟩
      obtain ⟨lap, hlap, rfl⟩ := mapget ht
      have him : i < m := by
        have := (List.getElem?_eq_some_iff.mp hlap).1
        rwa [rng_len] at this
      have hlen : fs.length + ps.length = 24 := by
        have := hp.length_eq
        rw [List.length_append, rng_len] at this
        exact this
      refine ⟨_, rfl, ?_⟩
      refine wpb_cons (wps_append 4 0 rfl rfl (Or.inl rfl) rfl rfl rfl rfl rfl rfl ?_)
      refine wp_pop 3 1 rfl rfl (Or.inl rfl) rfl rfl rfl rfl rfl ?_
      walk_at "es"
      rw [List.length_map]
      refine ⟨2, a, n + i, _, rfl, rfl, by omega, .mk _ (by omega) (by omega), fun t hR => ?_⟩
      cases hR with
      | mk _ r g0 g1 =>
        have hr2 : r.toNat < ps.length := by omega
        have hg : (ps.map T.int)[r.toNat]? = some (.int (ps[r.toNat]'hr2)) := by rw [List.getElem?_map, List.getElem?_eq_getElem hr2]; rfl
        refine ⟨_, r, _, rfl, rfl, g0, by omega, hg, ?_⟩
        refine ⟨_, rfl, by rw [List.length_map]; omega, ?_⟩
        refine wpb_nil ⟨fs ++ [ps[r.toNat]'hr2], ps.eraseIdx r.toNat, ?_, by rw [List.length_append, hf]; rfl, ?_, some (.int lap), rfl⟩
        · rw [List.append_assoc]
          refine (List.Perm.append_left fs ?_).trans hp
          exact erase_perm hr2
        · rw [List.map_append, ← erase_map]
          rfl
    · rintro M2 sl2 ⟨fs, ps, hp, hf, rfl, w, rfl⟩
      rw [List.length_map, rng_len] at hf
      refine wpb_close 4 rfl rfl ?_
      refine wpb_moreTin (j := 1) (a := a) (n' := n + 24) rfl (by rw [List.length_map, rng_len]; omega) ?_
      refine wpb_cons (wps_ret ?_)
      walk_at "es"
      have nd : (fs ++ ps).Nodup := hp.nodup_iff.mpr (rng_nd 24)
      exact ⟨⟨1, rfl⟩, .mk c fs (List.nodup_append.mp nd).1 (by omega) fun i hi => rng_mem.mp (hp.mem_iff.mp (List.mem_append_left _ hi))⟩
abbrev s__law_some_lot : Stmt := topS 44
abbrev N__law_some_lot : List Str := ["_law_tin", "_law_most_so"]
theorem sc__law_some_lot : FnScope N__law_some_lot ["_law_tin", "_law_most_so"] (defScope s__law_some_lot) := ⟨rfl, rfl, rfl, by decide +kernel, rfl, by decide +kernel, by decide +kernel⟩
inductive Pr__law_some_lot : List T → Prop
  | mk (m : Int) (h0 : 0 ≤ m) (h1 : m ≤ 1000) : Pr__law_some_lot [.int m]
inductive R__law_some_lot : List T → T → Prop
  | mk (m : Int) (xs : List Int) (h : Lot xs) : R__law_some_lot [.int m] (tI xs)
abbrev D__law_some_lot (P : Program) (w : World) (K : PySem.W.Frag) (mg : Str → Option Value) (base : Heap) : Prop := Df P w K mg base "_law_some_lot" 3 ["_law_tin", "_law_most_so"] (spT 98000 25 Pr__law_some_lot R__law_some_lot)
theorem ok__law_some_lot (F : Fun K "_law_some_lot" "_law_some_lot" s__law_some_lot f fd) (tx : Tx mg) (g__law_take : D__law_take P w K mg base) (g__law_pick : D__law_pick P w K mg base) : FnOk P w K mg base CX0 3 f fd ["_law_tin", "_law_most_so"] (spT 98000 25 Pr__law_some_lot R__law_some_lot) := by
  refine fn_T F sc__law_some_lot (fun ts h => by cases h <;> rfl) fun cdv A outer s H E hr Z0 H0 a n ts hn hP => ?_
  cases hP with
  | mk m h0 h1 =>
    refine wpb_cons (wps_ret ?_)
    refine wp_tupleC tx rfl rfl rfl (wpa_cons rfl ?_)
    refine wp_sorted tx rfl rfl rfl (wpa_cons rfl ?_)
    refine wp_callT g__law_pick (by walk_at "rm") rfl rfl rfl ?_
    refine wpa_cons rfl ?_
    walk_at "var"
    refine wpa_cons rfl ?_
    refine wp_listRg rfl rfl tx.nList rfl tx.nRange rfl rfl ?_
    refine wp_int ⟨24, rfl, by decide, ?_⟩
    refine wpa_cons rfl ?_
    refine wp_callT g__law_take (by walk_at "rm") rfl rfl rfl ?_
    walk_at "es"
    refine ⟨0, a, n, _, rfl, rfl, by omega, .mk _ (by omega) (by omega), fun t hR => ?_⟩
    cases hR with
    | mk _ r g0 g1 =>
      refine wpa_nil ?_
      refine ⟨0, a, n + 1, _, rfl, rfl, by omega, .mk r g0, fun t hR => ?_⟩
      cases hR with
      | mk _ ms hnd hl hm =>
        refine wpa_nil ?_
        refine cal_sorted (ns := ms) (ms := (rng 24).filter fun i => decide (i ∈ ms)) (by omega) (fun ns' hp hs => sort_uniq hp hs hnd (lot_filter _) fun i => ?_) ?_
        · rw [List.mem_filter]
          constructor
          · intro h
            exact ⟨rng_mem.mpr (hm i h), by simpa using h⟩
          · intro h
            simpa using h.2
        refine wpa_nil ?_
        refine cal_tupL ?_
        exact ⟨⟨0, rfl⟩, .mk m _ (lot_filter _)⟩
end

section
variable {P : Program} {w : World} {K : PySem.W.Frag} {mg : Str → Option Value} {base : Heap} {f : Addr} {fd : FuncData}
abbrev s__law_lists : Stmt := topS 36
abbrev N__law_lists : List Str := ["_law_matter", "_law_bit"]
theorem sc__law_lists : FnScope N__law_lists ["_law_matter"] (defScope s__law_lists) := ⟨rfl, rfl, rfl, by decide +kernel, rfl, by decide +kernel, by decide +kernel⟩
inductive R__law_lists0 : List T → T → Prop
  | mk (i : Int) : R__law_lists0 [.int i] (.int i)
inductive R__law_lists1 : List T → T → Prop
  | mk (xs : List Int) (h : xs.length ≤ 1000) : R__law_lists1 [tI xs] (lI xs)
inductive R__law_lists2 : List T → T → Prop
  | mk (ls : List (List Int)) (hl : ls.length ≤ 1000) (h : ∀ xs ∈ ls, xs.length ≤ 1000) : R__law_lists2 [.tup (ls.map tI)] (.lst (ls.map lI))
abbrev D__law_lists0 (P : Program) (w : World) (K : PySem.W.Frag) (mg : Str → Option Value) (base : Heap) : Prop := Df P w K mg base "_law_lists" 1 ["_law_matter"] (spR R__law_lists0)
theorem ok__law_lists0 (F : Fun K "_law_lists" "_law_lists" s__law_lists f fd) (tx : Tx mg)  : FnOk P w K mg base CX0 1 f fd ["_law_matter"] (spR R__law_lists0) := by
  refine fn_R F sc__law_lists (fun ts t h => by cases h <;> rfl) fun cdv A outer s H E hr Z0 H0 ts t hR => ?_
  refine wpb_cons (wps_ret (wp_if (wpt_val (fun _ => rfl) (wp_isi2 (c := "list") (d := "tuple") tx.nIsinstance tx.nList tx.nTuple (by decide +kernel) (by decide +kernel) rfl rfl rfl (by decide) (by decide) rfl (by decide +kernel) ?_))))
  cases hR with
  | mk i =>
    walk_at "es"
    rfl
abbrev D__law_lists1 (P : Program) (w : World) (K : PySem.W.Frag) (mg : Str → Option Value) (base : Heap) : Prop := Df P w K mg base "_law_lists" 2 ["_law_matter"] (spR R__law_lists1)
theorem ok__law_lists1 (F : Fun K "_law_lists" "_law_lists" s__law_lists f fd) (tx : Tx mg) (g : D__law_lists0 P w K mg base) : FnOk P w K mg base CX0 2 f fd ["_law_matter"] (spR R__law_lists1) := by
  refine fn_R F sc__law_lists (fun ts t h => by cases h <;> rfl) fun cdv A outer s H E hr Z0 H0 ts t hR => ?_
  refine wpb_cons (wps_ret (wp_if (wpt_val (fun _ => rfl) (wp_isi2 (c := "list") (d := "tuple") tx.nIsinstance tx.nList tx.nTuple (by decide +kernel) (by decide +kernel) rfl rfl rfl (by decide) (by decide) rfl (by decide +kernel) ?_))))
  cases hR with
  | mk xs h =>
    walk_at "es"
    try refine itecT ite_isB.2.2.2.2.1 ?_
    refine wp_lcMap (own := [("_law_bit", 1)]) xs T.int T.int rfl sc__law_lists.nd (blkOk_by rfl) (fun _ _ _ _ _ => tg_name 1 sc__law_lists.nd rfl (by walk_at "loc") (by walk_at "loc")) hsub1 (hno1 rfl) (fun _ => rfl) (by omega) (wpi_tup ?_)
    walk_at "es"
    refine ⟨rfl, fun u hu => ⟨_, rfl, ?_⟩, rfl⟩
    intro M' s2 H2 C cl fp
    skip
    walk_at "es"
    exact ⟨rfl, rfl⟩
abbrev D__law_lists2 (P : Program) (w : World) (K : PySem.W.Frag) (mg : Str → Option Value) (base : Heap) : Prop := Df P w K mg base "_law_lists" 3 ["_law_matter"] (spR R__law_lists2)
theorem ok__law_lists2 (F : Fun K "_law_lists" "_law_lists" s__law_lists f fd) (tx : Tx mg) (g : D__law_lists1 P w K mg base) : FnOk P w K mg base CX0 3 f fd ["_law_matter"] (spR R__law_lists2) := by
  refine fn_R F sc__law_lists (fun ts t h => by cases h <;> rfl) fun cdv A outer s H E hr Z0 H0 ts t hR => ?_
  refine wpb_cons (wps_ret (wp_if (wpt_val (fun _ => rfl) (wp_isi2 (c := "list") (d := "tuple") tx.nIsinstance tx.nList tx.nTuple (by decide +kernel) (by decide +kernel) rfl rfl rfl (by decide) (by decide) rfl (by decide +kernel) ?_))))
  cases hR with
  | mk ls hl h =>
    walk_at "es"
    try refine itecT ite_isB.2.2.2.2.1 ?_
    refine wp_lcMap (own := [("_law_bit", 1)]) ls tI lI rfl sc__law_lists.nd (blkOk_by rfl) (fun _ _ _ _ _ => tg_name 1 sc__law_lists.nd rfl (by walk_at "loc") (by walk_at "loc")) hsub1 (hno1 rfl) (fun _ => rfl) (by omega) (wpi_tup ?_)
    walk_at "es"
    refine ⟨rfl, fun u hu => ⟨_, rfl, ?_⟩, rfl⟩
    intro M' s2 H2 C cl fp
    have hu2 := h u hu
    walk_at "es"
    exact ⟨rfl, rfl⟩
abbrev s__law_box : Stmt := topS 31
abbrev N__law_box : List Str := ["_law_script", "_law_k", "_law_cell_so"]
theorem sc__law_box : FnScope N__law_box ["_law_script", "_law_k"] (defScope s__law_box) := ⟨rfl, rfl, rfl, by decide +kernel, rfl, by decide +kernel, by decide +kernel⟩
def absI (c : Int) : Int := if c < 0 then -c else c
def boxX (c : Int) : Int := absI c * (if decide ((10 : Int) ^ (18 : Int).toNat ≤ absI c) = true then 1 else 0)
def boxB (c : Int) : Int := c % 2305843009213693951 + 39373 * 0 + 10751
theorem absI_nn (c : Int) : 0 ≤ absI c := by
  unfold absI
  split <;> omega
theorem box_ok (c : Int) : TinOk 0 (boxX c) (boxB c) 0 := by
  refine ⟨?_, ?_, ?_, by decide, by decide⟩
  · unfold boxX
    refine Int.mul_nonneg (absI_nn c) ?_
    split <;> decide
  · unfold boxB
    omega
  · unfold boxB
    omega
inductive R__law_box : List T → T → Prop
  | mk (c : Int) : R__law_box [.lst [.int c], .int 0] (.lst [.int (boxX c), .int (boxB c), .int 0])
abbrev D__law_box (P : Program) (w : World) (K : PySem.W.Frag) (mg : Str → Option Value) (base : Heap) : Prop := Df P w K mg base "_law_box" 1 ["_law_script", "_law_k"] (spR R__law_box)
theorem ok__law_box (F : Fun K "_law_box" "_law_box" s__law_box f fd) (tx : Tx mg)  : FnOk P w K mg base CX0 1 f fd ["_law_script", "_law_k"] (spR R__law_box) := by
  refine fn_R F sc__law_box (fun ts t h => by cases h <;> rfl) fun cdv A outer s H E hr Z0 H0 ts t hR => ?_
  cases hR with
  | mk c =>
    refine wpb_cons (wps_set 2 sc__law_box.nd rfl (Or.inl rfl) rfl rfl ?_)
    walk_at "es"
    try refine itecT rfl ?_
    walk_at "es"
    refine idx_lst (by decide) rfl ?_
    refine wpb_cons (wps_ret ?_)
    walk_at "es"
    refine bin_pow ⟨by decide, by decide, by decide⟩ ?_
    walk_at "es"
    rfl
abbrev s__law_cells : Stmt := topS 33
abbrev N__law_cells : List Str := ["_law_script", "_law_most_so", "_law_cells_so", "_law_k", "_law_cell_so", "_law_at_so"]
theorem sc__law_cells : FnScope N__law_cells ["_law_script", "_law_most_so"] (defScope s__law_cells) := ⟨rfl, rfl, rfl, by decide +kernel, rfl, by decide +kernel, by decide +kernel⟩
def spC (K : PySem.W.Frag) : Sp := fun vs H Q _ => ∃ (Z : Addr → Prop) (a : Addr) (ns : List Int), (∀ b, Z b → H b ≠ none) ∧ vs = [.ref a, .int 1] ∧ SqL K H a (ns.map V.int) ∧ ns.length ≤ 63 ∧ ∀ c v H', Same H H' → Rd Z H' (.lst [.int c]) v → Q v H'
theorem wpo_none {X : Cx} {M : Mo} {sl : Sl} {k : Mo → Option Int → Prop} (h : k M none) : WpO X M none sl k := h
theorem wpo_some {X : Cx} {M : Mo} {sl : Sl} {e : Expr} {k : Mo → Option Int → Prop} (h : Wp X M e sl fun M1 t => ∃ i, t = .int i ∧ k M1 (some i)) : WpO X M (some e) sl k := h
theorem cut1 : ∀ ns : List Int, cutT ns none (some 1) = ns.take 1
  | [] => rfl
  | x :: r => by
    unfold cutT
    have e := HT.sIx_nat (x :: r).length (x :: r).length 1
    have e2 : HT.sIx (x :: r).length (x :: r).length (some (1 : Int)) = min 1 (x :: r).length := e
    rw [e2, HT.sIx_none, List.drop_zero]
    have : min 1 (x :: r).length - 0 = 1 := by simp
    rw [this]
theorem cut_len {α : Type} (xs : List α) (lo hi : Option Int) : (cutT xs lo hi).length ≤ xs.length := by
  unfold cutT
  rw [List.length_take, List.length_drop]
  omega
theorem ok__law_cells (F : Fun K "_law_cells" "_law_cells" s__law_cells f fd) (tx : Tx mg) : FnOk P w K mg base CX0 1 f fd ["_law_script", "_law_most_so"] (spC K) := by
  refine F.ok sc__law_cells (fun vs H Q E h => by obtain ⟨Z, a, ns, _, rfl, _⟩ := h; rfl) fun cdv A outer s H vs Q E hr h => ?_
  obtain ⟨Z, a, ns, dom, rfl, hS, hl, q⟩ := h
  have hs : ∀ H', (Mo.mk (fun b => Z b ∨ (b = a ∧ H a ≠ none)) H []).Ok H' → SqL K H' a (ns.map V.int) := fun H' o => by
    rcases hS with hS | hS
    · by_cases hn : H a = none
      · rcases hS with e | ⟨o', e⟩ <;> rw [hn] at e <;> cases e
      · have e := (o.base a (.inr ⟨rfl, hn⟩)).1
        refine .inl ?_
        rcases hS with e2 | ⟨o', e2⟩
        · exact .inl (e.trans e2)
        · exact .inr ⟨o', e.trans e2⟩
    · exact .inr hS
  refine ⟨_, pss_tW, ?_⟩
  have body : WpB (cxOf CX0 P w K mg base N__law_cells "_law_cells" (defScope s__law_cells) f cdv A outer s H E).nox ⟨fun b => Z b ∨ (b = a ∧ H a ≠ none), H, []⟩ (defBody s__law_cells) (slots N__law_cells [.ptr a, .int 1]) { nx := fun _ _ => False, rt := fun _ u => ∃ c, u = .lst [.int c] } := by
    refine wpb_cons (wps_own 2 sc__law_cells.nd rfl (Or.inl rfl) rfl rfl (wpn_orT (wpn_list tx.nList (by decide +kernel) rfl rfl (wp_slice ?_))))
    walk_at "es"
    refine wpo_none (wpo_some ?_)
    walk_at "es"
    refine sli_ptr hs ?_
    refine ⟨true, _, rfl, ?_⟩
    rw [cut1]
    have main : ∀ (c0 : Int) (p : Addr), WpB (cxOf CX0 P w K mg base N__law_cells "_law_cells" (defScope s__law_cells) f cdv A outer s H E).nox ⟨fun b => Z b ∨ (b = a ∧ H a ≠ none), H, [(p, .lst [.int c0])]⟩ (defBody s__law_cells).tail [some (.ptr a), some (.int 1), some (.ptr p), none, none, none] { nx := fun _ _ => False, rt := fun _ u => ∃ c, u = .lst [.int c] } := fun c0 p => by
      have hs2 : ∀ (c : Int) H', (Mo.mk (fun b => Z b ∨ (b = a ∧ H a ≠ none)) H [(p, .lst [.int c])]).Ok H' → SqL K H' a (ns.map V.int) := fun c H' o => hs H' ⟨o.base, List.nodup_nil, fun p m => absurd m (by simp)⟩
      refine wpb_cons (wps_for PassesOwn.never rfl (tg_pair 3 4 rfl sc__law_cells.nd rfl rfl (by walk_at "loc") (by walk_at "loc") (by walk_at "loc") (by walk_at "loc")) (fun _ => rfl) (wpi_enumL tx.nEnumerate rfl rfl (wp_slice ?_)))
      walk_at "es"
      refine wpo_some ?_
      walk_at "es"
      refine wpo_some ?_
      walk_at "es"
      refine sli_ptr (hs2 c0) ⟨_, rfl, ?_⟩
      have hcl := cut_len ns (some 1) (some 63)
      refine ⟨fun i M' sl' => ∃ c, M' = ⟨fun b => Z b ∨ (b = a ∧ H a ≠ none), H, [(p, .lst [.int c])]⟩ ∧ ∃ w3 w4 w5, sl' = [some (.ptr a), some (.int 1), some (.ptr p), w3, w4, w5], ⟨c0, rfl, none, none, none, rfl⟩, ?_, ?_⟩
      · rintro i M2 sl2 t ht ⟨c, rfl, w3, w4, w5, rfl⟩
        obtain ⟨t, ht2, rfl⟩ := enT_inv ht
        obtain ⟨z, hz, rfl⟩ := mapget ht2
        have hi : i < 63 := by
          have := (List.getElem?_eq_some_iff.mp hz).1
          omega
        rw [Nat.zero_add]
        have e0 : ((i : Nat) : Int) % 1 = 0 := Int.emod_one _
        refine ⟨_, rfl, ?_⟩
        refine wpb_cons (wps_set 5 sc__law_cells.nd rfl (Or.inl rfl) rfl rfl ?_)
        walk_at "es"
        rw [e0]
        refine wpb_cons (wps_setItem 2 0 rfl rfl (Or.inl rfl) (fun v => rfl) rfl rfl rfl ?_)
        walk_at "es"
        refine ⟨_, _, rfl, rfl, by decide, by simp, ?_⟩
        exact wpb_nil ⟨_, rfl, _, _, _, rfl⟩
      · rintro M2 sl2 ⟨c, rfl, w3, w4, w5, rfl⟩
        refine wpb_close 2 rfl rfl ?_
        refine wpb_cons (wps_ret ?_)
        walk_at "es"
        exact ⟨_, rfl⟩
    cases ns with
    | nil =>
      refine iteT (wpn_one (wpn_lst ?_))
      walk_at "es"
      exact fun p => main 0 p
    | cons x r =>
      refine iteF fun p => main x p
  refine body (L2.start N__law_cells [.ref a, .int 1]) H _ ⟨fun b z => ⟨rfl, ?_⟩, List.nodup_nil, fun p m => absurd m (by simp)⟩ (slots_ok (Rds.cons (Rd.ptr_iff.mpr rfl) (Rds.one (Rd.int_iff.mpr rfl)))) ⟨fun σ' H' M' sl' _ _ _ h => h.elim, fun v H2 M2 t' f2 o2 r2 e2 => ?_, fun σ' H' M' sl' _ _ _ h => h.elim, fun σ' H' M' sl' _ _ _ h => h.elim, fun n d M' H' _ _ h => h.elim⟩
  · rcases z with z | ⟨rfl, z⟩
    · exact dom b z
    · exact z
  · obtain ⟨c, rfl⟩ := e2
    refine q c v H2 (fun b u e => f2.keptAll (Z := fun b => Z b ∨ (b = a ∧ H a ≠ none)) o2 (fun b z => z) rfl e fun z => ?_) (r2.weak fun b z => .inl (by rw [f2.z0]; exact .inl z))
    rcases Z_iff.mp z with z | z
    · exact z
    · exact absurd z (by simp)
end

/-! drawn and read back -/
def rowB (bs : List Bool) : Str := Txt.join "" (bs.map fun b => if b = true then ("#" : Str) else ".")
theorem rowB_ok : ∀ b0 b1 b2 b3 b4 b5 : Bool, goodLine (rowB [b0, b1, b2, b3, b4, b5]) = true ∧ (rowB [b0, b1, b2, b3, b4, b5]).length = 6 ∧
    (rowB [b0, b1, b2, b3, b4, b5]).cps.toList = [b0, b1, b2, b3, b4, b5].map fun b => if b = true then 35 else 46 := by decide +kernel
def bitsOf (xs : List Int) (l : Int) : List Bool := (rng 6).map fun c => decide (4 * c + l ∈ xs)
theorem bits6 (xs : List Int) (l : Int) : ∃ b0 b1 b2 b3 b4 b5, bitsOf xs l = [b0, b1, b2, b3, b4, b5] := by
  unfold bitsOf
  rw [rng6]
  exact ⟨_, _, _, _, _, _, rfl⟩
theorem rowS_B (xs : List Int) (l : Int) : rowS xs l = rowB (bitsOf xs l) := by
  unfold rowS rowB bitsOf
  rw [List.map_map]
  rfl
theorem row_ok (xs : List Int) (l : Int) : goodLine (rowS xs l) = true ∧ (rowS xs l).length = 6 ∧ (rowS xs l).cps.toList = (bitsOf xs l).map fun b => if b = true then 35 else 46 := by
  obtain ⟨b0, b1, b2, b3, b4, b5, e⟩ := bits6 xs l
  rw [rowS_B, e]
  exact rowB_ok b0 b1 b2 b3 b4 b5
theorem draw_get (xs : List Int) {l : Nat} (h : l < 4) : (drawS xs)[l]? = some (rowS xs (l : Int)) := by
  unfold drawS
  rw [List.getElem?_map, rng_get h]
  rfl
theorem draw_len (xs : List Int) : (drawS xs).length = 4 := by
  unfold drawS
  rw [List.length_map, rng_len]
theorem draw_mem {xs : List Int} {z : Str} (h : z ∈ drawS xs) : z.length = 6 ∧ goodLine z = true := by
  obtain ⟨l, _, rfl⟩ := List.mem_map.mp h
  exact ⟨(row_ok xs l).2.1, (row_ok xs l).1⟩
theorem draw_strs (xs : List Int) : Strs (drawS xs) := ⟨by rw [draw_len]; decide, fun z hz => by rw [(draw_mem hz).1]; decide⟩
theorem draw_fb (xs : List Int) : fb (drawS xs) = none := by
  have hn : (rng 4).find? (badAt (drawS xs)) = none := List.find?_eq_none.mpr fun l hl => by
    obtain ⟨h0, h1⟩ := rng_mem.mp hl
    have hl4 : l.toNat < 4 := by omega
    have hg := draw_get xs hl4
    unfold badAt
    rw [draw_len, List.getD_eq_getElem?_getD, hg]
    have e1 : decide (((4 : Nat) : Int) ≤ l) = false := decide_eq_false (by omega)
    rw [e1, Option.getD_some, (row_ok xs _).1]
    decide
  unfold fb
  rw [hn, draw_len]
  rfl
theorem sign_eq (b : Bool) : decide ((⟨#[if b = true then 35 else 46]⟩ : Str) = "#") = b := by cases b <;> decide
theorem draw_mark (xs : List Int) {i : Int} (h0 : 0 ≤ i) (h1 : i < 24) : markAt (drawS xs) i = decide (i ∈ xs) := by
  unfold markAt
  rw [draw_get xs (show (i % 4).toNat < 4 by omega)]
  dsimp only
  rw [(row_ok xs _).2.2]
  unfold bitsOf
  rw [List.getElem?_map, List.getElem?_map, rng_get (show (i / 4).toNat < 6 by omega)]
  dsimp only [Option.map]
  rw [sign_eq]
  have e : 4 * ((i / 4).toNat : Int) + ((i % 4).toNat : Int) = i := by omega
  rw [e]
theorem read_draw {xs : List Int} (h : Lot xs) : readS (drawS xs) = xs := by
  unfold readS
  have e : (rng 24).filter (fun i => markAt (drawS xs) i) = (rng 24).filter fun i => decide (i ∈ xs) := List.filter_congr fun i hi => by
    obtain ⟨h0, h1⟩ := rng_mem.mp hi
    exact draw_mark xs h0 h1
  rw [e]
  exact h.symm
/-! half the lots burn on top -/
def topI (o : List Int) : Int := ((o.filter fun i => decide (i % 4 = 0)).length : Int) % 2
theorem ways_half : ∀ s : Fin 4, ∀ p : Fin 2, ∃ x y, ways s.val p.val = [x, y] ∧ ((x.filter fun i => decide (i = 0)).length + (y.filter fun i => decide (i = 0)).length) % 2 = 1 ∧ ∀ l ∈ x ++ y, 0 ≤ l ∧ l < 4 := by
  intro s p
  have h : ∀ s : Fin 4, ∀ p : Fin 2, (match ways s.val p.val with | [x, y] => decide (((x.filter fun i => decide (i = 0)).length + (y.filter fun i => decide (i = 0)).length) % 2 = 1) && (x ++ y).all (fun l => decide (0 ≤ l ∧ l < 4)) | _ => false) = true := by decide +kernel
  have := h s p
  split at this
  · rename_i x y e
    obtain ⟨h1, h2⟩ := Bool.and_eq_true_iff.mp this
    exact ⟨x, y, e, of_decide_eq_true h1, fun l hl => of_decide_eq_true (List.all_eq_true.mp h2 l hl)⟩
  · cases this
theorem lam_count (c : Int) : ∀ ls : List Int, (∀ l ∈ ls, 0 ≤ l ∧ l < 4) → ((ls.map fun l => 4 * c + l).filter fun i => decide (i % 4 = 0)).length = (ls.filter fun i => decide (i = 0)).length
  | [], _ => rfl
  | l :: ls, h => by
    have ih := lam_count c ls fun x hx => h x (List.mem_cons_of_mem _ hx)
    obtain ⟨h0, h1⟩ := h l List.mem_cons_self
    rw [List.map_cons, List.filter_cons, List.filter_cons]
    by_cases e : l = 0
    · subst e
      rw [if_pos (by simp), if_pos (by simp), List.length_cons, List.length_cons, ih]
    · rw [if_neg (by simp; omega), if_neg (by simpa using e), ih]
theorem top_app (c : Int) (o ls : List Int) (h : ∀ l ∈ ls, 0 ≤ l ∧ l < 4) : topI (o ++ ls.map fun l => 4 * c + l) = (topI o + ((ls.filter fun i => decide (i = 0)).length : Int)) % 2 := by
  unfold topI
  rw [List.filter_append, List.length_append, lam_count c ls h]
  omega
theorem sum_two (c : Int) (x y : List Int) (hxy : ((x.filter fun i => decide (i = 0)).length + (y.filter fun i => decide (i = 0)).length) % 2 = 1) (hx : ∀ l ∈ x ++ y, 0 ≤ l ∧ l < 4) : ∀ f : List (List Int),
    ((f.map fun o => topI (o ++ x.map fun l => 4 * c + l)).sum + (f.map fun o => topI (o ++ y.map fun l => 4 * c + l)).sum) = (f.length : Int)
  | [] => rfl
  | o :: f => by
    have ih := sum_two c x y hxy hx f
    rw [List.map_cons, List.map_cons, List.sum_cons, List.sum_cons, List.length_cons]
    rw [top_app c o x fun l hl => hx l (List.mem_append_left _ hl), top_app c o y fun l hl => hx l (List.mem_append_right _ hl)]
    have ht : topI o = 0 ∨ topI o = 1 := by unfold topI; omega
    omega
theorem step_half {c s p : Int} (h0 : 0 ≤ s) (h1 : s < 4) (g0 : 0 ≤ p) (g1 : p < 2) (f : List (List Int)) : ((stepL c s p f).map topI).sum * 2 = ((stepL c s p f).length : Int) := by
  obtain ⟨x, y, e, hxy, hx⟩ := ways_half ⟨s.toNat, by omega⟩ ⟨p.toNat, by omega⟩
  have e1 : ((s.toNat : Nat) : Int) = s := by omega
  have e2 : ((p.toNat : Nat) : Int) = p := by omega
  simp only [e1, e2] at e
  have := sum_two c x y hxy hx f
  unfold stepL
  rw [e]
  simp only [List.map_cons, List.map_nil, List.flatten_cons, List.flatten_nil, List.append_nil, List.map_append, List.sum_append, List.map_map, List.length_append, List.length_map]
  have ec : (topI ∘ fun o => o ++ List.map (fun l => 4 * c + l) x) = fun o => topI (o ++ x.map fun l => 4 * c + l) := rfl
  have ed : (topI ∘ fun o => o ++ List.map (fun l => 4 * c + l) y) = fun o => topI (o ++ y.map fun l => 4 * c + l) := rfl
  rw [ec, ed]
  omega
theorem lw_last (p : Int) : ∀ (row : List Int) (c : Int) (f : List (List Int)) (s : Int), lw p c (row ++ [s]) f = stepL (c + row.length) s p (lw p c row f)
  | [], c, f, s => by
    show stepL c s p f = stepL (c + ((0 : Nat) : Int)) s p f
    simp
  | r :: row, c, f, s => by
    show lw p (c + 1) (row ++ [s]) (stepL c r p f) = _
    rw [lw_last p row (c + 1) _ s]
    have e : c + 1 + (row.length : Int) = c + ((r :: row).length : Int) := by
      rw [List.length_cons]
      omega
    rw [e]
    rfl
theorem lw_half {row : List Int} {p : Int} (hr : Row row) (g0 : 0 ≤ p) (g1 : p < 2) : ((lw p 0 row [[]]).map topI).sum * 2 = ((lw p 0 row [[]]).length : Int) := by
  have hne : row ≠ [] := fun e => by
    have := hr.1
    rw [e] at this
    simp at this
  have e := List.dropLast_concat_getLast hne
  have hs := hr.2 (row.getLast hne) (List.getLast_mem hne)
  rw [← e, lw_last]
  exact step_half hs.1 hs.2 g0 g1 _
theorem lw_stand {row : List Int} {p : Int} (hr : Row row) (g0 : 0 ≤ p) (g1 : p < 2) : ∀ i, i ≤ 6 → ∃ f, LwOk row p i f
  | 0, _ => ⟨_, LwOk.zero⟩
  | i + 1, h => by
    obtain ⟨f, hf⟩ := lw_stand hr g0 g1 i (by omega)
    have hs : row[i]? = some (row[i]'(by rw [hr.1]; omega)) := List.getElem?_eq_getElem _
    have h2 := hr.2 _ (List.mem_of_getElem? hs)
    exact ⟨_, hf.step hs h2.1 h2.2 g0 g1⟩
theorem lw_bound {row : List Int} {p : Int} (hr : Row row) (g0 : 0 ≤ p) (g1 : p < 2) : (lw p 0 row [[]]).length ≤ 64 ∧ ∀ o ∈ lw p 0 row [[]], o.length ≤ 24 := by
  obtain ⟨f, hf⟩ := lw_stand hr g0 g1 6 (Nat.le_refl _)
  rw [← hf.done hr.1.symm]
  exact ⟨hf.card, hf.len⟩

theorem same_of {d : Nat} {g t : T} (e : g = t) (h : Good d t) : R__law_same d [g, t] (.bl true) := by
  subst e
  exact .mk _ h
theorem wp_ifJ {X : Cx} {M : Mo} {sl : Sl} {k : KT} {pos : Pos} {c a b : Expr} (ta tb : T) (h : WpT X M c sl fun M1 d => Wp X M1 a sl (fun M2 t => M2 = M1 ∧ t = ta) ∧ Wp X M1 b sl (fun M2 t => M2 = M1 ∧ t = tb) ∧ k M1 (if d = true then ta else tb)) : Wp X M (.IfExp c a b pos) sl k :=
  wp_if fun σ H Q o s e => h σ H Q o s fun d H1 M1 f1 o1 ⟨h1, h2, h3⟩ => e d H1 M1 f1 o1 (by
    cases d with
    | true =>
      refine iteT (h1.imp fun M2 t ⟨e1, e2⟩ => ?_)
      rw [e1, e2]
      exact h3
    | false =>
      refine iteF (h2.imp fun M2 t ⟨e1, e2⟩ => ?_)
      rw [e1, e2]
      exact h3)
theorem good_int (d : Nat) (i : Int) : Good d (.int i) := Good.up rfl
theorem good_bl (d : Nat) (i : Bool) : Good d (.bl i) := Good.up rfl
theorem good_str (d : Nat) {z : Str} (h : z.length ≤ 1000) : Good d (.str z) := Good.up (decide_eq_true h)
theorem good_lst {d : Nat} {ts : List T} (hl : ts.length ≤ 50000) (h : ∀ u ∈ ts, Good d u) : Good (d + 1) (.lst ts) := .inr ⟨true, ts, rfl, hl, h⟩
theorem good_tup {d : Nat} {ts : List T} (hl : ts.length ≤ 50000) (h : ∀ u ∈ ts, Good d u) : Good (d + 1) (.tup ts) := .inr ⟨false, ts, rfl, hl, h⟩
theorem good_map {α : Type} {d : Nat} {xs : List α} {g : α → T} (h : ∀ a ∈ xs, Good d (g a)) : ∀ u ∈ xs.map g, Good d u := fun u hu => by
  obtain ⟨a, ha, rfl⟩ := List.mem_map.mp hu
  exact h a ha
theorem good_nil {d : Nat} : ∀ u ∈ ([] : List T), Good d u := fun u hu => absurd hu (by simp)
theorem good_cons {d : Nat} {t : T} {ts : List T} (h : Good d t) (g : ∀ u ∈ ts, Good d u) : ∀ u ∈ t :: ts, Good d u := fun u hu => by
  rcases List.mem_cons.mp hu with e | hu
  · rw [e]
    exact h
  · exact g u hu
theorem good_app {d : Nat} {ts us : List T} (h : ∀ u ∈ ts, Good d u) (g : ∀ u ∈ us, Good d u) : ∀ u ∈ ts ++ us, Good d u := fun u hu => by
  rcases List.mem_append.mp hu with hu | hu
  · exact h u hu
  · exact g u hu
theorem good_tI {d : Nat} {xs : List Int} (h : xs.length ≤ 50000) : Good (d + 1) (tI xs) := good_tup (by rw [List.length_map]; exact h) (good_map fun a _ => good_int d a)
theorem Good.mono : ∀ {d e : Nat} {t : T}, d ≤ e → Good d t → Good e t
  | 0, _, _, _, h => Good.up h
  | d + 1, 0, _, hle, _ => absurd hle (by omega)
  | d + 1, e + 1, t, hle, h => by
    rcases h with h | ⟨b, ts, rfl, hl, hh⟩
    · exact .inl h
    · exact .inr ⟨b, ts, rfl, hl, fun u hu => Good.mono (by omega) (hh u hu)⟩
/-- a comprehension over 0 .. n - 1 whose element draws once: tin is the only thing owned -/
theorem wp_lcDraw {X : Cx} {M : Mo} {sl : Sl} {k : KT} {pos : Pos} {tg elt iter : Expr} {scope : Scope} {own : List (Str × Nat)} {f : Sl → T → Option Sl} {is : List Nat} {a : Addr} {n m : Nat} {C : Int → Prop} (hM : M.os = [(a, .tin n)]) (hc : X.calm = true) (hN : X.N.Nodup) (ok : BlkOk X.N X.env.scope scope own)
    (htg : ∀ (s : Shared) (H : Hp) (C : Addr) (cl : List (Str × Addr)) (fp : List Addr), TgOk (X.blk s H scope (compEnvC scope cl C X.env) fp) tg f is)
    (hsub : ∀ i ∈ is, i ∈ own.map (·.2)) (hno : ∀ i ∈ own.map (·.2), sl[i]? = some none ∨ sl[i]? = none) (hs : ∀ x, foldedSetIterable iter X.env x = pure x) (hm : m ≤ 1000)
    (h : WpI X M tg iter sl fun M1 ts => M1 = M ∧ ts = (rng m).map T.int ∧ (∀ i, i < m → ∃ sl3, f sl (.int (i : Int)) = some sl3 ∧ ∀ D acc, WpX X scope ⟨M.Z0, M.H0, [(D, .lst acc), (a, .tin (n + i))]⟩ elt sl3 fun M4 y => M4 = ⟨M.Z0, M.H0, [(D, .lst acc), (a, .tin (n + i + 1))]⟩ ∧ ∃ z, y = .int z ∧ C z) ∧
      ∀ zs : List Int, zs.length = m → (∀ z ∈ zs, C z) → k ⟨M.Z0, M.H0, [(a, .tin (n + m))]⟩ (.lst (zs.map T.int))) : Wp X M (.ListComp elt [⟨tg, iter, [], 0⟩] scope pos) sl k :=
  wp_lc hc hN ok htg hsub hno hs fun σ H R o s e' => h σ H R o s fun J H1 M1 ts P f1 o1 src p1 ⟨hM1, h1, h2, h3⟩ => e' J H1 M1 ts P f1 o1 src p1 (by
    subst h1
    refine ⟨fun i M2 acc => M2 = ⟨M.Z0, M.H0, [(a, .tin (n + i))]⟩ ∧ ∃ zs : List Int, zs.length = i ∧ (∀ z ∈ zs, C z) ∧ acc = zs.map T.int, ⟨?_, [], rfl, fun z hz => absurd hz (by simp), rfl⟩, ?_, ?_⟩
    · rw [hM1]
      obtain ⟨Z, Hh, os⟩ := M
      simp only at hM
      rw [hM]
      rfl
    · rintro i M2 acc t ht ⟨e1, zs, hl, hz, e2⟩ D
      subst e1 e2
      obtain ⟨x, hx, rfl⟩ := mapget ht
      have hi : i < m := by
        have := (List.getElem?_eq_some_iff.mp hx).1
        rwa [rng_len] at this
      rw [rng_get hi] at hx
      cases hx
      obtain ⟨sl3, h4, w⟩ := h2 i hi
      refine ⟨sl3, h4, fun a1 a2 a3 a4 a5 => wpts_nil ?_⟩
      show WpX X scope _ elt sl3 _
      intro b1 b2 b3 b4 b5
      refine (w D (zs.map T.int) b1 b2 b3 b4 b5).imp fun M4 y ⟨h5, z, h6, h7⟩ => ?_
      refine ⟨⟨M.Z0, M.H0, [(a, .tin (n + i + 1))]⟩, h5, by rw [List.length_map]; omega, rfl, zs ++ [z], by rw [List.length_append, hl]; rfl, fun u hu => ?_, ?_⟩
      · rcases List.mem_append.mp hu with hu | hu
        · exact hz u hu
        · have : u = z := by simpa using hu
          rw [this]
          exact h7
      · rw [List.map_append, h6]
        rfl
    · rintro M2 acc ⟨e1, zs, hl, hz, e2⟩
      rw [List.length_map, rng_len] at e1 hl
      subst e1 e2
      exact h3 zs hl hz)
inductive Pr_nil : List T → Prop
  | mk : Pr_nil []
inductive R_true : List T → T → Prop
  | mk : R_true [] (.bl true)
theorem par_len {xs : List Int} (h : Lot xs) : xs.length ≤ 1000 := Nat.le_trans h.len (by decide)

section
variable {P : Program} {w : World} {K : PySem.W.Frag} {mg : Str → Option Value} {base : Heap} {f : Addr} {fd : FuncData}
abbrev s__law_lot_right : Stmt := topS 51
abbrev N__law_lot_right : List Str := ["_law_tin", "_law_one", "_law_two", "_law_three", "_law_both_so", "_law_many_so", "_law_got", "_law_due", "_law_own", "_law_k", "_law_lot_so"]
theorem sc__law_lot_right : FnScope N__law_lot_right ["_law_tin"] (defScope s__law_lot_right) := ⟨rfl, rfl, rfl, by decide +kernel, rfl, by decide +kernel, by decide +kernel⟩
abbrev Pr__law_lot_right := Pr_nil
abbrev R__law_lot_right := R_true
theorem rep_flat {xs : List Int} : ∀ m : Nat, (List.replicate m [tI xs]).flatten = (List.replicate m (false, xs)).map lotT
  | 0 => rfl
  | m + 1 => by
    rw [List.replicate_succ, List.replicate_succ, List.flatten_cons, List.map_cons, rep_flat m]
    rfl
abbrev D__law_lot_right (P : Program) (w : World) (K : PySem.W.Frag) (mg : Str → Option Value) (base : Heap) : Prop := Df P w K mg base "_law_lot_right" 7 ["_law_tin"] (spT 90000 76 Pr__law_lot_right R__law_lot_right)
theorem ok__law_lot_right (F : Fun K "_law_lot_right" "_law_lot_right" s__law_lot_right f fd) (tx : Tx mg) (g__law_some_lot : D__law_some_lot P w K mg base) (g__law_take : D__law_take P w K mg base) (g__law_lot_sum : D__law_lot_sum P w K mg base) (g_lot_sum : D_lot_sum P w K mg base) (g__law_lists2 : D__law_lists2 P w K mg base) (g_column_lamps : D_column_lamps P w K mg base) (g_column_signs : D_column_signs P w K mg base) (g_parities : D_parities P w K mg base) (g__law_signs_of : D__law_signs_of P w K mg base) (g__law_parities : D__law_parities P w K mg base) (g_drawn : D_drawn P w K mg base) (g__law_drawn : D__law_drawn P w K mg base) (g__law_heard : D__law_heard P w K mg base) (g__law_same : D__law_same 3 P w K mg base) : FnOk P w K mg base CX0 7 f fd ["_law_tin"] (spT 90000 76 Pr__law_lot_right R__law_lot_right) := by
  refine fn_T F sc__law_lot_right (fun ts h => by cases h <;> rfl) fun cdv A outer s H E hr Z0 H0 a n ts hn hP => ?_
  cases hP with
  | mk =>
    refine wpb_cons (wps_par3 1 2 3 rfl sc__law_lot_right.nd rfl rfl rfl (by decide) (by decide) (by decide) rfl rfl rfl rfl rfl ?_)
    refine wpa_cons rfl ?_
    refine wp_callT g__law_some_lot (by walk_at "rm") rfl rfl rfl ?_
    walk_at "es"
    refine ⟨0, a, n, _, rfl, rfl, by omega, .mk _ (by decide) (by decide), fun t hR => ?_⟩
    obtain ⟨A1, hA1, rfl⟩ : ∃ xs, Lot xs ∧ t = tI xs := by
      cases hR with
      | mk _ xs h => exact ⟨xs, h, rfl⟩
    refine wpa_cons rfl ?_
    refine wp_callT g__law_some_lot (by walk_at "rm") rfl rfl rfl ?_
    walk_at "es"
    refine ⟨0, a, n + 25, _, rfl, rfl, by omega, .mk _ (by decide) (by decide), fun t hR => ?_⟩
    obtain ⟨B1, hB1, rfl⟩ : ∃ xs, Lot xs ∧ t = tI xs := by
      cases hR with
      | mk _ xs h => exact ⟨xs, h, rfl⟩
    refine wpa_cons rfl ?_
    refine wp_callT g__law_some_lot (by walk_at "rm") rfl rfl rfl ?_
    walk_at "es"
    refine ⟨0, a, n + 25 + 25, _, rfl, rfl, by omega, .mk _ (by decide) (by decide), fun t hR => ?_⟩
    obtain ⟨C1, hC1, rfl⟩ : ∃ xs, Lot xs ∧ t = tI xs := by
      cases hR with
      | mk _ xs h => exact ⟨xs, h, rfl⟩
    refine wpa_nil ⟨_, _, _, rfl, ?_⟩
    refine wpb_cons (wps_par 4 5 rfl sc__law_lot_right.nd rfl rfl (by decide) rfl rfl rfl rfl ?_)
    walk_at "es"
    refine ⟨0, a, n + 25 + 25 + 25, _, rfl, rfl, by omega, .mk _ (by decide) (by decide), fun t hR => ?_⟩
    obtain ⟨r, r0, r1, rfl⟩ : ∃ r : Int, 0 ≤ r ∧ r < 4 ∧ t = .int r := by
      cases hR with
      | mk _ r g0 g1 => exact ⟨r, g0, g1, rfl⟩
    walk_at "es"
    refine ⟨_, _, rfl, ?_⟩
    have lA := hA1.len
    have lB := hB1.len
    have hS := symd_lot A1 B1
    have lS := hS.len
    have pA := par_len hA1
    have pB := par_len hB1
    have pS := par_len hS
    have zA := draw_strs A1
    have zB := draw_strs B1
    have fA := draw_fb A1
    have fB := draw_fb B1
    refine wpb_cons (wps_set 6 sc__law_lot_right.nd rfl (Or.inl rfl) rfl rfl ?_)
    refine wp_lst ?_
    walk_at "es"
    refine ⟨_, R_lot_sum.mkT [(false, A1), (false, B1)] (by simp [hA1, hB1]), ?_⟩
    walk_at "es"
    refine ⟨_, R__law_lists2.mk [B1, A1, C1] (by simp) (by simp [par_len hA1, par_len hB1, par_len hC1]), ?_⟩
    walk_at "es"
    refine ⟨_, R_lot_sum.mkL [(true, B1), (true, A1), (true, C1)] (by simp [hA1, hB1, hC1]), ?_⟩
    walk_at "es"
    refine bin_repT (by omega) (by omega) (by simp) (by simp) ?_
    rw [rep_flat]
    walk_at "es"
    refine ⟨_, R_lot_sum.mkT (List.replicate (1 + r).toNat (false, A1)) (fun p hp => by rw [(List.mem_replicate.mp hp).2]; exact hA1), ?_⟩
    walk_at "es"
    refine wpb_cons (wps_set 7 sc__law_lot_right.nd rfl (Or.inl rfl) rfl rfl ?_)
    refine wp_lst (wpa_cons rfl ?_)
    walk_at "var"
    refine wpa_cons rfl ?_
    refine wp_call g__law_lot_sum (by walk_at "rm") rfl rfl rfl (wpa_cons rfl ?_)
    walk_at "var"
    refine wpa_cons rfl ?_
    walk_at "var"
    refine wpa_nil ⟨_, R__law_lot_sum.mk _ _, ?_⟩
    refine wpa_cons rfl ?_
    refine wp_ifJ (tI A1) (.tup []) ?_
    walk_at "es"
    refine bin_inT (ns := [1, 3]) ?_
    walk_at "es"
    refine ⟨?_, ?_, ?_⟩
    · walk_at "es"
      exact ⟨rfl, rfl⟩
    · walk_at "es"
      exact ⟨rfl, rfl⟩
    walk_at "es"
    refine wpb_cons (wps_set 6 sc__law_lot_right.nd rfl (Or.inl rfl) rfl rfl ?_)
    walk_at "es"
    refine wp_lcMap (own := [("_law_own", 8)]) [(false, A1), (true, B1)] lotT (fun p => T.lst ((rng 6).map fun c => tI (p.2.filter fun i => decide (i / 4 = c)))) rfl sc__law_lot_right.nd (blkOk_by rfl) (fun _ _ _ _ _ => tg_name 8 sc__law_lot_right.nd rfl (by walk_at "loc") (by walk_at "loc")) hsub1 (hno1 rfl) (fun _ => rfl) (by simp) (wpi_tup ?_)
    walk_at "es"
    refine ⟨rfl, fun p hp => ⟨_, rfl, ?_⟩, ?_⟩
    · intro M' s2 H2 C cl fp
      have hp2 : p.2.length ≤ 1000 := by
        simp only [List.mem_cons, List.not_mem_nil, or_false] at hp
        rcases hp with rfl | rfl
        · exact pA
        · exact pB
      refine wp_lcMap (own := [("_law_k", 9)]) (rng 6) T.int (fun c => tI (p.2.filter fun i => decide (i / 4 = c))) rfl sc__law_lot_right.nd (blkOk_by rfl) (fun _ _ _ _ _ => tg_name 9 sc__law_lot_right.nd rfl (by walk_at "loc") (by walk_at "loc")) hsub1 (hno1 rfl) (fun _ => rfl) (by decide) (wpi_range tx.nRange rfl rfl ?_)
      walk_at "es"
      refine ⟨rfl, fun c hc => ⟨_, rfl, ?_⟩, ⟨rfl, rfl⟩⟩
      intro M' s2 H2 C cl fp
      walk_at "es"
      exact ⟨rfl, rfl⟩
    walk_at "es"
    refine wpb_cons (wps_set 7 sc__law_lot_right.nd rfl (Or.inl rfl) rfl rfl ?_)
    walk_at "es"
    refine wp_lcMap (own := [("_law_lot_so", 10)]) [A1, B1] tI (fun xs => T.lst ((rng 6).map fun c => tI (xs.filter fun i => decide (i / 4 = c)))) rfl sc__law_lot_right.nd (blkOk_by rfl) (fun _ _ _ _ _ => tg_name 10 sc__law_lot_right.nd rfl (by walk_at "loc") (by walk_at "loc")) hsub1 (hno1 rfl) (fun _ => rfl) (by simp) (wpi_tup ?_)
    walk_at "es"
    refine ⟨rfl, fun xs hp => ⟨_, rfl, ?_⟩, ?_⟩
    · intro M' s2 H2 C cl fp
      have hp2 : xs.length ≤ 1000 := by
        simp only [List.mem_cons, List.not_mem_nil, or_false] at hp
        rcases hp with rfl | rfl
        · exact pA
        · exact pB
      refine wp_lcMap (own := [("_law_k", 9)]) (rng 6) T.int (fun c => tI (xs.filter fun i => decide (i / 4 = c))) rfl sc__law_lot_right.nd (blkOk_by rfl) (fun _ _ _ _ _ => tg_name 9 sc__law_lot_right.nd rfl (by walk_at "loc") (by walk_at "loc")) hsub1 (hno1 rfl) (fun _ => rfl) (by decide) (wpi_range tx.nRange rfl rfl ?_)
      walk_at "es"
      refine ⟨rfl, fun c hc => ⟨_, rfl, ?_⟩, ⟨rfl, rfl⟩⟩
      intro M' s2 H2 C cl fp
      walk_at "es"
      refine wp_lcFil (own := [("_law_own", 8)]) xs T.int (fun i => decide (i / 4 = c)) T.int rfl sc__law_lot_right.nd (blkOk_by rfl) (fun _ _ _ _ _ => tg_name 8 sc__law_lot_right.nd rfl (by walk_at "loc") (by walk_at "loc")) hsub1 (hno1 rfl) (fun _ => rfl) (by omega) (wpi_tup ?_)
      walk_at "es"
      refine ⟨rfl, fun i hi => ⟨_, rfl, ?_, ?_⟩, ?_⟩
      · intro M' s2 H2 C cl fp
        walk_at "es"
        exact ⟨rfl, rfl⟩
      · intro _ M' s2 H2 C cl fp
        walk_at "es"
        exact ⟨rfl, rfl⟩
      walk_at "es"
      exact ⟨rfl, rfl⟩
    walk_at "es"
    refine wpb_cons (wps_set 6 sc__law_lot_right.nd rfl (Or.inl rfl) rfl rfl ?_)
    walk_at "es"
    refine wpb_cons (wps_set 7 sc__law_lot_right.nd rfl (Or.inl rfl) rfl rfl ?_)
    walk_at "es"
    refine wpb_cons (wps_set 6 sc__law_lot_right.nd rfl (Or.inl rfl) rfl rfl ?_)
    walk_at "es"
    refine wpb_cons (wps_ret ?_)
    walk_at "es"
    have eS1 : sums [(false, A1), (false, B1)] = symd A1 B1 := by
      show symd (symd [] A1) B1 = _
      rw [symd_nil hA1]
    have eS2 : sums [(true, B1), (true, A1), (true, C1)] = symd (symd A1 B1) C1 := by
      show symd (symd (symd [] B1) A1) C1 = _
      rw [symd_nil hB1, symd_comm (xs := B1)]
    have eS3 : tI (sums (List.replicate (1 + r).toNat (false, A1))) = if decide (1 + r ∈ [(1 : Int), 3]) = true then tI A1 else .tup [] := by
      have h4 : r = 0 ∨ r = 1 ∨ r = 2 ∨ r = 3 := by omega
      have e0 := symd_nil hA1
      have e1 := symd_self hA1
      rcases h4 with rfl | rfl | rfl | rfl
      · show tI (symd [] A1) = tI A1
        rw [e0]
      · show tI (symd (symd [] A1) A1) = .tup []
        rw [e0, e1]
        rfl
      · show tI (symd (symd (symd [] A1) A1) A1) = tI A1
        rw [e0, e1, e0]
      · show tI (symd (symd (symd (symd [] A1) A1) A1) A1) = .tup []
        rw [e0, e1, e0, e1]
        rfl
    refine ⟨_, same_of ?_ ?_, ?_⟩
    · rw [eS1, eS2, eS3, read_draw hA1, read_draw hB1]
      rfl
    · have gt : ∀ {d : Nat} {xs : List Int}, Lot xs → Good (d + 1) (tI xs) := fun h => good_tI (Nat.le_trans h.len (by decide))
      have gf : ∀ {d : Nat} (xs : List Int) (p : Int → Bool), xs.length ≤ 1000 → Good (d + 1) (tI (xs.filter p)) := fun xs p h => good_tI (Nat.le_trans (List.length_filter_le _ _) (by omega))
      have gc : ∀ xs : List Int, xs.length ≤ 1000 → Good 2 (.lst ((rng 6).map fun c => tI (xs.filter fun i => decide (i / 4 = c)))) := fun xs h => good_lst (by rw [List.length_map, rng_len]; decide) (good_map fun c _ => gf xs _ h)
      have gs : ∀ xs : List Int, Good 2 (.tup ((rng 6).map fun c => T.int (sgn xs c))) := fun xs => good_tup (by rw [List.length_map, rng_len]; decide) (good_map fun c _ => good_int _ _)
      have gp : ∀ xs : List Int, Good 2 (parT xs) := fun xs => good_tup (by rw [List.length_append, List.length_map, rng_len]; show 6 + 1 ≤ 50000; decide) (good_app (good_map fun c _ => good_int _ _) (good_cons (good_int _ _) good_nil))
      have gd : ∀ xs : List Int, Good 2 (.tup ((drawS xs).map T.str)) := fun xs => good_tup (by rw [List.length_map, draw_len]; decide) (good_map fun z hz => good_str _ (by rw [(draw_mem hz).1]; decide))
      have gi : Good 2 (if decide (1 + r ∈ [(1 : Int), 3]) = true then tI A1 else .tup []) := by
        split
        · exact gt hA1
        · exact good_tup (by simp) good_nil
      refine good_lst (by simp) ?_
      refine good_app (good_app (good_app ?_ ?_) ?_) ?_
      · exact good_cons (gt hS) (good_cons (gt (symd_lot _ _)) (good_cons gi good_nil))
      · exact good_cons (gc A1 pA) (good_cons (gc B1 pB) good_nil)
      · exact good_cons (gs _) (good_cons (gs _) (good_cons (gs _) (good_cons (gp _) (good_cons (gp _) (good_cons (gp _) good_nil)))))
      · exact good_cons (gd _) (good_cons (gd _) (good_cons (gt hA1) (good_cons (gt hB1) good_nil)))
    · exact ⟨⟨0, rfl⟩, .mk⟩
end

section
variable {P : Program} {w : World} {K : PySem.W.Frag} {mg : Str → Option Value} {base : Heap} {f : Addr} {fd : FuncData}
abbrev s__law_lamps_right : Stmt := topS 52
abbrev N__law_lamps_right : List Str := ["_law_tin", "_law_far_so", "_law_got", "_law_due", "_law_column_so", "_law_sign_so", "_law_own", "_law_line_so"]
theorem sc__law_lamps_right : FnScope N__law_lamps_right ["_law_tin"] (defScope s__law_lamps_right) := ⟨rfl, rfl, rfl, by decide +kernel, rfl, by decide +kernel, by decide +kernel⟩
abbrev Pr__law_lamps_right := Pr_nil
abbrev R__law_lamps_right := R_true
def colT (c : Int) : T := .lst ((rng 4).map fun l => T.int (4 * c + l))
def colsT (i : Nat) : List T := ((rng 6).take i).map colT
def wayT (s p : Int) : T := .lst ((ways s p).map tI)
def wsT (i : Nat) : List T := (((rng 4).take i).map fun s => [wayT s 0, wayT s 1]).flatten
theorem wsT_succ {i : Nat} {s : Int} (h : (rng 4)[i]? = some s) : wsT (i + 1) = wsT i ++ [wayT s 0, wayT s 1] := by
  unfold wsT
  rw [take_get h, List.map_append, List.flatten_append]
  simp
theorem wsT_len : ∀ i, i ≤ 4 → (wsT i).length = 2 * i
  | 0, _ => by simp [wsT]
  | i + 1, h => by
    rw [wsT_succ (rng_get (by omega)), List.length_append, wsT_len i (by omega)]
    rfl
theorem colsT_len (i : Nat) : (colsT i).length ≤ 6 := by
  unfold colsT
  rw [List.length_map, List.length_take, rng_len]
  omega
def lamT (i : Int) : List T := [.lst ((rng 24).map fun i => T.int (i / 4)), .lst ((rng 24).map fun i => T.int (i % 4)), .lst [.str "lamp", .int i, .bl true], .lst [.str "lamp", .int i, .bl true]]
theorem lam_good (i : Int) : Good 3 (.lst (lamT i ++ colsT 6 ++ wsT 4)) := by
  have hz : (lamT i ++ colsT 6 ++ wsT 4).length ≤ 50000 := by
    have h1 := colsT_len 6
    have h2 := wsT_len 4 (by omega)
    have h3 : (lamT i).length = 4 := rfl
    rw [List.length_append, List.length_append]
    omega
  have hb : Good 2 (.lst [.str "lamp", .int i, .bl true]) := good_lst (by show 3 ≤ 50000; decide) (good_cons (good_str _ (by decide)) (good_cons (good_int _ _) (good_cons (good_bl _ _) good_nil)))
  refine good_lst hz (good_app (good_app ?_ ?_) ?_)
  · exact good_cons (good_lst (by rw [List.length_map, rng_len]; decide) (good_map fun _ _ => good_int _ _)) (good_cons (good_lst (by rw [List.length_map, rng_len]; decide) (good_map fun _ _ => good_int _ _)) (good_cons hb (good_cons hb good_nil)))
  · exact good_map fun c _ => good_lst (by rw [List.length_map, rng_len]; decide) (good_map fun _ _ => good_int _ _)
  · intro u hu
    unfold wsT at hu
    obtain ⟨l, hl, hu⟩ := List.mem_flatten.mp hu
    obtain ⟨s, hs, rfl⟩ := List.mem_map.mp hl
    have hs2 : 0 ≤ s ∧ s < 4 := rng_mem.mp (List.mem_of_mem_take hs)
    have go : ∀ p : Int, 0 ≤ p → p < 2 → Good 2 (wayT s p) := fun p h0 h1 => by
      have hw := ways_ok' hs2.1 hs2.2 h0 h1
      exact good_lst (by rw [List.length_map, hw.1]; decide) (good_map fun o ho => good_tI (Nat.le_trans (hw.2 o ho).1 (by decide)))
    rcases List.mem_cons.mp hu with rfl | hu
    · exact go 0 (by decide) (by decide)
    · have : u = wayT s 1 := by simpa using hu
      rw [this]
      exact go 1 (by decide) (by decide)
abbrev D__law_lamps_right (P : Program) (w : World) (K : PySem.W.Frag) (mg : Str → Option Value) (base : Heap) : Prop := Df P w K mg base "_law_lamps_right" 7 ["_law_tin"] (spT 90000 2 Pr__law_lamps_right R__law_lamps_right)
theorem ok__law_lamps_right (F : Fun K "_law_lamps_right" "_law_lamps_right" s__law_lamps_right f fd) (tx : Tx mg) (g__law_take : D__law_take P w K mg base) (g__law_of : D__law_of P w K mg base) (g__law_heard : D__law_heard P w K mg base) (g_lamp_at : D_lamp_at P w K mg base) (g_column_ways : D_column_ways P w K mg base) (g__law_ways : D__law_ways P w K mg base) (g__law_same : D__law_same 3 P w K mg base) : FnOk P w K mg base CX0 7 f fd ["_law_tin"] (spT 90000 2 Pr__law_lamps_right R__law_lamps_right) := by
  refine fn_T F sc__law_lamps_right (fun ts h => by cases h <;> rfl) fun cdv A outer s H E hr Z0 H0 a n ts hn hP => ?_
  cases hP with
  | mk =>
    refine wpb_cons (wps_set 1 sc__law_lamps_right.nd rfl (Or.inl rfl) rfl rfl ?_)
    refine wp_callT g__law_of (by walk_at "rm") rfl rfl rfl ?_
    walk_at "es"
    refine ⟨0, a, n, _, rfl, rfl, by omega, .mk _ (by decide) (by decide), fun t hR => ?_⟩
    obtain ⟨r, r0, r1, rfl⟩ : ∃ r : Int, 0 ≤ r ∧ r < 99 ∧ t = .int r := by
      cases hR with
      | mk _ r g0 g1 => exact ⟨r, g0, g1, rfl⟩
    walk_at "es"
    refine ⟨0, a, n + 1, _, rfl, rfl, by omega, .mk _ (by simp) (by simp), fun t hR => ?_⟩
    obtain ⟨i, hi, rfl⟩ : ∃ i : Int, ¬ (0 ≤ i ∧ i < 24) ∧ t = .int i := by
      cases hR with
      | mk _ _ h =>
        simp only [List.mem_cons, List.not_mem_nil, or_false] at h
        rcases h with rfl | rfl | rfl | rfl <;> exact ⟨_, by omega, rfl⟩
    refine wpb_cons (wps_own 2 sc__law_lamps_right.nd rfl (Or.inl rfl) rfl rfl (wpn_lst ?_))
    walk_at "es"
    refine wp_lcMap (own := [("_law_own", 6)]) (rng 24) T.int (fun i => T.int (i / 4)) rfl sc__law_lamps_right.nd (blkOk_by rfl) (fun _ _ _ _ _ => tg_name 6 sc__law_lamps_right.nd rfl (by walk_at "loc") (by walk_at "loc")) hsub1 (hno1 rfl) (fun _ => rfl) (by decide) (wpi_range tx.nRange rfl rfl ?_)
    walk_at "es"
    refine ⟨rfl, fun u hu => ⟨_, rfl, ?_⟩, ?_⟩
    · intro M' s2 H2 C cl fp
      have hu2 : 0 ≤ u ∧ u < 24 := rng_mem.mp hu
      walk_at "es"
      exact ⟨rfl, rfl⟩
    walk_at "es"
    refine wp_lcMap (own := [("_law_own", 6)]) (rng 24) T.int (fun i => T.int (i % 4)) rfl sc__law_lamps_right.nd (blkOk_by rfl) (fun _ _ _ _ _ => tg_name 6 sc__law_lamps_right.nd rfl (by walk_at "loc") (by walk_at "loc")) hsub1 (hno1 rfl) (fun _ => rfl) (by decide) (wpi_range tx.nRange rfl rfl ?_)
    walk_at "es"
    refine ⟨rfl, fun u hu => ⟨_, rfl, ?_⟩, ?_⟩
    · intro M' s2 H2 C cl fp
      have hu2 : 0 ≤ u ∧ u < 24 := rng_mem.mp hu
      walk_at "es"
      exact ⟨rfl, rfl⟩
    walk_at "es"
    refine ⟨_, .ncol i hi, ?_⟩
    walk_at "es"
    refine ⟨_, .nline i hi, ?_⟩
    walk_at "es"
    intro p
    refine wpb_cons (wps_own 3 sc__law_lamps_right.nd rfl (Or.inl rfl) rfl rfl (wpn_lst ?_))
    walk_at "es"
    refine wp_lcMap (own := [("_law_own", 6)]) (rng 24) T.int (fun i => T.int (i / 4)) rfl sc__law_lamps_right.nd (blkOk_by rfl) (fun _ _ _ _ _ => tg_name 6 sc__law_lamps_right.nd rfl (by walk_at "loc") (by walk_at "loc")) hsub1 (hno1 rfl) (fun _ => rfl) (by decide) (wpi_range tx.nRange rfl rfl ?_)
    walk_at "es"
    refine ⟨rfl, fun u hu => ⟨_, rfl, ?_⟩, ?_⟩
    · intro M' s2 H2 C cl fp
      have hu2 : 0 ≤ u ∧ u < 24 := rng_mem.mp hu
      walk_at "es"
      exact ⟨rfl, rfl⟩
    walk_at "es"
    refine wp_lcMap (own := [("_law_own", 6)]) (rng 24) T.int (fun i => T.int (i % 4)) rfl sc__law_lamps_right.nd (blkOk_by rfl) (fun _ _ _ _ _ => tg_name 6 sc__law_lamps_right.nd rfl (by walk_at "loc") (by walk_at "loc")) hsub1 (hno1 rfl) (fun _ => rfl) (by decide) (wpi_range tx.nRange rfl rfl ?_)
    walk_at "es"
    refine ⟨rfl, fun u hu => ⟨_, rfl, ?_⟩, ?_⟩
    · intro M' s2 H2 C cl fp
      have hu2 : 0 ≤ u ∧ u < 24 := rng_mem.mp hu
      walk_at "es"
      exact ⟨rfl, rfl⟩
    walk_at "es"
    intro q
    refine wpb_cons (wps_for PassesOwn.never rfl (tg_name 4 sc__law_lamps_right.nd rfl (by walk_at "loc") (by walk_at "loc")) (fun _ => rfl) (wpi_range tx.nRange rfl rfl ?_))
    walk_at "es"
    refine ⟨fun j M' sl' => M' = ⟨Z0, H0, [(q, .lst (lamT i ++ colsT j)), (p, .lst (lamT i ++ colsT j)), (a, .tin (n + 2))]⟩ ∧ ∃ w, sl' = [some (.ptr a), some (.int i), some (.ptr p), some (.ptr q), w, none, none, none], ⟨rfl, none, rfl⟩, ?_, ?_⟩
    · rintro j M2 sl2 t ht ⟨rfl, w, rfl⟩
      obtain ⟨c, hc, rfl⟩ := mapget ht
      have hcl := colsT_len j
      have ecs : colsT (j + 1) = colsT j ++ [colT c] := by
        unfold colsT
        rw [take_get hc, List.map_append]
        rfl
      refine ⟨_, rfl, ?_⟩
      refine wpb_cons (wps_append 2 1 rfl rfl (Or.inl rfl) rfl rfl rfl rfl rfl rfl ?_)
      refine wp_lcMap (own := [("_law_line_so", 7)]) (rng 4) T.int (fun l => T.int (4 * c + l)) rfl sc__law_lamps_right.nd (blkOk_by rfl) (fun _ _ _ _ _ => tg_name 7 sc__law_lamps_right.nd rfl (by walk_at "loc") (by walk_at "loc")) hsub1 (hno1 rfl) (fun _ => rfl) (by decide) (wpi_range tx.nRange rfl rfl ?_)
      walk_at "es"
      refine ⟨rfl, fun u hu => ⟨_, rfl, ?_⟩, ?_⟩
      · intro M' s2 H2 C cl fp
        have hu2 : 0 ≤ u ∧ u < 4 := rng_mem.mp hu
        walk_at "es"
        exact ⟨rfl, rfl⟩
  
      refine ⟨_, rfl, ?_, ?_⟩
      · rw [List.length_append]
        have h3 : (lamT i).length = 4 := rfl
        omega
      refine wpb_cons (wps_append 3 0 rfl rfl (Or.inl rfl) rfl rfl rfl rfl rfl rfl ?_)
      refine wp_lcMap (own := [("_law_line_so", 7)]) (rng 4) T.int (fun l => T.int (4 * c + l)) rfl sc__law_lamps_right.nd (blkOk_by rfl) (fun _ _ _ _ _ => tg_name 7 sc__law_lamps_right.nd rfl (by walk_at "loc") (by walk_at "loc")) hsub1 (hno1 rfl) (fun _ => rfl) (by decide) (wpi_range tx.nRange rfl rfl ?_)
      walk_at "es"
      refine ⟨rfl, fun u hu => ⟨_, rfl, ?_⟩, ?_⟩
      · intro M' s2 H2 C cl fp
        have hu2 : 0 ≤ u ∧ u < 4 := rng_mem.mp hu
        walk_at "es"
        exact ⟨rfl, rfl⟩
  
      refine ⟨_, rfl, ?_, ?_⟩
      · rw [List.length_append]
        have h3 : (lamT i).length = 4 := rfl
        omega
      refine wpb_nil ⟨?_, some (.int c), rfl⟩
      rw [ecs, ← List.append_assoc]
      rfl
    · rintro M2 sl2 ⟨rfl, w, rfl⟩
      rw [List.length_map, rng_len]
      refine wpb_close 3 rfl rfl ?_
      refine wpb_close 2 rfl rfl ?_
      refine wpb_cons (wps_for PassesOwn.never rfl (tg_name 5 sc__law_lamps_right.nd rfl (by walk_at "loc") (by walk_at "loc")) (fun _ => rfl) (wpi_range tx.nRange rfl rfl ?_))
      walk_at "es"
      refine ⟨fun j M' sl' => M' = ⟨Z0, H0, [(a, .tin (n + 2))]⟩ ∧ ∃ w2, sl' = [some (.ptr a), some (.int i), some (.lst (lamT i ++ colsT 6 ++ wsT j)), some (.lst (lamT i ++ colsT 6 ++ wsT j)), w, w2, none, none], ⟨rfl, none, ?_⟩, ?_, ?_⟩
      · have e : wsT 0 = [] := rfl
        rw [e, List.append_nil]
        rfl
      · rintro j M2 sl2 t ht ⟨rfl, w2, rfl⟩
        obtain ⟨s, hs, rfl⟩ := mapget ht
        have hs2 : 0 ≤ s ∧ s < 4 := rng_mem.mp (List.mem_of_getElem? hs)
        have hj : j < 4 := by
          have := (List.getElem?_eq_some_iff.mp hs).1
          rwa [rng_len] at this
        have hl : (lamT i ++ colsT 6 ++ wsT j).length ≤ 100 := by
          have h1 := colsT_len 6
          have h2 := wsT_len j (by omega)
          have h3 : (lamT i).length = 4 := rfl
          rw [List.length_append, List.length_append]
          omega
        have e2 : lamT i ++ colsT 6 ++ wsT (j + 1) = lamT i ++ colsT 6 ++ wsT j ++ [wayT s 0, wayT s 1] := by rw [wsT_succ hs, List.append_assoc (lamT i ++ colsT 6)]
        generalize lamT i ++ colsT 6 ++ wsT j = L at hl e2
        refine ⟨_, rfl, ?_⟩
        refine wpb_cons (wps_set 2 sc__law_lamps_right.nd rfl (Or.inl rfl) rfl rfl ?_)
        walk_at "es"
        try refine bin_catL (by show L.length + 2 ≤ 100000; omega) ?_
        refine wpb_cons (wps_set 3 sc__law_lamps_right.nd rfl (Or.inl rfl) rfl rfl ?_)
        walk_at "es"
        try refine bin_catL (by show L.length + 2 ≤ 100000; omega) ?_
        refine wpb_nil ⟨rfl, some (.int s), ?_⟩
        rw [e2]
        rfl
      · rintro M2 sl2 ⟨rfl, w2, rfl⟩
        rw [List.length_map, rng_len]
        refine wpb_cons (wps_ret ?_)
        walk_at "es"
        refine ⟨_, R__law_same.mk _ (lam_good i), ?_⟩
        exact ⟨⟨0, rfl⟩, .mk⟩
end

section
variable {P : Program} {w : World} {K : PySem.W.Frag} {mg : Str → Option Value} {base : Heap} {f : Addr} {fd : FuncData}
abbrev s__law_all_right : Stmt := topS 53
abbrev N__law_all_right : List Str := ["_law_tin", "_law_row_so", "_law_parity_so", "_law_due", "_law_told", "_law_tops_so", "_law_k", "_law_own"]
theorem sc__law_all_right : FnScope N__law_all_right ["_law_tin"] (defScope s__law_all_right) := ⟨rfl, rfl, rfl, by decide +kernel, rfl, by decide +kernel, by decide +kernel⟩
abbrev Pr__law_all_right := Pr_nil
abbrev R__law_all_right := R_true
theorem perm_sum {l m : List Int} (h : l.Perm m) : l.sum = m.sum := by
  induction h with
  | nil => rfl
  | cons x _ ih => rw [List.sum_cons, List.sum_cons, ih]
  | swap x y l =>
    simp only [List.sum_cons]
    omega
  | trans _ _ h1 h2 => rw [h1, h2]
abbrev D__law_all_right (P : Program) (w : World) (K : PySem.W.Frag) (mg : Str → Option Value) (base : Heap) : Prop := Df P w K mg base "_law_all_right" 7 ["_law_tin"] (spT 90000 9 Pr__law_all_right R__law_all_right)
theorem ok__law_all_right (F : Fun K "_law_all_right" "_law_all_right" s__law_all_right f fd) (tx : Tx mg) (g__law_take : D__law_take P w K mg base) (g__law_of : D__law_of P w K mg base) (g__law_words : D__law_words P w K mg base) (g__law_lots_with : D__law_lots_with P w K mg base) (g_lots_with : D_lots_with P w K mg base) (g__law_parities : D__law_parities P w K mg base) (g__law_same : D__law_same 3 P w K mg base) : FnOk P w K mg base CX0 7 f fd ["_law_tin"] (spT 90000 9 Pr__law_all_right R__law_all_right) := by
  refine fn_T F sc__law_all_right (fun ts h => by cases h <;> rfl) fun cdv A outer s H E hr Z0 H0 a n ts hn hP => ?_
  cases hP with
  | mk =>
    have rest : ∀ (row : List Int) (p : Int), Row row → 0 ≤ p → p < 2 → WpB (cxOf CX0 P w K mg base N__law_all_right "_law_all_right" (defScope s__law_all_right) f cdv A outer s H E).nox ⟨Z0, H0, [(a, .tin (n + 9))]⟩ ((defBody s__law_all_right).drop 2) [some (.ptr a), some (tI row), some (.int p), none, none, none, none, none]
        { nx := fun _ _ => False, rt := fun M' u => (∃ j : Nat, M'.os[j]? = some (a, Own.tin (n + 9))) ∧ R__law_all_right [] u } := fun row p hr0 g0 g1 => by
      have hb := lw_bound hr0 g0 g1
      have hh := lw_half hr0 g0 g1
      generalize hF : lw p 0 row [[]] = F at hb hh
      have hsl : (srt F).length = F.length := srt_len F
      have hml : ∀ o ∈ srt F, o.length ≤ 1000 := fun o ho => Nat.le_trans (hb.2 o ((srt_perm F).mem_iff.mp ho)) (by decide)
      have hg1 : Good 2 (.lst ((srt F).map tI)) := good_lst (by rw [List.length_map]; omega) (good_map fun o ho => good_tI (Nat.le_trans (hml o ho) (by decide)))
      have hG : Good 3 (.lst [.lst ((srt F).map tI), .lst ((srt F).map tI)]) := good_lst (by simp) (good_cons hg1 (good_cons hg1 good_nil))
      refine wpb_cons (wps_set 3 sc__law_all_right.nd rfl (Or.inl rfl) rfl rfl ?_)
      walk_at "es"
      refine wpb_cons (wps_set 4 sc__law_all_right.nd rfl (Or.inl rfl) rfl rfl ?_)
      walk_at "es"
      rw [hF]
      refine wpb_cons (wps_if ?_)
      walk_at "es"
      rw [hF]
      walk_at "es"
      refine wpb_nil ?_
      refine wpb_cons (wps_lcMap 5 (own := [("_law_own", 7)]) (srt F) tI (fun o => T.int (topI o)) rfl sc__law_all_right.nd rfl rfl (sw_true rfl rfl rfl rfl) (blkOk_by rfl) (fun _ _ _ _ _ => tg_name 7 sc__law_all_right.nd rfl (by walk_at "loc") (by walk_at "loc")) hsub1 (hno1 rfl) (fun _ => rfl) (by omega) (wpi_lst ?_))
      walk_at "es"
      refine ⟨rfl, fun o ho => ⟨_, rfl, ?_⟩, ?_⟩
      · intro M' s2 H2 C cl fp
        have hol := hml o ho
        walk_at "es"
        refine idx_tup (by decide) rfl ?_
        exact ⟨rfl, rfl⟩
      have e : (srt F).map (fun o => T.int (topI o)) = ((srt F).map topI).map T.int := by rw [List.map_map]; rfl
      rw [e]
      refine wpb_cons (wps_ret ?_)
      walk_at "es"
      refine ⟨⟨0, rfl⟩, ?_⟩
      have e2 : decide (((srt F).map topI).sum * 2 = ((((srt F).map tI).length : Nat) : Int)) = true := decide_eq_true (by rw [List.length_map, hsl, perm_sum ((srt_perm F).map topI)]; exact hh)
      rw [e2]
      exact .mk
    refine wpb_cons (wps_par 1 2 rfl sc__law_all_right.nd rfl rfl (by decide) rfl rfl rfl rfl ?_)
    refine wpa_cons rfl (wp_tupleC tx rfl rfl rfl (wpa_cons rfl ?_))
    refine wp_lcDraw (own := [("_law_k", 6)]) (a := a) (n := n) (m := 6) (C := fun z => 0 ≤ z ∧ z < 4) rfl rfl sc__law_all_right.nd (blkOk_by rfl) (fun _ _ _ _ _ => tg_name 6 sc__law_all_right.nd rfl (by walk_at "loc") (by walk_at "loc")) hsub1 (hno1 rfl) (fun _ => rfl) (by decide) (wpi_range tx.nRange rfl rfl ?_)
    walk_at "es"
    refine ⟨rfl, rfl, fun i hi => ⟨_, rfl, fun D acc => ?_⟩, fun zs hl hz => ?_⟩
    · intro s2 H2 C cl fp
      refine wp_callT g__law_take (by walk_at "rm") rfl rfl rfl ?_
      walk_at "es"
      refine ⟨1, a, n + i, _, rfl, rfl, by omega, .mk _ (by decide) (by decide), fun t hR => ?_⟩
      cases hR with
      | mk _ r g0 g1 => exact ⟨rfl, r, rfl, g0, g1⟩
    refine wpa_nil (cal_tupL ?_)
    refine wpa_cons rfl ?_
    refine wp_callT g__law_take (by walk_at "rm") rfl rfl rfl ?_
    walk_at "es"
    refine ⟨0, a, n + 6, _, rfl, rfl, by omega, .mk _ (by decide) (by decide), fun t hR => ?_⟩
    obtain ⟨p, p0, p1, rfl⟩ : ∃ r : Int, 0 ≤ r ∧ r < 2 ∧ t = .int r := by
      cases hR with
      | mk _ r g0 g1 => exact ⟨r, g0, g1, rfl⟩
    refine wpa_nil ⟨_, _, rfl, ?_⟩
    refine wpb_cons (wps_if (wpt_cmp (nomark _) ?_))
    refine wp_callT g__law_take (by walk_at "rm") rfl rfl rfl ?_
    walk_at "es"
    refine ⟨0, a, n + 6 + 1, _, rfl, rfl, by omega, .mk _ (by decide) (by decide), fun t hR => ?_⟩
    obtain ⟨c, c0, c1, rfl⟩ : ∃ r : Int, 0 ≤ r ∧ r < 2 ∧ t = .int r := by
      cases hR with
      | mk _ r g0 g1 => exact ⟨r, g0, g1, rfl⟩
    walk_at "es"
    refine iteC (fun h => ?_) fun h => ?_
    · refine wpb_cons (wps_set 1 sc__law_all_right.nd rfl (Or.inl rfl) rfl rfl ?_)
      refine wp_callT g__law_of (by walk_at "rm") rfl rfl rfl (wpa_cons rfl ?_)
      walk_at "var"
      refine wpa_cons rfl ?_
      refine wp_call0 g__law_words (by walk_at "rm") rfl R__law_words.mk ?_
      refine wpa_nil ?_
      refine ⟨0, a, n + 6 + 1 + 1, _, rfl, rfl, by omega, .mk _ (by rw [List.length_map, words_ok.1]; decide) (by rw [List.length_map, words_ok.1]; decide), fun t hR => ?_⟩
      obtain ⟨w2, hw, rfl⟩ : ∃ w2 ∈ wpre 4, t = tI w2 := by
        cases hR with
        | mk _ _ h =>
          obtain ⟨w2, hw, e⟩ := List.mem_map.mp h
          exact ⟨w2, hw, e.symm⟩
      refine wpb_nil ?_
      exact rest w2 p (words_ok.2 w2 hw) p0 p1
    · refine wpb_nil ?_
      refine wpb_moreTin (j := 0) (a := a) (n' := n + 9) rfl (by omega) ?_
      exact rest zs p ⟨hl, hz⟩ p0 p1
end

section
variable {P : Program} {w : World} {K : PySem.W.Frag} {mg : Str → Option Value} {base : Heap} {f fD C2 : Addr} {fd : FuncData}
abbrev s__law_by_hand_right : Stmt := topS 55
abbrev N__law_by_hand_right : List Str := ["_law_lot", "_law_word", "_law_got", "_law_due"]
theorem sc__law_by_hand_right : FnScope N__law_by_hand_right [] (defScope s__law_by_hand_right) := ⟨rfl, rfl, rfl, by decide +kernel, rfl, by decide +kernel, by decide +kernel⟩
theorem wps_asg {X : Cx} {M : Mo} {sl : Sl} {D : DT} {pos : Pos} {tg e : Expr} {f : Sl → T → Option Sl} {is : List Nat} (htg : TgOk X tg f is) (hs : swapsWithSole [tg] e pos.line X.env = pure false) (hw : swappedStores [tg] e X.env = pure none) (h1 : (assignEach [tg] X.env).map (·.2) = [assign tg X.env])
    (h : Wp X M e sl fun M1 t => ∃ sl', f sl t = some sl' ∧ D.nx M1 sl') : WpS X M (.Assign [tg] e pos) sl D :=
  wps_of (ps_asg pe_tW pg_tW hs hw h1) fun σ H E o s e' => h σ H _ o s fun v H1 M1 t f1 o1 r1 ⟨sl', hf, k1⟩ => htg M1 t v σ sl sl' H1 _ o1 (f1.sld s) r1 hf fun σ' s' _ _ => e'.step f1 o1 s' k1
abbrev LA : List Int := [0, 2, 7, 8, 9, 10, 11, 17, 20]
abbrev WD : List Int := [3, 3, 1, 1, 2, 2]
abbrev SS : List Str := ["#.....", "......", "......", ".....#"]
abbrev S3 : List Str := ["#.....", "......", "...."]
theorem lotB {xs : List Int} (h : decide (xs = (rng 24).filter fun i => decide (i ∈ xs)) = true) : Lot xs := by
  unfold Lot
  exact of_decide_eq_true h
def goodB : Nat → T → Bool
  | 0, t => flatT t
  | d + 1, t => flatT t || match t with
    | .lst ts => decide (ts.length ≤ 50000) && ts.all (goodB d)
    | .tup ts => decide (ts.length ≤ 50000) && ts.all (goodB d)
    | _ => false
theorem goodB_ok : ∀ {d : Nat} {t : T}, goodB d t = true → Good d t
  | 0, _, h => h
  | d + 1, t, h => by
    unfold goodB at h
    rcases Bool.or_eq_true_iff.mp h with h | h
    · exact .inl h
    · split at h
      · obtain ⟨h1, h2⟩ := Bool.and_eq_true_iff.mp h
        exact good_lst (of_decide_eq_true h1) fun u hu => goodB_ok (List.all_eq_true.mp h2 u hu)
      · obtain ⟨h1, h2⟩ := Bool.and_eq_true_iff.mp h
        exact good_tup (of_decide_eq_true h1) fun u hu => goodB_ok (List.all_eq_true.mp h2 u hu)
      · cases h
theorem lA : Lot LA := lotB (by decide +kernel)
theorem lB : Lot [0, 1, 7] := lotB (by decide +kernel)
theorem lC : Lot [1, 23] := lotB (by decide +kernel)
theorem rowWD : Row WD := ⟨rfl, by decide⟩
theorem rowOO : Row [0, 0, 0, 0, 0, 0] := ⟨rfl, by decide⟩
theorem sS : Strs SS := ⟨by decide, by decide +kernel⟩
theorem s3 : Strs S3 := ⟨by decide, by decide +kernel⟩
theorem fS : fb SS = none := by decide +kernel
theorem f3 : fb S3 = some 2 := by decide +kernel
def Fw1 : List (List Int) := [[0, 1, 2], [3]]
theorem stw0 : stepL 0 3 1 [[]] = Fw1 := by decide +kernel
def Fw2 : List (List Int) := [[0, 1, 2, 4, 5, 6], [3, 4, 5, 6], [0, 1, 2, 7], [3, 7]]
theorem stw1 : stepL 1 3 1 Fw1 = Fw2 := by decide +kernel
def Fw3 : List (List Int) := [[0, 1, 2, 4, 5, 6, 8, 10, 11], [3, 4, 5, 6, 8, 10, 11], [0, 1, 2, 7, 8, 10, 11], [3, 7, 8, 10, 11], [0, 1, 2, 4, 5, 6, 9], [3, 4, 5, 6, 9], [0, 1, 2, 7, 9], [3, 7, 9]]
theorem stw2 : stepL 2 1 1 Fw2 = Fw3 := by decide +kernel
def Fw4 : List (List Int) := [[0, 1, 2, 4, 5, 6, 8, 10, 11, 12, 14, 15], [3, 4, 5, 6, 8, 10, 11, 12, 14, 15], [0, 1, 2, 7, 8, 10, 11, 12, 14, 15], [3, 7, 8, 10, 11, 12, 14, 15], [0, 1, 2, 4, 5, 6, 9, 12, 14, 15], [3, 4, 5, 6, 9, 12, 14, 15], [0, 1, 2, 7, 9, 12, 14, 15], [3, 7, 9, 12, 14, 15], [0, 1, 2, 4, 5, 6, 8, 10, 11, 13], [3, 4, 5, 6, 8, 10, 11, 13], [0, 1, 2, 7, 8, 10, 11, 13], [3, 7, 8, 10, 11, 13], [0, 1, 2, 4, 5, 6, 9, 13], [3, 4, 5, 6, 9, 13], [0, 1, 2, 7, 9, 13], [3, 7, 9, 13]]
theorem stw3 : stepL 3 1 1 Fw3 = Fw4 := by decide +kernel
def Fw5 : List (List Int) := [[0, 1, 2, 4, 5, 6, 8, 10, 11, 12, 14, 15, 16, 17, 19], [3, 4, 5, 6, 8, 10, 11, 12, 14, 15, 16, 17, 19], [0, 1, 2, 7, 8, 10, 11, 12, 14, 15, 16, 17, 19], [3, 7, 8, 10, 11, 12, 14, 15, 16, 17, 19], [0, 1, 2, 4, 5, 6, 9, 12, 14, 15, 16, 17, 19], [3, 4, 5, 6, 9, 12, 14, 15, 16, 17, 19], [0, 1, 2, 7, 9, 12, 14, 15, 16, 17, 19], [3, 7, 9, 12, 14, 15, 16, 17, 19], [0, 1, 2, 4, 5, 6, 8, 10, 11, 13, 16, 17, 19], [3, 4, 5, 6, 8, 10, 11, 13, 16, 17, 19], [0, 1, 2, 7, 8, 10, 11, 13, 16, 17, 19], [3, 7, 8, 10, 11, 13, 16, 17, 19], [0, 1, 2, 4, 5, 6, 9, 13, 16, 17, 19], [3, 4, 5, 6, 9, 13, 16, 17, 19], [0, 1, 2, 7, 9, 13, 16, 17, 19], [3, 7, 9, 13, 16, 17, 19], [0, 1, 2, 4, 5, 6, 8, 10, 11, 12, 14, 15, 18], [3, 4, 5, 6, 8, 10, 11, 12, 14, 15, 18], [0, 1, 2, 7, 8, 10, 11, 12, 14, 15, 18], [3, 7, 8, 10, 11, 12, 14, 15, 18], [0, 1, 2, 4, 5, 6, 9, 12, 14, 15, 18], [3, 4, 5, 6, 9, 12, 14, 15, 18], [0, 1, 2, 7, 9, 12, 14, 15, 18], [3, 7, 9, 12, 14, 15, 18], [0, 1, 2, 4, 5, 6, 8, 10, 11, 13, 18], [3, 4, 5, 6, 8, 10, 11, 13, 18], [0, 1, 2, 7, 8, 10, 11, 13, 18], [3, 7, 8, 10, 11, 13, 18], [0, 1, 2, 4, 5, 6, 9, 13, 18], [3, 4, 5, 6, 9, 13, 18], [0, 1, 2, 7, 9, 13, 18], [3, 7, 9, 13, 18]]
theorem stw4 : stepL 4 2 1 Fw4 = Fw5 := by decide +kernel
def Fw6 : List (List Int) := [[0, 1, 2, 4, 5, 6, 8, 10, 11, 12, 14, 15, 16, 17, 19, 20, 21, 23], [3, 4, 5, 6, 8, 10, 11, 12, 14, 15, 16, 17, 19, 20, 21, 23], [0, 1, 2, 7, 8, 10, 11, 12, 14, 15, 16, 17, 19, 20, 21, 23], [3, 7, 8, 10, 11, 12, 14, 15, 16, 17, 19, 20, 21, 23], [0, 1, 2, 4, 5, 6, 9, 12, 14, 15, 16, 17, 19, 20, 21, 23], [3, 4, 5, 6, 9, 12, 14, 15, 16, 17, 19, 20, 21, 23], [0, 1, 2, 7, 9, 12, 14, 15, 16, 17, 19, 20, 21, 23], [3, 7, 9, 12, 14, 15, 16, 17, 19, 20, 21, 23], [0, 1, 2, 4, 5, 6, 8, 10, 11, 13, 16, 17, 19, 20, 21, 23], [3, 4, 5, 6, 8, 10, 11, 13, 16, 17, 19, 20, 21, 23], [0, 1, 2, 7, 8, 10, 11, 13, 16, 17, 19, 20, 21, 23], [3, 7, 8, 10, 11, 13, 16, 17, 19, 20, 21, 23], [0, 1, 2, 4, 5, 6, 9, 13, 16, 17, 19, 20, 21, 23], [3, 4, 5, 6, 9, 13, 16, 17, 19, 20, 21, 23], [0, 1, 2, 7, 9, 13, 16, 17, 19, 20, 21, 23], [3, 7, 9, 13, 16, 17, 19, 20, 21, 23], [0, 1, 2, 4, 5, 6, 8, 10, 11, 12, 14, 15, 18, 20, 21, 23], [3, 4, 5, 6, 8, 10, 11, 12, 14, 15, 18, 20, 21, 23], [0, 1, 2, 7, 8, 10, 11, 12, 14, 15, 18, 20, 21, 23], [3, 7, 8, 10, 11, 12, 14, 15, 18, 20, 21, 23], [0, 1, 2, 4, 5, 6, 9, 12, 14, 15, 18, 20, 21, 23], [3, 4, 5, 6, 9, 12, 14, 15, 18, 20, 21, 23], [0, 1, 2, 7, 9, 12, 14, 15, 18, 20, 21, 23], [3, 7, 9, 12, 14, 15, 18, 20, 21, 23], [0, 1, 2, 4, 5, 6, 8, 10, 11, 13, 18, 20, 21, 23], [3, 4, 5, 6, 8, 10, 11, 13, 18, 20, 21, 23], [0, 1, 2, 7, 8, 10, 11, 13, 18, 20, 21, 23], [3, 7, 8, 10, 11, 13, 18, 20, 21, 23], [0, 1, 2, 4, 5, 6, 9, 13, 18, 20, 21, 23], [3, 4, 5, 6, 9, 13, 18, 20, 21, 23], [0, 1, 2, 7, 9, 13, 18, 20, 21, 23], [3, 7, 9, 13, 18, 20, 21, 23], [0, 1, 2, 4, 5, 6, 8, 10, 11, 12, 14, 15, 16, 17, 19, 22], [3, 4, 5, 6, 8, 10, 11, 12, 14, 15, 16, 17, 19, 22], [0, 1, 2, 7, 8, 10, 11, 12, 14, 15, 16, 17, 19, 22], [3, 7, 8, 10, 11, 12, 14, 15, 16, 17, 19, 22], [0, 1, 2, 4, 5, 6, 9, 12, 14, 15, 16, 17, 19, 22], [3, 4, 5, 6, 9, 12, 14, 15, 16, 17, 19, 22], [0, 1, 2, 7, 9, 12, 14, 15, 16, 17, 19, 22], [3, 7, 9, 12, 14, 15, 16, 17, 19, 22], [0, 1, 2, 4, 5, 6, 8, 10, 11, 13, 16, 17, 19, 22], [3, 4, 5, 6, 8, 10, 11, 13, 16, 17, 19, 22], [0, 1, 2, 7, 8, 10, 11, 13, 16, 17, 19, 22], [3, 7, 8, 10, 11, 13, 16, 17, 19, 22], [0, 1, 2, 4, 5, 6, 9, 13, 16, 17, 19, 22], [3, 4, 5, 6, 9, 13, 16, 17, 19, 22], [0, 1, 2, 7, 9, 13, 16, 17, 19, 22], [3, 7, 9, 13, 16, 17, 19, 22], [0, 1, 2, 4, 5, 6, 8, 10, 11, 12, 14, 15, 18, 22], [3, 4, 5, 6, 8, 10, 11, 12, 14, 15, 18, 22], [0, 1, 2, 7, 8, 10, 11, 12, 14, 15, 18, 22], [3, 7, 8, 10, 11, 12, 14, 15, 18, 22], [0, 1, 2, 4, 5, 6, 9, 12, 14, 15, 18, 22], [3, 4, 5, 6, 9, 12, 14, 15, 18, 22], [0, 1, 2, 7, 9, 12, 14, 15, 18, 22], [3, 7, 9, 12, 14, 15, 18, 22], [0, 1, 2, 4, 5, 6, 8, 10, 11, 13, 18, 22], [3, 4, 5, 6, 8, 10, 11, 13, 18, 22], [0, 1, 2, 7, 8, 10, 11, 13, 18, 22], [3, 7, 8, 10, 11, 13, 18, 22], [0, 1, 2, 4, 5, 6, 9, 13, 18, 22], [3, 4, 5, 6, 9, 13, 18, 22], [0, 1, 2, 7, 9, 13, 18, 22], [3, 7, 9, 13, 18, 22]]
theorem stw5 : stepL 5 2 1 Fw5 = Fw6 := by decide +kernel
theorem lww : lw 1 0 [3, 3, 1, 1, 2, 2] [[]] = Fw6 := by
  show (stepL 5 2 1 (stepL 4 2 1 (stepL 3 1 1 (stepL 2 1 1 (stepL 1 3 1 (stepL 0 3 1 [[]])))))) = _
  rw [stw0, stw1, stw2, stw3, stw4, stw5]
def Fo1 : List (List Int) := [[], [0, 1, 2, 3]]
theorem sto0 : stepL 0 0 0 [[]] = Fo1 := by decide +kernel
def Fo2 : List (List Int) := [[], [0, 1, 2, 3], [4, 5, 6, 7], [0, 1, 2, 3, 4, 5, 6, 7]]
theorem sto1 : stepL 1 0 0 Fo1 = Fo2 := by decide +kernel
def Fo3 : List (List Int) := [[], [0, 1, 2, 3], [4, 5, 6, 7], [0, 1, 2, 3, 4, 5, 6, 7], [8, 9, 10, 11], [0, 1, 2, 3, 8, 9, 10, 11], [4, 5, 6, 7, 8, 9, 10, 11], [0, 1, 2, 3, 4, 5, 6, 7, 8, 9, 10, 11]]
theorem sto2 : stepL 2 0 0 Fo2 = Fo3 := by decide +kernel
def Fo4 : List (List Int) := [[], [0, 1, 2, 3], [4, 5, 6, 7], [0, 1, 2, 3, 4, 5, 6, 7], [8, 9, 10, 11], [0, 1, 2, 3, 8, 9, 10, 11], [4, 5, 6, 7, 8, 9, 10, 11], [0, 1, 2, 3, 4, 5, 6, 7, 8, 9, 10, 11], [12, 13, 14, 15], [0, 1, 2, 3, 12, 13, 14, 15], [4, 5, 6, 7, 12, 13, 14, 15], [0, 1, 2, 3, 4, 5, 6, 7, 12, 13, 14, 15], [8, 9, 10, 11, 12, 13, 14, 15], [0, 1, 2, 3, 8, 9, 10, 11, 12, 13, 14, 15], [4, 5, 6, 7, 8, 9, 10, 11, 12, 13, 14, 15], [0, 1, 2, 3, 4, 5, 6, 7, 8, 9, 10, 11, 12, 13, 14, 15]]
theorem sto3 : stepL 3 0 0 Fo3 = Fo4 := by decide +kernel
def Fo5 : List (List Int) := [[], [0, 1, 2, 3], [4, 5, 6, 7], [0, 1, 2, 3, 4, 5, 6, 7], [8, 9, 10, 11], [0, 1, 2, 3, 8, 9, 10, 11], [4, 5, 6, 7, 8, 9, 10, 11], [0, 1, 2, 3, 4, 5, 6, 7, 8, 9, 10, 11], [12, 13, 14, 15], [0, 1, 2, 3, 12, 13, 14, 15], [4, 5, 6, 7, 12, 13, 14, 15], [0, 1, 2, 3, 4, 5, 6, 7, 12, 13, 14, 15], [8, 9, 10, 11, 12, 13, 14, 15], [0, 1, 2, 3, 8, 9, 10, 11, 12, 13, 14, 15], [4, 5, 6, 7, 8, 9, 10, 11, 12, 13, 14, 15], [0, 1, 2, 3, 4, 5, 6, 7, 8, 9, 10, 11, 12, 13, 14, 15], [16, 17, 18, 19], [0, 1, 2, 3, 16, 17, 18, 19], [4, 5, 6, 7, 16, 17, 18, 19], [0, 1, 2, 3, 4, 5, 6, 7, 16, 17, 18, 19], [8, 9, 10, 11, 16, 17, 18, 19], [0, 1, 2, 3, 8, 9, 10, 11, 16, 17, 18, 19], [4, 5, 6, 7, 8, 9, 10, 11, 16, 17, 18, 19], [0, 1, 2, 3, 4, 5, 6, 7, 8, 9, 10, 11, 16, 17, 18, 19], [12, 13, 14, 15, 16, 17, 18, 19], [0, 1, 2, 3, 12, 13, 14, 15, 16, 17, 18, 19], [4, 5, 6, 7, 12, 13, 14, 15, 16, 17, 18, 19], [0, 1, 2, 3, 4, 5, 6, 7, 12, 13, 14, 15, 16, 17, 18, 19], [8, 9, 10, 11, 12, 13, 14, 15, 16, 17, 18, 19], [0, 1, 2, 3, 8, 9, 10, 11, 12, 13, 14, 15, 16, 17, 18, 19], [4, 5, 6, 7, 8, 9, 10, 11, 12, 13, 14, 15, 16, 17, 18, 19], [0, 1, 2, 3, 4, 5, 6, 7, 8, 9, 10, 11, 12, 13, 14, 15, 16, 17, 18, 19]]
theorem sto4 : stepL 4 0 0 Fo4 = Fo5 := by decide +kernel
def Fo6 : List (List Int) := [[], [0, 1, 2, 3], [4, 5, 6, 7], [0, 1, 2, 3, 4, 5, 6, 7], [8, 9, 10, 11], [0, 1, 2, 3, 8, 9, 10, 11], [4, 5, 6, 7, 8, 9, 10, 11], [0, 1, 2, 3, 4, 5, 6, 7, 8, 9, 10, 11], [12, 13, 14, 15], [0, 1, 2, 3, 12, 13, 14, 15], [4, 5, 6, 7, 12, 13, 14, 15], [0, 1, 2, 3, 4, 5, 6, 7, 12, 13, 14, 15], [8, 9, 10, 11, 12, 13, 14, 15], [0, 1, 2, 3, 8, 9, 10, 11, 12, 13, 14, 15], [4, 5, 6, 7, 8, 9, 10, 11, 12, 13, 14, 15], [0, 1, 2, 3, 4, 5, 6, 7, 8, 9, 10, 11, 12, 13, 14, 15], [16, 17, 18, 19], [0, 1, 2, 3, 16, 17, 18, 19], [4, 5, 6, 7, 16, 17, 18, 19], [0, 1, 2, 3, 4, 5, 6, 7, 16, 17, 18, 19], [8, 9, 10, 11, 16, 17, 18, 19], [0, 1, 2, 3, 8, 9, 10, 11, 16, 17, 18, 19], [4, 5, 6, 7, 8, 9, 10, 11, 16, 17, 18, 19], [0, 1, 2, 3, 4, 5, 6, 7, 8, 9, 10, 11, 16, 17, 18, 19], [12, 13, 14, 15, 16, 17, 18, 19], [0, 1, 2, 3, 12, 13, 14, 15, 16, 17, 18, 19], [4, 5, 6, 7, 12, 13, 14, 15, 16, 17, 18, 19], [0, 1, 2, 3, 4, 5, 6, 7, 12, 13, 14, 15, 16, 17, 18, 19], [8, 9, 10, 11, 12, 13, 14, 15, 16, 17, 18, 19], [0, 1, 2, 3, 8, 9, 10, 11, 12, 13, 14, 15, 16, 17, 18, 19], [4, 5, 6, 7, 8, 9, 10, 11, 12, 13, 14, 15, 16, 17, 18, 19], [0, 1, 2, 3, 4, 5, 6, 7, 8, 9, 10, 11, 12, 13, 14, 15, 16, 17, 18, 19], [20, 21, 22, 23], [0, 1, 2, 3, 20, 21, 22, 23], [4, 5, 6, 7, 20, 21, 22, 23], [0, 1, 2, 3, 4, 5, 6, 7, 20, 21, 22, 23], [8, 9, 10, 11, 20, 21, 22, 23], [0, 1, 2, 3, 8, 9, 10, 11, 20, 21, 22, 23], [4, 5, 6, 7, 8, 9, 10, 11, 20, 21, 22, 23], [0, 1, 2, 3, 4, 5, 6, 7, 8, 9, 10, 11, 20, 21, 22, 23], [12, 13, 14, 15, 20, 21, 22, 23], [0, 1, 2, 3, 12, 13, 14, 15, 20, 21, 22, 23], [4, 5, 6, 7, 12, 13, 14, 15, 20, 21, 22, 23], [0, 1, 2, 3, 4, 5, 6, 7, 12, 13, 14, 15, 20, 21, 22, 23], [8, 9, 10, 11, 12, 13, 14, 15, 20, 21, 22, 23], [0, 1, 2, 3, 8, 9, 10, 11, 12, 13, 14, 15, 20, 21, 22, 23], [4, 5, 6, 7, 8, 9, 10, 11, 12, 13, 14, 15, 20, 21, 22, 23], [0, 1, 2, 3, 4, 5, 6, 7, 8, 9, 10, 11, 12, 13, 14, 15, 20, 21, 22, 23], [16, 17, 18, 19, 20, 21, 22, 23], [0, 1, 2, 3, 16, 17, 18, 19, 20, 21, 22, 23], [4, 5, 6, 7, 16, 17, 18, 19, 20, 21, 22, 23], [0, 1, 2, 3, 4, 5, 6, 7, 16, 17, 18, 19, 20, 21, 22, 23], [8, 9, 10, 11, 16, 17, 18, 19, 20, 21, 22, 23], [0, 1, 2, 3, 8, 9, 10, 11, 16, 17, 18, 19, 20, 21, 22, 23], [4, 5, 6, 7, 8, 9, 10, 11, 16, 17, 18, 19, 20, 21, 22, 23], [0, 1, 2, 3, 4, 5, 6, 7, 8, 9, 10, 11, 16, 17, 18, 19, 20, 21, 22, 23], [12, 13, 14, 15, 16, 17, 18, 19, 20, 21, 22, 23], [0, 1, 2, 3, 12, 13, 14, 15, 16, 17, 18, 19, 20, 21, 22, 23], [4, 5, 6, 7, 12, 13, 14, 15, 16, 17, 18, 19, 20, 21, 22, 23], [0, 1, 2, 3, 4, 5, 6, 7, 12, 13, 14, 15, 16, 17, 18, 19, 20, 21, 22, 23], [8, 9, 10, 11, 12, 13, 14, 15, 16, 17, 18, 19, 20, 21, 22, 23], [0, 1, 2, 3, 8, 9, 10, 11, 12, 13, 14, 15, 16, 17, 18, 19, 20, 21, 22, 23], [4, 5, 6, 7, 8, 9, 10, 11, 12, 13, 14, 15, 16, 17, 18, 19, 20, 21, 22, 23], [0, 1, 2, 3, 4, 5, 6, 7, 8, 9, 10, 11, 12, 13, 14, 15, 16, 17, 18, 19, 20, 21, 22, 23]]
theorem sto5 : stepL 5 0 0 Fo5 = Fo6 := by decide +kernel
theorem lwo : lw 0 0 [0, 0, 0, 0, 0, 0] [[]] = Fo6 := by
  show (stepL 5 0 0 (stepL 4 0 0 (stepL 3 0 0 (stepL 2 0 0 (stepL 1 0 0 (stepL 0 0 0 [[]])))))) = _
  rw [sto0, sto1, sto2, sto3, sto4, sto5]
theorem h1 : (srt (lw 1 0 [3, 3, 1, 1, 2, 2] [[]]))[0]? = some [0, 1, 2, 4, 5, 6, 8, 10, 11, 12, 14, 15, 16, 17, 19, 20, 21, 23] := by
  rw [lww]
  decide +kernel
theorem h2 : (srt (lw 0 0 [0, 0, 0, 0, 0, 0] [[]]))[1]? = some [0, 1, 2, 3] := by
  rw [lwo]
  decide +kernel
theorem e1 : sums [(false, LA), (false, [0, 1, 7]), (false, [1, 23])] = [2, 8, 9, 10, 11, 17, 20, 23] := by decide +kernel
theorem e2a : (rng 6).map (fun c => sgn LA c) = [2, 3, 0, 0, 1, 0] := by decide +kernel
theorem e2 : (rng 6).map (fun c => T.int (sgn LA c)) = [2, 3, 0, 0, 1, 0].map T.int := by
  rw [← e2a, List.map_map]
  rfl
theorem e3a : (rng 6).map (fun c => ((LA.filter fun i => decide (i / 4 = c)).length : Int) % 2) = [0, 1, 0, 0, 1, 1] := by decide +kernel
theorem e3b : ((LA.filter fun i => decide (i % 4 = 0)).length : Int) % 2 = 1 := by decide +kernel
theorem e3 : parT LA = tI [0, 1, 0, 0, 1, 1, 1] := by
  have e : (rng 6).map (fun c => T.int (((LA.filter fun i => decide (i / 4 = c)).length : Int) % 2)) = [0, 1, 0, 0, 1, 1].map T.int := by
    rw [← e3a, List.map_map]
    rfl
  show T.tup (_ ++ [T.int _]) = _
  rw [e, e3b]
  rfl
theorem e4 : drawS LA = (["#.#..#", "..#.#.", "#.#...", ".##..."] : List Str) := by decide +kernel
theorem e5 : readS SS = [0, 23] := by decide +kernel
theorem e6 : LA.filter (fun i => decide (i / 4 = 2)) = [8, 9, 10, 11] := by decide +kernel
theorem e7 : ways 2 1 = [[0, 1, 3], [2]] := by decide +kernel
theorem e8 : ways 3 0 = [[0, 3], [1, 2]] := by decide +kernel
inductive R__law_by_hand_right : List T → T → Prop
  | mk : R__law_by_hand_right [] (.bl true)
abbrev D__law_by_hand_right (P : Program) (w : World) (K : PySem.W.Frag) (mg : Str → Option Value) (base : Heap) : Prop := Df P w K mg base "_law_by_hand_right" 7 [] (spR R__law_by_hand_right)
theorem ok__law_by_hand_right (gD : DfX P w K mg base "read_drawn" fD 4 ["strings"] (spX R_read_drawn Ex_read_drawn C2 "number")) (F : Fun K "_law_by_hand_right" "_law_by_hand_right" s__law_by_hand_right f fd) (tx : Tx mg) (g_lot_sum : D_lot_sum P w K mg base) (g_column_signs : D_column_signs P w K mg base) (g_parities : D_parities P w K mg base) (g_drawn : D_drawn P w K mg base) (g_column_lamps : D_column_lamps P w K mg base) (g_column_ways : D_column_ways P w K mg base) (g_lots_with : D_lots_with P w K mg base) (g_lamp_at : D_lamp_at P w K mg base) (g__law_heard : D__law_heard P w K mg base) (g__law_same : D__law_same 3 P w K mg base) : FnOk P w K mg base CX0 7 f fd [] (spR R__law_by_hand_right) := by
  refine fn_R F sc__law_by_hand_right (fun ts t h => by cases h <;> rfl) fun cdv A outer s H E hr Z0 H0 ts t hR => ?_
  cases hR with
  | mk =>
    refine wpb_cons ?_
    with_reducible refine wps_asg (f := fPair 0 1) (is := [0, 1]) ?ht ?hs ?hw ?h1 ?_
    case ht => exact tg_pair 0 1 rfl sc__law_by_hand_right.nd rfl rfl (by walk_at "loc") (by walk_at "loc") (by walk_at "loc") (by walk_at "loc")
    case hs => rfl
    case hw => kernel_rfl
    case h1 => rfl
    walk_at "es"
    refine wpb_cons ?_
    with_reducible refine wps_set 2 ?hN ?hi ?hx ?hf ?hs ?_
    case hN => exact sc__law_by_hand_right.nd
    case hi => exact rfl
    case hx => exact Or.inl rfl
    case hf => exact rfl
    case hs => exact rfl
    refine wp_lst ?_
    walk_at "es"
    refine ⟨_, R_lot_sum.mkT [(false, LA), (false, [0, 1, 7]), (false, [1, 23])] (by simp [lA, lB, lC]), ?_⟩
    walk_at "es"
    refine ⟨_, R_column_signs.mkT LA lA, ?_⟩
    walk_at "es"
    refine ⟨_, R_parities.mkT LA (by decide), ?_⟩
    walk_at "es"
    refine ⟨_, R_drawn.mkT LA (by decide), ?_⟩
    refine wpa_cons rfl ?_
    refine wp_callX gD (hr.mono (by decide)) rfl rfl rfl ?_
    walk_at "es"
    refine ⟨_, R_read_drawn.mk false SS sS fS, ?_⟩
    walk_at "es"
    refine ⟨_, R_column_lamps.mkT 2 LA (by decide), ?_⟩
    walk_at "es"
    refine wpb_cons ?_
    with_reducible refine wps_set 3 ?hN ?hi ?hx ?hf ?hs ?_
    case hN => exact sc__law_by_hand_right.nd
    case hi => exact rfl
    case hx => exact Or.inl rfl
    case hf => exact rfl
    case hs => exact rfl
    walk_at "es"
    refine wpb_cons ?_
    with_reducible refine wps_set 2 ?hN ?hi ?hx ?hf ?hs ?_
    case hN => exact sc__law_by_hand_right.nd
    case hi => exact rfl
    case hx => exact Or.inl rfl
    case hf => exact rfl
    case hs => exact rfl
    walk_at "es"
    refine ⟨_, R_lots_with.mkT WD 1 rowWD (by decide) (by decide), ?_⟩
    walk_at "es"
    refine idx_lst (by decide) (by rw [List.getElem?_map, show (0 : Int).toNat = 0 from rfl, h1]; rfl) ?_
    walk_at "es"
    refine bin_repT (by decide) (by decide) (by simp) (by simp) ?_
    walk_at "es"
    refine ⟨_, R_lots_with.mkT [0, 0, 0, 0, 0, 0] 0 rowOO (by decide) (by decide), ?_⟩
    walk_at "es"
    refine idx_lst (by decide) (by rw [List.getElem?_map, show (1 : Int).toNat = 1 from rfl, h2]; rfl) ?_
    walk_at "es"
    refine ⟨_, R__law_heard.ncol 24 (by decide), ?_⟩
    walk_at "es"
    refine ⟨_, R__law_heard.badT S3 2 s3 f3, ?_⟩
    walk_at "es"
    refine wpb_cons ?_
    with_reducible refine wps_set 3 ?hN ?hi ?hx ?hf ?hs ?_
    case hN => exact sc__law_by_hand_right.nd
    case hi => exact rfl
    case hx => exact Or.inl rfl
    case hf => exact rfl
    case hs => exact rfl
    walk_at "es"
    refine wpb_cons (wps_ret ?_)
    walk_at "es"
    refine ⟨_, same_of ?_ (goodB_ok (by decide +kernel)), ?_⟩
    · rw [e1, e2, e3, e4, e5, e6, e7, e8]
      rfl
    · rfl
end

section
variable {P : Program} {w : World} {K : PySem.W.Frag} {mg : Str → Option Value} {base : Heap} {f : Addr} {fd : FuncData}
abbrev s__law_bent_right : Stmt := topS 54
abbrev N__law_bent_right : List Str := ["_law_tin", "_law_lines_so", "_law_kind_so", "_law_k", "_law_j", "_law_due", "_law_number_so", "_law_good_so", "_law_mark_so", "_law_own"]
theorem sc__law_bent_right : FnScope N__law_bent_right ["_law_tin"] (defScope s__law_bent_right) := ⟨rfl, rfl, rfl, by decide +kernel, rfl, by decide +kernel, by decide +kernel⟩
abbrev Pr__law_bent_right := Pr_nil
abbrev R__law_bent_right := R_true
theorem wp_andJ {X : Cx} {M : Mo} {sl : Sl} {k : KT} {pos : Pos} {a b : Expr} (d : Bool) (h : Wp X M a sl fun M1 t => ∃ c, t = .bl c ∧ (c = true → Wp X M1 b sl fun M2 t => M2 = M1 ∧ t = .bl d) ∧ k M1 (.bl (c && d))) : Wp X M (.BoolOp .And [a, b] pos) sl k :=
  wp_and (h.imp fun M1 t ⟨c, ht, h1, h2⟩ => ⟨c, ht, by
    cases c with
    | true => exact iteT (wp_one ((h1 rfl).imp fun M2 t ⟨e1, e2⟩ => by rw [e1, e2]; exact h2))
    | false => exact iteF h2⟩)
/-! data that == may look at -/
def Lay (m : Nat) (t : T) : Prop := isD t = true ∧ (toD t).canLay0 = true ∧ (toD t).depth ≤ m
theorem lay_int (m : Nat) (i : Int) : Lay m (.int i) := ⟨rfl, by simp [toD, PyData.canLay0], by simp [toD, PyData.depth]⟩
theorem lay_bl (m : Nat) (i : Bool) : Lay m (.bl i) := ⟨rfl, by simp [toD, PyData.canLay0], by simp [toD, PyData.depth]⟩
theorem lay_line (m : Nat) : Lay m (.str "line") := ⟨rfl, by simp only [toD]; decide +kernel, by simp [toD, PyData.depth]⟩
theorem lay_all {m : Nat} : ∀ {ts : List T}, (∀ u ∈ ts, Lay m u) → isDs ts = true ∧ PyData.canLayAll0 (toDs ts) = true ∧ PyData.depthAll (toDs ts) ≤ m
  | [], _ => ⟨by simp [isDs], by simp [toDs, PyData.canLayAll0], by simp [toDs, PyData.depthAll]⟩
  | t :: ts, h => by
    obtain ⟨h1, h2, h3⟩ := h t List.mem_cons_self
    obtain ⟨g1, g2, g3⟩ := lay_all fun u hu => h u (List.mem_cons_of_mem _ hu)
    refine ⟨by simp [isDs, h1, g1], by simp [toDs, PyData.canLayAll0, h2, g2], ?_⟩
    simp only [toDs, PyData.depthAll]
    omega
theorem lay_lst {m : Nat} {ts : List T} (h : ∀ u ∈ ts, Lay m u) : Lay (m + 1) (.lst ts) := by
  obtain ⟨g1, g2, g3⟩ := lay_all h
  refine ⟨by simpa [isD] using g1, by simpa [toD, PyData.canLay0] using g2, ?_⟩
  simp only [toD, PyData.depth]
  omega
theorem lay_shaped {m : Nat} {t : T} (h : Lay m t) (hm : m ≤ 64) : isD t = true ∧ SeqAt.shaped (toD t) = true := by
  refine ⟨h.1, ?_⟩
  unfold SeqAt.shaped
  rw [h.2.1, Bool.true_and]
  have := h.2.2
  exact decide_eq_true (by omega)
theorem lay_nil : isD (.lst []) = true ∧ SeqAt.shaped (toD (.lst [])) = true := lay_shaped (m := 1) (lay_lst fun u hu => absurd hu (by simp)) (by decide)
theorem eqv_nil : ∀ ts : List T, PyData.eqv (toD (.lst ts)) (toD (.lst [])) = ts.isEmpty
  | [] => by simp [toD, toDs, PyData.eqv, PyData.eqvAll]
  | t :: ts => by simp [toD, toDs, PyData.eqv, PyData.eqvAll]
/-! marks, lines -/
theorem mark_eq (c : Nat) : markOk c = decide (c ∈ ("#." : Str).cps.toList) := by
  unfold markOk
  have e : ("#." : Str).cps.toList = [35, 46] := by decide +kernel
  have e1 : ("#" : Str) = ⟨#[35]⟩ := by decide +kernel
  have e2 : ("." : Str) = ⟨#[46]⟩ := by decide +kernel
  rw [e, e1, e2, Bool.eq_iff_iff]
  simp
def lineT (n : Int) : T := .lst [.str "line", .int n, .bl true]
def badsT (zs : List Str) (i : Nat) : List T := (((rng 4).take i).filter (badAt zs)).map lineT
theorem badsT_succ {zs : List Str} {i : Nat} {a : Int} (h : (rng 4)[i]? = some a) : badsT zs (i + 1) = badsT zs i ++ (if badAt zs a = true then [lineT a] else []) := by
  unfold badsT
  rw [take_get h, List.filter_append, List.map_append]
  cases hb : badAt zs a with
  | true =>
    rw [List.filter_cons_of_pos hb, if_pos rfl]
    rfl
  | false =>
    rw [List.filter_cons_of_neg (by rw [hb]; exact Bool.false_ne_true), if_neg Bool.false_ne_true]
    rfl
theorem badsT_len (zs : List Str) (i : Nat) : (badsT zs i).length ≤ 4 := by
  unfold badsT
  rw [List.length_map]
  refine Nat.le_trans (List.length_filter_le _ _) ?_
  rw [List.length_take, rng_len]
  omega
def dueT (zs : List Str) : List T := badsT zs 4 ++ (if decide ((4 : Int) < (zs.length : Int)) = true then [lineT 4] else [])
theorem bads4 (zs : List Str) : badsT zs 4 = ((rng 4).filter (badAt zs)).map lineT := rfl
theorem due_none {zs : List Str} (h : fb zs = none) : dueT zs = [] := by
  unfold fb at h
  unfold dueT
  rw [bads4]
  split at h
  · cases h
  · rename_i hn
    split at h
    · cases h
    · rename_i h4
      rw [if_neg h4]
      have : (rng 4).filter (badAt zs) = [] := List.filter_eq_nil_iff.mpr fun l hl => by
        have := List.find?_eq_none.mp hn l hl
        simpa using this
      rw [this]
      rfl
theorem due_some {zs : List Str} {n : Int} (h : fb zs = some n) : (dueT zs)[0]? = some (lineT n) := by
  unfold fb at h
  unfold dueT
  rw [bads4]
  split at h
  · rename_i l hl
    have e := Option.some.inj h
    subst e
    have : ((rng 4).filter (badAt zs)).head? = some l := by rw [List.head?_filter]; exact hl
    cases hf : (rng 4).filter (badAt zs) with
    | nil => rw [hf] at this; cases this
    | cons x r =>
      rw [hf] at this
      cases this
      rfl
  · rename_i hn
    split at h
    · rename_i h4
      cases h
      rw [if_pos h4]
      have : (rng 4).filter (badAt zs) = [] := List.filter_eq_nil_iff.mpr fun l hl => by
        have := List.find?_eq_none.mp hn l hl
        simpa using this
      rw [this]
      rfl
    · cases h
theorem due_lay {zs : List Str} : ∀ u ∈ dueT zs, Lay 1 u := fun u hu => by
  have go : ∀ n, Lay 1 (lineT n) := fun n => lay_lst (m := 0) fun v hv => by
    simp only [List.mem_cons, List.not_mem_nil, or_false] at hv
    rcases hv with rfl | rfl | rfl
    · exact lay_line 0
    · exact lay_int 0 n
    · exact lay_bl 0 true
  unfold dueT at hu
  rcases List.mem_append.mp hu with hu | hu
  · unfold badsT at hu
    obtain ⟨n, _, rfl⟩ := List.mem_map.mp hu
    exact go n
  · split at hu
    · have : u = lineT 4 := by simpa using hu
      rw [this]
      exact go 4
    · exact absurd hu (by simp)
theorem read_at {zs : List Str} (hz : Strs zs) (hf : fb zs = none) {i : Int} (h0 : 0 ≤ i) (h1 : i < 24) : ∃ z c, zs[(i % 4).toNat]? = some z ∧ z.length ≤ 1000 ∧ z.cps.toList[(i / 4).toNat]? = some c ∧ markAt zs i = decide ((⟨#[c]⟩ : Str) = "#") := by
  have hn : (rng 4).find? (badAt zs) = none := by
    unfold fb at hf
    split at hf
    · cases hf
    · assumption
  have hb : badAt zs (i % 4) = false := by
    have := List.find?_eq_none.mp hn (i % 4) (rng_mem.mpr (by omega))
    simpa using this
  unfold badAt at hb
  obtain ⟨hb1, hb2⟩ := Bool.or_eq_false_iff.mp hb
  have hl : (i % 4).toNat < zs.length := by
    have := of_decide_eq_false hb1
    omega
  have hg : zs[(i % 4).toNat]? = some (zs.getD (i % 4).toNat "") := by
    rw [List.getD_eq_getElem?_getD, List.getElem?_eq_getElem hl]
    rfl
  have hgl : goodLine (zs.getD (i % 4).toNat "") = true := by simpa using hb2
  unfold goodLine at hgl
  obtain ⟨hg1, _⟩ := Bool.and_eq_true_iff.mp hgl
  have hg1 := of_decide_eq_true hg1
  have hc : (i / 4).toNat < (zs.getD (i % 4).toNat "").cps.toList.length := by
    rw [cps_len]
    omega
  refine ⟨_, _, hg, hz.2 _ (List.mem_of_getElem? hg), List.getElem?_eq_getElem hc, ?_⟩
  unfold markAt
  rw [hg]
  dsimp only
  rw [List.getElem?_eq_getElem hc]
theorem strs_set {zs : List Str} {z : Str} (h : Strs zs) (hz : z.length ≤ 1000) (i : Nat) : Strs (zs.set i z) := ⟨by rw [List.length_set]; exact h.1, fun y hy => by
  rcases List.mem_or_eq_of_mem_set hy with hy | e
  · exact h.2 y hy
  · rw [e]
    exact hz⟩
theorem str_app_len (a b : Str) : (a ++ b).length = a.length + b.length := by
  show (a.cps ++ b.cps).size = _
  rw [Array.size_append]
  rfl
theorem nonempty_marks (xs : List Nat) : (!((xs.filter fun c => !decide (c ∈ ("#." : Str).cps.toList)).map fun _ => T.int 1).isEmpty) = !(xs.all markOk) := by
  induction xs with
  | nil => rfl
  | cons c xs ih =>
    rw [List.all_cons, mark_eq]
    cases h : decide (c ∈ ("#." : Str).cps.toList) with
    | true =>
      rw [List.filter_cons_of_neg (by rw [h]; decide), ih]
      rfl
    | false =>
      rw [List.filter_cons_of_pos (by rw [h]; rfl)]
      rfl
abbrev D__law_bent_right (P : Program) (w : World) (K : PySem.W.Frag) (mg : Str → Option Value) (base : Heap) : Prop := Df P w K mg base "_law_bent_right" 7 ["_law_tin"] (spT 90000 29 Pr__law_bent_right R__law_bent_right)
theorem ok__law_bent_right (F : Fun K "_law_bent_right" "_law_bent_right" s__law_bent_right f fd) (tx : Tx mg) (g__law_take : D__law_take P w K mg base) (g__law_of : D__law_of P w K mg base) (g__law_some_lot : D__law_some_lot P w K mg base) (g__law_drawn : D__law_drawn P w K mg base) (g__law_heard : D__law_heard P w K mg base) (g__law_same : D__law_same 3 P w K mg base) : FnOk P w K mg base CX0 7 f fd ["_law_tin"] (spT 90000 29 Pr__law_bent_right R__law_bent_right) := by
  refine fn_T F sc__law_bent_right (fun ts h => by cases h <;> rfl) fun cdv A outer s H E hr Z0 H0 a n ts hn hP => ?_
  cases hP with
  | mk =>
    have rest : ∀ (zs : List Str) (kd k : Int) (w4 : Option T), Strs zs → WpB (cxOf CX0 P w K mg base N__law_bent_right "_law_bent_right" (defScope s__law_bent_right) f cdv A outer s H E).nox ⟨Z0, H0, [(a, .tin (n + 29))]⟩ ((defBody s__law_bent_right).drop 3) [some (.ptr a), some (.lst (zs.map T.str)), some (.int kd), some (.int k), w4, none, none, none, none, none]
        { nx := fun _ _ => False, rt := fun M' u => (∃ j : Nat, M'.os[j]? = some (a, Own.tin (n + 29))) ∧ R__law_bent_right [] u } := fun zs kd k w4 hz => by
      refine wpb_cons (wps_set 5 sc__law_bent_right.nd rfl (Or.inl rfl) rfl rfl ?_)
      walk_at "es"
      refine wpb_cons (wps_for PassesOwn.never rfl (tg_name 6 sc__law_bent_right.nd rfl (by walk_at "loc") (by walk_at "loc")) (fun _ => rfl) (wpi_range tx.nRange rfl rfl ?_))
      walk_at "es"
      refine ⟨fun i M' sl' => M' = ⟨Z0, H0, [(a, .tin (n + 29))]⟩ ∧ ∃ w6 w7, sl' = [some (.ptr a), some (.lst (zs.map T.str)), some (.int kd), some (.int k), w4, some (.lst (badsT zs i)), w6, w7, none, none], ⟨rfl, none, none, rfl⟩, ?_, ?_⟩
      · rintro i M2 sl2 t ht ⟨rfl, w6, w7, rfl⟩
        obtain ⟨c, hc, rfl⟩ := mapget ht
        have hc2 : 0 ≤ c ∧ c < 4 := rng_mem.mp (List.mem_of_getElem? hc)
        have hbl := badsT_len zs i
        have hsucc := badsT_succ (zs := zs) hc
        have hg : (c < (zs.length : Int)) → zs[c.toNat]? = some (zs.getD c.toNat "") := fun h => by
          have hl : c.toNat < zs.length := by omega
          rw [List.getD_eq_getElem?_getD, List.getElem?_eq_getElem hl]
          rfl
        have hzl : (c < (zs.length : Int)) → (zs.getD c.toNat "").length ≤ 1000 := fun h => hz.2 _ (List.mem_of_getElem? (hg h))
        have hbad : badAt zs c = (decide ((zs.length : Int) ≤ c) || !goodLine (zs.getD c.toNat "")) := rfl
        refine ⟨_, rfl, ?_⟩
        refine wpb_cons (wps_set 7 sc__law_bent_right.nd rfl (Or.inl rfl) rfl rfl ?_)
        refine wp_andJ (decide (((zs.getD c.toNat "").length : Int) = 6)) ?_
        walk_at "es"
        rw [List.length_map]
        refine ⟨fun h => ?_, ?_⟩
        · have h := of_decide_eq_true h
          have hzl := hzl h
          walk_at "es"
          refine idx_lst hc2.1 (by rw [List.getElem?_map, hg h]; rfl) ?_
          walk_at "es"
          exact ⟨rfl, rfl⟩
        refine wpb_cons (wps_if ?_)
        walk_at "es"
        refine iteC (fun h => ?_) fun h => ?_
        · have hb : badAt zs c = true := by
            rw [hbad]
            unfold goodLine
            cases h1 : decide (c < (zs.length : Int)) with
            | false =>
              have := of_decide_eq_false h1
              rw [decide_eq_true (by omega), Bool.true_or]
            | true =>
              rw [h1, Bool.true_and] at h
              have h2 : decide (((zs.getD c.toNat "").length : Int) = 6) = false := by simpa using h
              rw [h2, Bool.false_and]
              exact Bool.or_true _
          walk_at "es"
          refine wpb_cons (wps_set 5 sc__law_bent_right.nd rfl (Or.inl rfl) rfl rfl ?_)
          walk_at "es"
          refine wpb_nil ?_
          refine wpb_nil ?_
          refine ⟨rfl, some (.int c), some (.bl (decide (c < (zs.length : Int)) && decide (((zs.getD c.toNat "").length : Int) = 6))), ?_⟩
          rw [hsucc, if_pos hb]
          rfl
        · have h3 : (decide (c < (zs.length : Int)) && decide (((zs.getD c.toNat "").length : Int) = 6)) = true := by simpa using h
          obtain ⟨h1, h2⟩ := Bool.and_eq_true_iff.mp h3
          have h1 := of_decide_eq_true h1
          have hzl := hzl h1
          refine wpw_or1 (wpt_cmp (nomark _) ?_)
          refine wp_lcFil (own := [("_law_mark_so", 8)]) (zs.getD c.toNat "").cps.toList (fun m => T.str ⟨#[m]⟩) (fun m => !decide (m ∈ ("#." : Str).cps.toList)) (fun _ => T.int 1) rfl sc__law_bent_right.nd (blkOk_by rfl) (fun _ _ _ _ _ => tg_name 8 sc__law_bent_right.nd rfl (by walk_at "loc") (by walk_at "loc")) hsub1 (hno1 rfl) (fun _ => rfl) (by rw [cps_len]; omega) (wpi_str ?_)
          walk_at "es"
          refine idx_lst hc2.1 (by rw [List.getElem?_map, hg h1]; rfl) ?_
          refine ⟨_, rfl, rfl, fun m hm => ⟨_, rfl, ?_, ?_⟩, ?_⟩
          · intro M' s2 H2 C cl fp
            walk_at "es"
            exact ⟨rfl, rfl⟩
          · intro _ M' s2 H2 C cl fp
            walk_at "es"
            exact ⟨rfl, rfl⟩
          walk_at "es"
          have hlay : Lay 1 (.lst (((zs.getD c.toNat "").cps.toList.filter fun m => !decide (m ∈ ("#." : Str).cps.toList)).map fun _ => T.int 1)) := lay_lst (m := 0) fun u hu => by
            obtain ⟨_, _, rfl⟩ := List.mem_map.mp hu
            exact lay_int 0 1
          refine bin_neD hr.units hlay.1 lay_nil.1 (lay_shaped hlay (by decide)).2 lay_nil.2 ?_
          rw [eqv_nil, nonempty_marks]
          refine KB.mk ?_
          have hgl : goodLine (zs.getD c.toNat "") = (zs.getD c.toNat "").cps.toList.all markOk := by
            unfold goodLine
            rw [h2, Bool.true_and]
          have hle : decide ((zs.length : Int) ≤ c) = false := decide_eq_false (by omega)
          refine iteC (fun h4 => ?_) fun h4 => ?_
          · have hb : badAt zs c = true := by rw [hbad, hgl, h4, Bool.or_true]
            refine wpb_cons (wps_set 5 sc__law_bent_right.nd rfl (Or.inl rfl) rfl rfl ?_)
            walk_at "es"
            refine wpb_nil ?_
            refine wpb_nil ?_
            refine ⟨rfl, some (.int c), some (.bl (decide (c < (zs.length : Int)) && decide (((zs.getD c.toNat "").length : Int) = 6))), ?_⟩
            rw [hsucc, if_pos hb]
            rfl
          · have hb : badAt zs c = false := by rw [hbad, hgl, h4, hle]; rfl
            refine wpb_nil ?_
            refine wpb_nil ?_
            refine ⟨rfl, some (.int c), some (.bl (decide (c < (zs.length : Int)) && decide (((zs.getD c.toNat "").length : Int) = 6))), ?_⟩
            rw [hsucc, if_neg (by rw [hb]; exact Bool.false_ne_true), List.append_nil]
            rfl
      · rintro M2 sl2 ⟨rfl, w6, w7, rfl⟩
        rw [List.length_map, rng_len]
        refine wpb_cons (wps_set 5 sc__law_bent_right.nd rfl (Or.inl rfl) rfl rfl ?_)
        refine wp_bin ?_
        walk_at "var"
        refine wp_ifJ (.lst [lineT 4]) (.lst []) ?_
        walk_at "es"
        rw [List.length_map]
        refine ⟨?_, ?_, ?_⟩
        · walk_at "es"
          exact ⟨rfl, rfl⟩
        · walk_at "es"
          exact ⟨rfl, rfl⟩
        have e : (if decide ((4 : Int) < (zs.length : Int)) = true then T.lst [lineT 4] else T.lst []) = T.lst (if decide ((4 : Int) < (zs.length : Int)) = true then [lineT 4] else []) := by split <;> rfl
        rw [e]
        have hbl := badsT_len zs 4
        refine bin_catL (by split <;> simp <;> omega) ?_
        have hdue : badsT zs 4 ++ (if decide ((4 : Int) < (zs.length : Int)) = true then [lineT 4] else []) = dueT zs := rfl
        rw [hdue]
        have hll : Lay 2 (.lst (dueT zs)) := lay_lst due_lay
        refine wpb_cons (wps_if (wpt_cmp (nomark _) ?_))
        walk_at "es"
        refine bin_eqD hr.units hll.1 lay_nil.1 (lay_shaped hll (by decide)).2 lay_nil.2 ?_
        rw [eqv_nil]
        refine KB.mk ?_
        cases hfb : fb zs with
        | none =>
          have hd := due_none hfb
          rw [hd]
          refine iteT ?_
          refine wpb_cons (wps_set 5 sc__law_bent_right.nd rfl (Or.inl rfl) rfl rfl ?_)
          walk_at "es"
          refine wp_lcFil (own := [("_law_own", 9)]) (rng 24) T.int (fun i => markAt zs i) T.int rfl sc__law_bent_right.nd (blkOk_by rfl) (fun _ _ _ _ _ => tg_name 9 sc__law_bent_right.nd rfl (by walk_at "loc") (by walk_at "loc")) hsub1 (hno1 rfl) (fun _ => rfl) (by decide) (wpi_range tx.nRange rfl rfl ?_)
          walk_at "es"
          refine ⟨rfl, fun i hi => ⟨_, rfl, ?_, ?_⟩, ?_⟩
          · intro M' s2 H2 C cl fp
            have hi2 : 0 ≤ i ∧ i < 24 := rng_mem.mp hi
            obtain ⟨z, c, h1, h2, h3, h4⟩ := read_at hz hfb hi2.1 hi2.2
            walk_at "es"
            refine idx_lst (by omega) (by rw [List.getElem?_map, h1]; rfl) ?_
            walk_at "es"
            refine idx_str (by omega) (by omega) h3 ?_
            walk_at "es"
            exact ⟨rfl, h4.symm⟩
          · intro _ M' s2 H2 C cl fp
            walk_at "es"
            exact ⟨rfl, rfl⟩
          walk_at "es"
          refine wpb_nil ?_
          refine wpb_cons (wps_ret ?_)
          walk_at "es"
          refine idx_lst (by decide) rfl ?_
          walk_at "es"
          refine bin_repL (by decide) (by decide) (by simp) ?_
          walk_at "es"
          have hG : Good 3 (.lst [tI (readS zs), tI (readS zs)]) := by
            have g1 : Good 2 (tI (readS zs)) := good_tI (Nat.le_trans (List.length_filter_le _ _) (by rw [rng_len]; decide))
            exact good_lst (by simp) (good_cons g1 (good_cons g1 good_nil))
          refine ⟨_, same_of rfl hG, ?_⟩
          exact ⟨⟨0, rfl⟩, .mk⟩
        | some m =>
          have hd := due_some hfb
          have hne : (dueT zs).isEmpty = false := by
            cases hq : dueT zs with
            | nil =>
              rw [hq] at hd
              cases hd
            | cons x r => rfl
          rw [hne]
          refine iteF ?_
          refine wpb_nil ?_
          refine wpb_cons (wps_ret ?_)
          walk_at "es"
          refine ⟨_, .badT zs m hz hfb, ?_⟩
          walk_at "es"
          refine ⟨_, .badL zs m hz hfb, ?_⟩
          walk_at "es"
          refine idx_lst (i := 0) (by decide) hd ?_
          walk_at "es"
          refine bin_repL (by decide) (by decide) (by simp) ?_
          walk_at "es"
          have hG : Good 3 (.lst [lineT m, lineT m]) := by
            have g1 : Good 2 (lineT m) := good_lst (by simp) (good_cons (good_str _ (by decide)) (good_cons (good_int _ _) (good_cons (good_bl _ _) good_nil)))
            exact good_lst (by simp) (good_cons g1 (good_cons g1 good_nil))
          refine ⟨_, same_of rfl hG, ?_⟩
          exact ⟨⟨0, rfl⟩, .mk⟩
  
    refine wpb_cons (wps_own 1 sc__law_bent_right.nd rfl (by walk_at "loc") rfl rfl (wpn_list tx.nList (by decide +kernel) rfl rfl ?_))
    refine wp_call g__law_drawn (by walk_at "rm") rfl rfl rfl (wpa_cons rfl ?_)
    refine wp_callT g__law_some_lot (by walk_at "rm") rfl rfl rfl ?_
    walk_at "es"
    refine ⟨0, a, n, _, rfl, rfl, by omega, .mk _ (by decide) (by decide), fun t hR => ?_⟩
    obtain ⟨A1, hA1, rfl⟩ : ∃ xs, Lot xs ∧ t = tI xs := by
      cases hR with
      | mk _ xs h => exact ⟨xs, h, rfl⟩
    refine wpa_nil ⟨_, R__law_drawn.mkT A1 (par_len hA1), ?_⟩
    refine ⟨false, _, rfl, fun p => ?_⟩
    have hZ := draw_strs A1
    have hZl := draw_len A1
    have hZm : ∀ z ∈ drawS A1, z.length = 6 := fun z hz => (draw_mem hz).1
    generalize drawS A1 = Z at hZ hZl hZm
    refine wpb_cons (wps_par 2 3 rfl sc__law_bent_right.nd rfl rfl (by decide) rfl rfl rfl rfl ?_)
    refine wpa_cons rfl ?_
    refine wp_callT g__law_take (by walk_at "rm") rfl rfl rfl ?_
    walk_at "es"
    refine ⟨1, a, n + 25, _, rfl, rfl, by omega, .mk _ (by decide) (by decide), fun t hR => ?_⟩
    obtain ⟨kd, kd0, kd1, rfl⟩ : ∃ r : Int, 0 ≤ r ∧ r < 5 ∧ t = .int r := by
      cases hR with
      | mk _ r g0 g1 => exact ⟨r, g0, g1, rfl⟩
    refine wpa_cons rfl ?_
    refine wp_callT g__law_take (by walk_at "rm") rfl rfl rfl ?_
    walk_at "es"
    refine ⟨1, a, n + 25 + 1, _, rfl, rfl, by omega, .mk _ (by decide) (by decide), fun t hR => ?_⟩
    obtain ⟨k, k0, k1, rfl⟩ : ∃ r : Int, 0 ≤ r ∧ r < 4 ∧ t = .int r := by
      cases hR with
      | mk _ r g0 g1 => exact ⟨r, g0, g1, rfl⟩
    refine wpa_nil ⟨_, _, rfl, ?_⟩
    have hk : k.toNat < Z.length := by omega
    have hg : (Z.map T.str)[k.toNat]? = some (.str (Z[k.toNat]'hk)) := by rw [List.getElem?_map, List.getElem?_eq_getElem hk]; rfl
    have hz6 : (Z[k.toNat]'hk).length = 6 := hZm _ (List.getElem_mem hk)
    generalize Z[k.toNat]'hk = z at hg hz6
    refine wpb_cons (wps_if ?_)
    walk_at "es"
    refine iteC (fun h => ?_) fun h => ?_
    · refine wpb_cons (wps_setItem 1 0 rfl rfl (by walk_at "vis") (fun v => rfl) rfl rfl rfl ?_)
      refine wp_slice ?_
      walk_at "es"
      refine idx_own (j := 0) rfl k0 hg ?_
      refine wpo_none (wpo_some ?_)
      refine wp_callT g__law_take (by walk_at "rm") rfl rfl rfl ?_
      walk_at "es"
      refine ⟨1, a, n + 25 + 1 + 1, _, rfl, rfl, by omega, .mk _ (by decide) (by decide), fun t hR => ?_⟩
      obtain ⟨q, q0, q1, rfl⟩ : ∃ r : Int, 0 ≤ r ∧ r < 6 ∧ t = .int r := by
        cases hR with
        | mk _ r g0 g1 => exact ⟨r, g0, g1, rfl⟩
      refine ⟨q, rfl, ?_⟩
      refine sli_str (by omega) ?_
      have hcl := cutS_length z none (some q)
      walk_at "es"
      refine ⟨_, _, rfl, rfl, k0, by rw [List.length_map]; omega, ?_⟩
      repeat refine wpb_nil ?_
      refine wpb_close 1 rfl rfl ?_
      refine wpb_moreTin (j := 0) (a := a) (n' := n + 29) rfl (by omega) ?_
      have e : (Z.map T.str).set k.toNat (.str (cutS z none (some q))) = (Z.set k.toNat (cutS z none (some q))).map T.str := by rw [List.map_set]
      rw [e]
      exact rest _ kd k none (strs_set hZ (by omega) _)
    refine wpb_cons (wps_if ?_)
    walk_at "es"
    refine iteC (fun h => ?_) fun h => ?_
    · refine wpb_cons (wps_set 4 sc__law_bent_right.nd rfl (Or.inl rfl) rfl rfl ?_)
      refine wp_callT g__law_take (by walk_at "rm") rfl rfl rfl ?_
      walk_at "es"
      refine ⟨1, a, n + 25 + 1 + 1, _, rfl, rfl, by omega, .mk _ (by decide) (by decide), fun t hR => ?_⟩
      obtain ⟨q, q0, q1, rfl⟩ : ∃ r : Int, 0 ≤ r ∧ r < 6 ∧ t = .int r := by
        cases hR with
        | mk _ r g0 g1 => exact ⟨r, g0, g1, rfl⟩
      refine wpb_cons (wps_setItem 1 0 rfl rfl (by walk_at "vis") (fun v => rfl) rfl rfl rfl ?_)
      refine wp_bin (wp_bin (wp_slice ?_))
      walk_at "es"
      refine idx_own (j := 0) rfl k0 hg ?_
      refine wpo_none (wpo_some ?_)
      walk_at "es"
      refine sli_str (by omega) ?_
      have hcl := cutS_length z none (some q)
      refine wp_callT g__law_of (by walk_at "rm") rfl rfl rfl ?_
      walk_at "es"
      refine ⟨1, a, n + 25 + 1 + 1 + 1, _, rfl, rfl, by omega, .mk _ (by simp) (by simp), fun t hR => ?_⟩
      obtain ⟨y, hy, rfl⟩ : ∃ y : Str, y.length ≤ 2 ∧ t = .str y := by
        cases hR with
        | mk _ _ hh =>
          simp only [List.mem_cons, List.not_mem_nil, or_false] at hh
          rcases hh with rfl | rfl | rfl | rfl | rfl | rfl <;> exact ⟨_, by decide, rfl⟩
      refine bin_catS (by omega) ?_
      refine wp_slice ?_
      walk_at "es"
      refine idx_own (j := 0) rfl k0 hg ?_
      refine wpo_some ?_
      walk_at "es"
      refine wpo_none ?_
      refine sli_str (by omega) ?_
      have hcl2 := cutS_length z (some (q + 1)) none
      refine bin_catS (by rw [str_app_len]; omega) ?_
      walk_at "es"
      refine ⟨_, _, rfl, rfl, k0, by rw [List.length_map]; omega, ?_⟩
      repeat refine wpb_nil ?_
      refine wpb_close 1 rfl rfl ?_
      have e : (Z.map T.str).set k.toNat (.str (cutS z none (some q) ++ y ++ cutS z (some (q + 1)) none)) = (Z.set k.toNat (cutS z none (some q) ++ y ++ cutS z (some (q + 1)) none)).map T.str := by rw [List.map_set]
      rw [e]
      have hzz : (cutS z none (some q) ++ y ++ cutS z (some (q + 1)) none).length ≤ 1000 := by
        rw [str_app_len, str_app_len]
        omega
      exact rest _ kd k _ (strs_set hZ hzz _)
    refine wpb_cons (wps_if ?_)
    walk_at "es"
    refine iteC (fun h => ?_) fun h => ?_
    · refine wpb_close 1 rfl rfl ?_
      refine wpb_cons (wps_set 1 sc__law_bent_right.nd rfl (by walk_at "loc") rfl rfl ?_)
      refine wp_slice ?_
      walk_at "es"
      refine wpo_none (wpo_some ?_)
      walk_at "es"
      refine sli_lst ?_
      repeat refine wpb_nil ?_
      refine wpb_moreTin (j := 0) (a := a) (n' := n + 29) rfl (by omega) ?_
      have e : cutT (Z.map T.str) none (some k) = (cutT Z none (some k)).map T.str := by
        unfold cutT
        rw [List.map_take, List.map_drop, List.length_map]
      rw [e]
      refine rest (cutT Z none (some k)) kd k none ⟨Nat.le_trans (cut_len _ _ _) hZ.1, fun y hy => hZ.2 y ?_⟩
      unfold cutT at hy
      exact List.mem_of_mem_drop (List.mem_of_mem_take hy)
    refine wpb_cons (wps_if ?_)
    walk_at "es"
    refine iteC (fun h => ?_) fun h => ?_
    · refine wpb_cons (wps_append 1 0 rfl rfl (by walk_at "vis") rfl rfl rfl rfl rfl rfl ?_)
      walk_at "es"
      refine idx_own (j := 0) rfl k0 hg ?_
      refine ⟨_, rfl, by rw [List.length_map]; omega, ?_⟩
      repeat refine wpb_nil ?_
      refine wpb_close 1 rfl rfl ?_
      refine wpb_moreTin (j := 0) (a := a) (n' := n + 29) rfl (by omega) ?_
      have e : Z.map T.str ++ [.str z] = (Z ++ [z]).map T.str := by rw [List.map_append]; rfl
      rw [e]
      refine rest (Z ++ [z]) kd k none ⟨by rw [List.length_append, hZl]; show 4 + 1 ≤ 1000; decide, fun y hy => ?_⟩
      rcases List.mem_append.mp hy with hy | hy
      · exact hZ.2 y hy
      · have : y = z := by simpa using hy
        rw [this]
        omega
    · refine wpb_cons (wps_setItem 1 0 rfl rfl (by walk_at "vis") (fun v => rfl) rfl rfl rfl ?_)
      walk_at "es"
      refine idx_own (j := 0) rfl k0 hg ?_
      walk_at "es"
      try refine bin_catS (by show z.length + 1 ≤ 100000; omega) ?_
      walk_at "es"
      refine ⟨_, _, rfl, rfl, k0, by rw [List.length_map]; omega, ?_⟩
      repeat refine wpb_nil ?_
      refine wpb_close 1 rfl rfl ?_
      refine wpb_moreTin (j := 0) (a := a) (n' := n + 29) rfl (by omega) ?_
      have e : (Z.map T.str).set k.toNat (.str (z ++ ".")) = (Z.set k.toNat (z ++ ".")).map T.str := by rw [List.map_set]
      rw [e]
      have hzz : (z ++ ".").length ≤ 1000 := by
        rw [str_app_len]
        have h1 : (("." : Str)).length = 1 := by decide
        omega
      exact rest _ kd k none (strs_set hZ hzz _)
end

section
variable {P : Program} {w : World} {K : PySem.W.Frag} {mg : Str → Option Value} {base : Heap} {f : Addr} {fd : FuncData}
abbrev s__law_right : Stmt := topS 56
abbrev N__law_right : List Str := ["_law_tin", "_law_lap"]
theorem sc__law_right : FnScope N__law_right ["_law_tin"] (defScope s__law_right) := ⟨rfl, rfl, rfl, by decide +kernel, rfl, by decide +kernel, by decide +kernel⟩
abbrev Pr__law_right := Pr_nil
abbrev R__law_right := R_true
abbrev D__law_right (P : Program) (w : World) (K : PySem.W.Frag) (mg : Str → Option Value) (base : Heap) : Prop := Df P w K mg base "_law_right" 8 ["_law_tin"] (spT 1000 413 Pr__law_right R__law_right)
theorem ok__law_right (F : Fun K "_law_right" "_law_right" s__law_right f fd) (tx : Tx mg) (g__law_lamps_right : D__law_lamps_right P w K mg base) (g__law_all_right : D__law_all_right P w K mg base) (g__law_lot_right : D__law_lot_right P w K mg base) (g__law_bent_right : D__law_bent_right P w K mg base) : FnOk P w K mg base CX0 8 f fd ["_law_tin"] (spT 1000 413 Pr__law_right R__law_right) := by
  refine fn_T F sc__law_right (fun ts h => by cases h <;> rfl) fun cdv A outer s H E hr Z0 H0 a n ts hn hP => ?_
  cases hP with
  | mk =>
    refine wpb_cons (wps_if ?_)
    walk_at "es"
    refine ⟨0, a, n, _, rfl, rfl, by omega, .mk, fun t hR => ?_⟩
    cases hR
    walk_at "es"
    refine ⟨0, a, n + 2, _, rfl, rfl, by omega, .mk, fun t hR => ?_⟩
    cases hR
    walk_at "es"
    refine wpb_nil ?_
    refine wpb_cons (wps_for PassesOwn.never rfl (tg_name 1 sc__law_right.nd rfl (by walk_at "loc") (by walk_at "loc")) (fun _ => rfl) (wpi_range tx.nRange rfl rfl ?_))
    walk_at "es"
    refine ⟨fun i M' sl' => M' = ⟨Z0, H0, [(a, .tin (n + 2 + 9 + 134 * i))]⟩ ∧ ∃ w, sl' = [some (.ptr a), w], ⟨rfl, none, rfl⟩, ?_, ?_⟩
    · rintro i M2 sl2 t ht ⟨rfl, w, rfl⟩
      obtain ⟨l, hl, rfl⟩ := mapget ht
      have hi : i < 3 := by
        have := (List.getElem?_eq_some_iff.mp hl).1
        rwa [rng_len] at this
      refine ⟨_, rfl, ?_⟩
      refine wpb_cons (wps_if ?_)
      walk_at "es"
      refine ⟨0, a, n + 2 + 9 + 134 * i, _, rfl, rfl, by omega, .mk, fun t hR => ?_⟩
      cases hR
      walk_at "es"
      refine ⟨0, a, n + 2 + 9 + 134 * i + 76, _, rfl, rfl, by omega, .mk, fun t hR => ?_⟩
      cases hR
      walk_at "es"
      refine ⟨0, a, n + 2 + 9 + 134 * i + 76 + 29, _, rfl, rfl, by omega, .mk, fun t hR => ?_⟩
      cases hR
      walk_at "es"
      refine wpb_nil ?_
      refine wpb_nil ?_
      refine ⟨?_, some (.int l), rfl⟩
      have e : n + 2 + 9 + 134 * (i + 1) = n + 2 + 9 + 134 * i + 76 + 29 + 29 := by omega
      rw [e]
      rfl
    · rintro M2 sl2 ⟨rfl, w, rfl⟩
      rw [List.length_map, rng_len]
      refine wpb_cons (wps_ret ?_)
      walk_at "es"
      exact ⟨⟨0, rfl⟩, .mk⟩
abbrev s_law : Stmt := topS 57
abbrev N_law : List Str := ["_law_script"]
theorem sc_law : FnScope N_law ["_law_script"] (defScope s_law) := ⟨rfl, rfl, rfl, by decide +kernel, rfl, by decide +kernel, by decide +kernel⟩
def sp_law (K : PySem.W.Frag) : Sp := fun vs H Q _ => ∃ (a : Addr) (ns : List Int), vs = [.ref a] ∧ ns.length ≤ 63 ∧ SqL K H a (ns.map V.int) ∧ ∀ H', Q (.bl true) H'
theorem sql_same {K : PySem.W.Frag} {H H' : Hp} {a : Addr} {xs : List V} (s : Same H H') (h : SqL K H a xs) : SqL K H' a xs := by
  rcases h with h | h
  · refine .inl ?_
    rcases h with h | ⟨o, h⟩
    · exact .inl (s _ _ h)
    · exact .inr ⟨o, s _ _ h⟩
  · exact .inr h
structure DfC (P : Program) (w : World) (K : PySem.W.Frag) (mg : Str → Option Value) (base : Heap) : Prop where
  ex : ∃ f fd, FnOk P w K mg base CX0 1 f fd ["_law_script", "_law_most_so"] (spC K) ∧ mg "_law_cells" = some (.ref f) ∧ PySem.W.keepIn K (.ref f) = true ∧ Binds K fd ["_law_script", "_law_most_so"] []
theorem ok_law (F : Fun K "law" "law" s_law f fd) (g1 : D__law_by_hand_right P w K mg base) (g2 : D__law_right P w K mg base) (g3 : D__law_box P w K mg base) (g4 : DfC P w K mg base) : FnOk P w K mg base CX0 9 f fd ["_law_script"] (sp_law K) := by
  refine F.ok sc_law (fun vs H Q E h => by obtain ⟨a, ns, rfl, _⟩ := h; rfl) fun cdv A outer s H vs Q E hr h => ?_
  obtain ⟨f1, fd1, F1, m1, k1, b1⟩ := g1.ex
  obtain ⟨f2, fd2, F2, m2, k2, b2⟩ := g2.ex
  obtain ⟨f3, fd3, F3, m3, k3, b3⟩ := g3.ex
  obtain ⟨f4, fd4, F4, m4, k4, b4⟩ := g4.ex
  refine ⟨_, pss_cons (ps_ret (pe_and (pe_call0 F1 (hr.mono (by decide)) rfl m1 k1 b1 .nil pass0) (pe_one (pe_call F2 (hr.mono (by decide)) rfl m2 k2 b2 .nil pass0 (pa_cons (pe_call F3 (hr.mono (by decide)) rfl m3 k3 b3 .nil pass0 (pa_cons (pe_call F4 (hr.mono (by decide)) rfl m4 k4 b4 .nil pass0 (pa_cons (pv 0) (pa_cons pe_int pa_nil))) (pa_cons pe_int pa_nil))) pa_nil))))) pss_nil, ?_⟩
  obtain ⟨a, ns, rfl, hl, hs, q⟩ := h
  refine ⟨fun _ => False, [], .bl true, fun _ h => h.elim, Rds.nil, .mk, fun v H1 s1 r1 => ⟨true, Rd.bl_iff.mp r1, ?_⟩⟩
  refine ⟨_, rfl, ?_⟩
  refine ⟨fun _ => False, a, ns, fun _ h => h.elim, rfl, sql_same s1 hs, hl, fun c v H2 s2 r2 => ?_⟩
  obtain ⟨p, ws, rfl, _, hp, rr⟩ := Rd.lst_iff.mp r2
  have := Rds.ints (ns := [c]) rr
  subst this
  refine ⟨fun b => H2 b ≠ none ∧ b ≠ p, [.lst [.int c], .int 0], _, fun b h => h.1, Rds.cons (Rd.lst_iff.mpr ⟨p, _, rfl, fun z => z.2 rfl, hp, Rds.ofInts [c]⟩) (Rds.one (Rd.int_iff.mpr rfl)), .mk c, fun v2 H3 s3 r3 => ?_⟩
  obtain ⟨p2, ws2, rfl, _, hp2, rr2⟩ := Rd.lst_iff.mp r3
  have := Rds.ints (ns := [boxX c, boxB c, 0]) rr2
  subst this
  refine ⟨fun b => b = p2, p2, 0, [], [], rfl, rfl, fun b hb => ?_, by decide, ⟨_, _, _, hp2, box_ok c⟩, Rds.nil, .mk, fun v3 H4 t _ _ hR r4 => ?_⟩
  · rw [hb, hp2]
    exact fun z => nomatch z
  · cases hR
    have := Rd.bl_iff.mp r4
    subst this
    exact q H4
end

theorem wit {K : PySem.W.Frag} {h : Heap} (_ : K.In h) {P : PySem.W.Frag → Prop} (p : P K) : P K := p
theorem def_mk {K : PySem.W.Frag} {h : Heap} {mg : Str → Option Value} {x : Str} {st : Stmt} {f : Addr} {oc : Value} {od an : Option Addr} {osl : Array (Option Value)} {kV doc pm cdv ct : Value} (X : K.In h) (G : h.Ns mainGlobals mg) (a : PySem.W.nsIn K mainGlobals x = some (some (.ref f)))
    (l : K.lookup f = some ⟨oc, od, .func (PySem.W.fnOf x x (defArgs st) (defBody st) (defScope st) .none kV doc pm an cdv ct), osl⟩) (c : PySem.W.codeIn K cdv x = true) (k : PySem.W.keepIn K (.ref f) = true) : ∃ f fd, Fun K x x st f fd ∧ mg x = some (.ref f) :=
  ⟨f, _, fun_mk l c k, PySem.W.mg_of X G a⟩
theorem law_mk {K : PySem.W.Frag} {h : Heap} {mg : Str → Option Value} {fa f : Addr} {oc : Value} {od an : Option Addr} {osl : Array (Option Value)} {kV doc pm cdv ct : Value} (X : K.In h) (G : h.Ns mainGlobals mg) (hfa : mg "law" = some (.ref fa)) (a : PySem.W.nsIn K mainGlobals "law" = some (some (.ref f)))
    (l : K.lookup f = some ⟨oc, od, .func (PySem.W.fnOf "law" "law" (defArgs s_law) (defBody s_law) (defScope s_law) .none kV doc pm an cdv ct), osl⟩) (c : PySem.W.codeIn K cdv "law" = true) (k : PySem.W.keepIn K (.ref f) = true) : ∃ fd, Fun K "law" "law" s_law fa fd ∧ ∀ (s : Shared) (u : Value), BindsTo s fd ⟨[u], []⟩ [("_law_script", u)] := by
  have e := hfa.symm.trans (PySem.W.mg_of X G a)
  cases e
  exact ⟨_, fun_mk l c k, fun s u => .of_eq rfl⟩
theorem exm_self {K : PySem.W.Frag} {S : Addr} (h1 : PySem.W.subIn K (.ref S) (.type "BaseException") = some true) (h2 : PySem.W.isClsIn K S = true) (h3 : PySem.W.typeIn K (.ref S) = some (.type "type")) (h4 : PySem.W.subIn K (.ref S) (.ref S) = some true) :
    PySem.W.exmOne K (.ref S) (.ref S) = some true := by
  have e1 : (PySem.W.subIn K (.ref S) (.type "BaseException") == some true) = true := by rw [h1] <;> rfl
  have e2 : ((PySem.W.clsIn K S).isSome && PySem.W.typeIn K (.ref S) == some (.type "type")) = true := by
    have h2' : (PySem.W.clsIn K S).isSome = true := h2
    rw [h2', h3] <;> rfl
  show (if (PySem.W.subIn K (.ref S) (.type "BaseException") == some true) = true then (if ((PySem.W.clsIn K S).isSome && PySem.W.typeIn K (.ref S) == some (.type "type")) = true then PySem.W.subIn K (.ref S) (.ref S) else none) else none) = some true
  rw [if_pos e1, if_pos e2]
  exact h4
theorem cls_NoLamp {K : PySem.W.Frag} {h : Heap} {mg : Str → Option Value} {C f1 : Addr} (X : K.In h) (G : h.Ns mainGlobals mg) {nm q : Str} {N : Addr} {bs : List Value} {sn : List Str} {sub : List Value} {ab : Bool} {col : Option Bool} {dd : Option Addr} {m0 m1 m2 m3 m5 : Option Value} {od1 an1 : Option Addr} {sl1 : Array (Option Value)} {oc1 dc1 pm1 cd1 ct1 : Value}
    (aC : PySem.W.nsIn K mainGlobals "NoLamp" = some (some (.ref C)))
    (xL : K.lookup C = some (excClassObj nm q C N bs [.type "LookupError", .type "Exception", .type "BaseException", .type "object"] true sn sub ab col dd m0 m1 m2 m3 m5 "LookupError.__new__"))
    (sa : PySem.W.findIn K (.ref C) "__setattr__" = some (some (.builtin "object.__setattr__"))) (ga : PySem.W.findIn K (.ref C) "__getattribute__" = some (some (.builtin "BaseException.__getattribute__"))) (gg : PySem.W.findIn K (.ref C) "__getattr__" = some none) (nb : PySem.W.findIn K (.ref C) "lamp" = some none)
    (a1 : PySem.W.findIn K (.ref C) "__init__" = some (some (.ref f1))) (t1 : PySem.W.typeIn K (.ref f1) = some (.type "function"))
    (l1 : K.lookup f1 = some ⟨oc1, od1, .func (PySem.W.fnOf "__init__" "NoLamp.__init__" (PySem.XNoLamp.iA ⟨4, 17, 4, 21⟩ ⟨4, 23, 4, 27⟩) (PySem.XNoLamp.iB ⟨5, 8, 5, 12⟩ ⟨5, 8, 5, 17⟩ ⟨5, 20, 5, 24⟩ ⟨5, 8, 5, 24⟩) PySem.XNoLamp.iS .none .none dc1 pm1 an1 cd1 ct1), sl1⟩) (c1 : PySem.W.codeIn K cd1 "NoLamp.__init__" = true)
    (kC : PySem.W.keepIn K (.ref C) = true) (eC : PySem.W.subIn K (.ref C) (.type "BaseException") = some true) (tC : PySem.W.typeIn K (.ref C) = some (.type "type")) (hC : PySem.W.hasDictIn K C = true) (iC : PySem.W.isClsIn K C = true) (sC : PySem.W.subIn K (.ref C) (.ref C) = some true)
    (ki : PySem.W.kitOne K (.ref C) (.type "LookupError") = some true) (ca : PySem.W.findIn K (.ref C) "__class__" = some (some (.builtin "object.__class__"))) (cn : PySem.W.specialIn K (.builtin "object.__class__") "__get__" = some (some (.builtin "getset_descriptor.__get__"))) (ct : PySem.W.takesIn K (.builtin "object.__class__") = some true) (cm : PySem.W.mroIn K C (.type "object") = some true) :
    PySem.XNoLamp.Txt K mg C f1 :=
  { gC := PySem.W.mg_of X G aC, cls := ⟨nm, q, N, bs, sn, sub, ab, col, dd, m0, m1, m2, m3, m5, xL⟩, sa := sa, ga := ga, gg := gg, noN := nb, iC := a1, tC := t1, kC := kC, exC := eC, tyC := tC, hdC := hC, te := exm_self eC iC tC sC, ki := ki, ca := ca, cn := cn, ct := ct, cm := cm,
    fn := ⟨_, _, _, _, _, _, _, _, _, _, _, _, _, _, l1, c1⟩ }
theorem cls_BadLine {K : PySem.W.Frag} {h : Heap} {mg : Str → Option Value} {C f1 : Addr} (X : K.In h) (G : h.Ns mainGlobals mg) {nm q : Str} {N : Addr} {bs : List Value} {sn : List Str} {sub : List Value} {ab : Bool} {col : Option Bool} {dd : Option Addr} {m0 m1 m2 m3 m5 : Option Value} {od1 an1 : Option Addr} {sl1 : Array (Option Value)} {oc1 dc1 pm1 cd1 ct1 : Value}
    (aC : PySem.W.nsIn K mainGlobals "BadLine" = some (some (.ref C)))
    (xL : K.lookup C = some (excClassObj nm q C N bs [.type "ValueError", .type "Exception", .type "BaseException", .type "object"] true sn sub ab col dd m0 m1 m2 m3 m5 "ValueError.__new__"))
    (sa : PySem.W.findIn K (.ref C) "__setattr__" = some (some (.builtin "object.__setattr__"))) (ga : PySem.W.findIn K (.ref C) "__getattribute__" = some (some (.builtin "BaseException.__getattribute__"))) (gg : PySem.W.findIn K (.ref C) "__getattr__" = some none) (nb : PySem.W.findIn K (.ref C) "number" = some none)
    (a1 : PySem.W.findIn K (.ref C) "__init__" = some (some (.ref f1))) (t1 : PySem.W.typeIn K (.ref f1) = some (.type "function"))
    (l1 : K.lookup f1 = some ⟨oc1, od1, .func (PySem.W.fnOf "__init__" "BadLine.__init__" (PySem.XBadLine.iA ⟨8, 17, 8, 21⟩ ⟨8, 23, 8, 29⟩) (PySem.XBadLine.iB ⟨9, 8, 9, 12⟩ ⟨9, 8, 9, 19⟩ ⟨9, 22, 9, 28⟩ ⟨9, 8, 9, 28⟩) PySem.XBadLine.iS .none .none dc1 pm1 an1 cd1 ct1), sl1⟩) (c1 : PySem.W.codeIn K cd1 "BadLine.__init__" = true)
    (kC : PySem.W.keepIn K (.ref C) = true) (eC : PySem.W.subIn K (.ref C) (.type "BaseException") = some true) (tC : PySem.W.typeIn K (.ref C) = some (.type "type")) (hC : PySem.W.hasDictIn K C = true) (iC : PySem.W.isClsIn K C = true) (sC : PySem.W.subIn K (.ref C) (.ref C) = some true)
    (ki : PySem.W.kitOne K (.ref C) (.type "ValueError") = some true) (ca : PySem.W.findIn K (.ref C) "__class__" = some (some (.builtin "object.__class__"))) (cn : PySem.W.specialIn K (.builtin "object.__class__") "__get__" = some (some (.builtin "getset_descriptor.__get__"))) (ct : PySem.W.takesIn K (.builtin "object.__class__") = some true) (cm : PySem.W.mroIn K C (.type "object") = some true) :
    PySem.XBadLine.Txt K mg C f1 :=
  { gC := PySem.W.mg_of X G aC, cls := ⟨nm, q, N, bs, sn, sub, ab, col, dd, m0, m1, m2, m3, m5, xL⟩, sa := sa, ga := ga, gg := gg, noN := nb, iC := a1, tC := t1, kC := kC, exC := eC, tyC := tC, hdC := hC, te := exm_self eC iC tC sC, ki := ki, ca := ca, cn := cn, ct := ct, cm := cm,
    fn := ⟨_, _, _, _, _, _, _, _, _, _, _, _, _, _, l1, c1⟩ }
theorem law_all {P : Program} {w : World} {K : PySem.W.Frag} {mg : Str → Option Value} {base : Heap} {C1 I1 C2 I2 : Addr} (tx : Tx mg) (te : TxE K mg C1 I1 C2 I2) (F_is_number : ∃ f fd, Fun K "is_number" "is_number" s_is_number f fd ∧ mg "is_number" = some (.ref f)) (F_is_count : ∃ f fd, Fun K "is_count" "is_count" s_is_count f fd ∧ mg "is_count" = some (.ref f)) (F_is_below : ∃ f fd, Fun K "is_below" "is_below" s_is_below f fd ∧ mg "is_below" = some (.ref f)) (F_sign_sum : ∃ f fd, Fun K "sign_sum" "sign_sum" s_sign_sum f fd ∧ mg "sign_sum" = some (.ref f)) (F_sure_lamp : ∃ f fd, Fun K "sure_lamp" "sure_lamp" s_sure_lamp f fd ∧ mg "sure_lamp" = some (.ref f)) (F_lamp_at : ∃ f fd, Fun K "lamp_at" "lamp_at" s_lamp_at f fd ∧ mg "lamp_at" = some (.ref f)) (F_column_of : ∃ f fd, Fun K "column_of" "column_of" s_column_of f fd ∧ mg "column_of" = some (.ref f)) (F_line_of : ∃ f fd, Fun K "line_of" "line_of" s_line_of f fd ∧ mg "line_of" = some (.ref f)) (F_two_sum : ∃ f fd, Fun K "two_sum" "two_sum" s_two_sum f fd ∧ mg "two_sum" = some (.ref f)) (F_lot_sum : ∃ f fd, Fun K "lot_sum" "lot_sum" s_lot_sum f fd ∧ mg "lot_sum" = some (.ref f)) (F_column_lamps : ∃ f fd, Fun K "column_lamps" "column_lamps" s_column_lamps f fd ∧ mg "column_lamps" = some (.ref f)) (F_column_signs : ∃ f fd, Fun K "column_signs" "column_signs" s_column_signs f fd ∧ mg "column_signs" = some (.ref f)) (F_parities : ∃ f fd, Fun K "parities" "parities" s_parities f fd ∧ mg "parities" = some (.ref f)) (F_line_sets : ∃ f fd, Fun K "line_sets" "line_sets" s_line_sets f fd ∧ mg "line_sets" = some (.ref f)) (F_column_ways : ∃ f fd, Fun K "column_ways" "column_ways" s_column_ways f fd ∧ mg "column_ways" = some (.ref f)) (F_lots_with : ∃ f fd, Fun K "lots_with" "lots_with" s_lots_with f fd ∧ mg "lots_with" = some (.ref f)) (F_drawn : ∃ f fd, Fun K "drawn" "drawn" s_drawn f fd ∧ mg "drawn" = some (.ref f)) (F_is_drawn_line : ∃ f fd, Fun K "is_drawn_line" "is_drawn_line" s_is_drawn_line f fd ∧ mg "is_drawn_line" = some (.ref f)) (F_read_drawn : ∃ f fd, Fun K "read_drawn" "read_drawn" s_read_drawn f fd ∧ mg "read_drawn" = some (.ref f)) (F__law_box : ∃ f fd, Fun K "_law_box" "_law_box" s__law_box f fd ∧ mg "_law_box" = some (.ref f)) (F__law_take : ∃ f fd, Fun K "_law_take" "_law_take" s__law_take f fd ∧ mg "_law_take" = some (.ref f)) (F__law_cells : ∃ f fd, Fun K "_law_cells" "_law_cells" s__law_cells f fd ∧ mg "_law_cells" = some (.ref f)) (F__law_of : ∃ f fd, Fun K "_law_of" "_law_of" s__law_of f fd ∧ mg "_law_of" = some (.ref f)) (F__law_pick : ∃ f fd, Fun K "_law_pick" "_law_pick" s__law_pick f fd ∧ mg "_law_pick" = some (.ref f)) (F__law_lists : ∃ f fd, Fun K "_law_lists" "_law_lists" s__law_lists f fd ∧ mg "_law_lists" = some (.ref f)) (F__law_same : ∃ f fd, Fun K "_law_same" "_law_same" s__law_same f fd ∧ mg "_law_same" = some (.ref f)) (F__law_subsets : ∃ f fd, Fun K "_law_subsets" "_law_subsets" s__law_subsets f fd ∧ mg "_law_subsets" = some (.ref f)) (F__law_signs_product : ∃ f fd, Fun K "_law_signs_product" "_law_signs_product" s__law_signs_product f fd ∧ mg "_law_signs_product" = some (.ref f)) (F__law_word_by : ∃ f fd, Fun K "_law_word_by" "_law_word_by" s__law_word_by f fd ∧ mg "_law_word_by" = some (.ref f)) (F__law_words : ∃ f fd, Fun K "_law_words" "_law_words" s__law_words f fd ∧ mg "_law_words" = some (.ref f)) (F__law_sign : ∃ f fd, Fun K "_law_sign" "_law_sign" s__law_sign f fd ∧ mg "_law_sign" = some (.ref f)) (F__law_lot_sum : ∃ f fd, Fun K "_law_lot_sum" "_law_lot_sum" s__law_lot_sum f fd ∧ mg "_law_lot_sum" = some (.ref f)) (F__law_some_lot : ∃ f fd, Fun K "_law_some_lot" "_law_some_lot" s__law_some_lot f fd ∧ mg "_law_some_lot" = some (.ref f)) (F__law_heard : ∃ f fd, Fun K "_law_heard" "_law_heard" s__law_heard f fd ∧ mg "_law_heard" = some (.ref f)) (F__law_signs_of : ∃ f fd, Fun K "_law_signs_of" "_law_signs_of" s__law_signs_of f fd ∧ mg "_law_signs_of" = some (.ref f)) (F__law_parities : ∃ f fd, Fun K "_law_parities" "_law_parities" s__law_parities f fd ∧ mg "_law_parities" = some (.ref f)) (F__law_ways : ∃ f fd, Fun K "_law_ways" "_law_ways" s__law_ways f fd ∧ mg "_law_ways" = some (.ref f)) (F__law_lots_with : ∃ f fd, Fun K "_law_lots_with" "_law_lots_with" s__law_lots_with f fd ∧ mg "_law_lots_with" = some (.ref f)) (F__law_drawn : ∃ f fd, Fun K "_law_drawn" "_law_drawn" s__law_drawn f fd ∧ mg "_law_drawn" = some (.ref f)) (F__law_lot_right : ∃ f fd, Fun K "_law_lot_right" "_law_lot_right" s__law_lot_right f fd ∧ mg "_law_lot_right" = some (.ref f)) (F__law_lamps_right : ∃ f fd, Fun K "_law_lamps_right" "_law_lamps_right" s__law_lamps_right f fd ∧ mg "_law_lamps_right" = some (.ref f)) (F__law_all_right : ∃ f fd, Fun K "_law_all_right" "_law_all_right" s__law_all_right f fd ∧ mg "_law_all_right" = some (.ref f)) (F__law_bent_right : ∃ f fd, Fun K "_law_bent_right" "_law_bent_right" s__law_bent_right f fd ∧ mg "_law_bent_right" = some (.ref f)) (F__law_by_hand_right : ∃ f fd, Fun K "_law_by_hand_right" "_law_by_hand_right" s__law_by_hand_right f fd ∧ mg "_law_by_hand_right" = some (.ref f)) (F__law_right : ∃ f fd, Fun K "_law_right" "_law_right" s__law_right f fd ∧ mg "_law_right" = some (.ref f)) {fa : Addr} {fd : FuncData} (FL : Fun K "law" "law" s_law fa fd) : FnOk P w K mg base CX0 9 fa fd ["_law_script"] (sp_law K) := by
  obtain ⟨f_is_number, fd_is_number, FF_is_number, m_is_number⟩ := F_is_number
  have g_is_number : D_is_number P w K mg base := ⟨f_is_number, fd_is_number, ok_is_number FF_is_number tx , m_is_number, FF_is_number.kp, FF_is_number.binds (fun _ _ _ _ _ _ us hl => match us, hl with | [_], _ => rfl)⟩
  obtain ⟨f_is_count, fd_is_count, FF_is_count, m_is_count⟩ := F_is_count
  have g_is_count : D_is_count P w K mg base := ⟨f_is_count, fd_is_count, ok_is_count FF_is_count tx g_is_number, m_is_count, FF_is_count.kp, FF_is_count.binds (fun _ _ _ _ _ _ us hl => match us, hl with | [_], _ => rfl)⟩
  obtain ⟨f_is_below, fd_is_below, FF_is_below, m_is_below⟩ := F_is_below
  have g_is_below : D_is_below P w K mg base := ⟨f_is_below, fd_is_below, ok_is_below FF_is_below tx g_is_count, m_is_below, FF_is_below.kp, FF_is_below.binds (fun _ _ _ _ _ _ us hl => match us, hl with | [_, _], _ => rfl)⟩
  obtain ⟨f_sign_sum, fd_sign_sum, FF_sign_sum, m_sign_sum⟩ := F_sign_sum
  have g_sign_sum : D_sign_sum P w K mg base := ⟨f_sign_sum, fd_sign_sum, ok_sign_sum FF_sign_sum tx , m_sign_sum, FF_sign_sum.kp, FF_sign_sum.binds (fun _ _ _ _ _ _ us hl => match us, hl with | [_], _ => rfl)⟩
  obtain ⟨f_sure_lamp, fd_sure_lamp, FF_sure_lamp, m_sure_lamp⟩ := F_sure_lamp
  have gS : DfX P w K mg base "sure_lamp" f_sure_lamp 4 ["lamp"] (spX R_sure_lamp Ex_sure_lamp C1 "lamp") := ⟨fd_sure_lamp, ok_sure_lamp FF_sure_lamp tx g_is_below te.t1, m_sure_lamp, FF_sure_lamp.kp, FF_sure_lamp.binds (fun _ _ _ _ _ _ us hl => match us, hl with | [_], _ => rfl)⟩
  obtain ⟨f_lamp_at, fd_lamp_at, FF_lamp_at, m_lamp_at⟩ := F_lamp_at
  have g_lamp_at : D_lamp_at P w K mg base := ⟨f_lamp_at, fd_lamp_at, ok_lamp_at FF_lamp_at tx , m_lamp_at, FF_lamp_at.kp, FF_lamp_at.binds (fun _ _ _ _ _ _ us hl => match us, hl with | [_, _], _ => rfl)⟩
  obtain ⟨f_column_of, fd_column_of, FF_column_of, m_column_of⟩ := F_column_of
  have gC : DfX P w K mg base "column_of" f_column_of 5 ["lamp"] (spX R_column_of Ex_sure_lamp C1 "lamp") := ⟨fd_column_of, ok_column_of FF_column_of tx gS, m_column_of, FF_column_of.kp, FF_column_of.binds (fun _ _ _ _ _ _ us hl => match us, hl with | [_], _ => rfl)⟩
  obtain ⟨f_line_of, fd_line_of, FF_line_of, m_line_of⟩ := F_line_of
  have gLi : DfX P w K mg base "line_of" f_line_of 5 ["lamp"] (spX R_line_of Ex_sure_lamp C1 "lamp") := ⟨fd_line_of, ok_line_of FF_line_of tx gS, m_line_of, FF_line_of.kp, FF_line_of.binds (fun _ _ _ _ _ _ us hl => match us, hl with | [_], _ => rfl)⟩
  obtain ⟨f_two_sum, fd_two_sum, FF_two_sum, m_two_sum⟩ := F_two_sum
  have g_two_sum : D_two_sum P w K mg base := ⟨f_two_sum, fd_two_sum, ok_two_sum FF_two_sum tx , m_two_sum, FF_two_sum.kp, FF_two_sum.binds (fun _ _ _ _ _ _ us hl => match us, hl with | [_, _], _ => rfl)⟩
  obtain ⟨f_lot_sum, fd_lot_sum, FF_lot_sum, m_lot_sum⟩ := F_lot_sum
  have g_lot_sum : D_lot_sum P w K mg base := ⟨f_lot_sum, fd_lot_sum, ok_lot_sum FF_lot_sum tx g_two_sum, m_lot_sum, FF_lot_sum.kp, FF_lot_sum.binds (fun _ _ _ _ _ _ us hl => match us, hl with | [_], _ => rfl)⟩
  obtain ⟨f_column_lamps, fd_column_lamps, FF_column_lamps, m_column_lamps⟩ := F_column_lamps
  have g_column_lamps : D_column_lamps P w K mg base := ⟨f_column_lamps, fd_column_lamps, ok_column_lamps FF_column_lamps tx , m_column_lamps, FF_column_lamps.kp, FF_column_lamps.binds (fun _ _ _ _ _ _ us hl => match us, hl with | [_, _], _ => rfl)⟩
  obtain ⟨f_column_signs, fd_column_signs, FF_column_signs, m_column_signs⟩ := F_column_signs
  have g_column_signs : D_column_signs P w K mg base := ⟨f_column_signs, fd_column_signs, ok_column_signs FF_column_signs tx , m_column_signs, FF_column_signs.kp, FF_column_signs.binds (fun _ _ _ _ _ _ us hl => match us, hl with | [_], _ => rfl)⟩
  obtain ⟨f_parities, fd_parities, FF_parities, m_parities⟩ := F_parities
  have g_parities : D_parities P w K mg base := ⟨f_parities, fd_parities, ok_parities FF_parities tx g_column_lamps, m_parities, FF_parities.kp, FF_parities.binds (fun _ _ _ _ _ _ us hl => match us, hl with | [_], _ => rfl)⟩
  obtain ⟨f_line_sets, fd_line_sets, FF_line_sets, m_line_sets⟩ := F_line_sets
  have g_line_sets : D_line_sets P w K mg base := ⟨f_line_sets, fd_line_sets, ok_line_sets FF_line_sets tx , m_line_sets, FF_line_sets.kp, FF_line_sets.binds (fun _ _ _ _ _ _ us hl => match us, hl with | [], _ => rfl)⟩
  obtain ⟨f_column_ways, fd_column_ways, FF_column_ways, m_column_ways⟩ := F_column_ways
  have g_column_ways : D_column_ways P w K mg base := ⟨f_column_ways, fd_column_ways, ok_column_ways FF_column_ways tx g_line_sets g_sign_sum, m_column_ways, FF_column_ways.kp, FF_column_ways.binds (fun _ _ _ _ _ _ us hl => match us, hl with | [_, _], _ => rfl)⟩
  obtain ⟨f_lots_with, fd_lots_with, FF_lots_with, m_lots_with⟩ := F_lots_with
  have g_lots_with : D_lots_with P w K mg base := ⟨f_lots_with, fd_lots_with, ok_lots_with FF_lots_with tx g_lamp_at g_column_ways, m_lots_with, FF_lots_with.kp, FF_lots_with.binds (fun _ _ _ _ _ _ us hl => match us, hl with | [_, _], _ => rfl)⟩
  obtain ⟨f_drawn, fd_drawn, FF_drawn, m_drawn⟩ := F_drawn
  have g_drawn : D_drawn P w K mg base := ⟨f_drawn, fd_drawn, ok_drawn FF_drawn tx g_lamp_at, m_drawn, FF_drawn.kp, FF_drawn.binds (fun _ _ _ _ _ _ us hl => match us, hl with | [_], _ => rfl)⟩
  obtain ⟨f_is_drawn_line, fd_is_drawn_line, FF_is_drawn_line, m_is_drawn_line⟩ := F_is_drawn_line
  have g_is_drawn_line : D_is_drawn_line P w K mg base := ⟨f_is_drawn_line, fd_is_drawn_line, ok_is_drawn_line FF_is_drawn_line tx , m_is_drawn_line, FF_is_drawn_line.kp, FF_is_drawn_line.binds (fun _ _ _ _ _ _ us hl => match us, hl with | [_], _ => rfl)⟩
  obtain ⟨f_read_drawn, fd_read_drawn, FF_read_drawn, m_read_drawn⟩ := F_read_drawn
  have gD : DfX P w K mg base "read_drawn" f_read_drawn 4 ["strings"] (spX R_read_drawn Ex_read_drawn C2 "number") := ⟨fd_read_drawn, ok_read_drawn FF_read_drawn tx g_is_drawn_line te.t2, m_read_drawn, FF_read_drawn.kp, FF_read_drawn.binds (fun _ _ _ _ _ _ us hl => match us, hl with | [_], _ => rfl)⟩
  obtain ⟨f__law_box, fd__law_box, FF__law_box, m__law_box⟩ := F__law_box
  have g__law_box : D__law_box P w K mg base := ⟨f__law_box, fd__law_box, ok__law_box FF__law_box tx , m__law_box, FF__law_box.kp, FF__law_box.binds (fun _ _ _ _ _ _ us hl => match us, hl with | [_, _], _ => rfl)⟩
  obtain ⟨f__law_take, fd__law_take, FF__law_take, m__law_take⟩ := F__law_take
  have g__law_take : D__law_take P w K mg base := ⟨f__law_take, fd__law_take, ok__law_take FF__law_take tx , m__law_take, FF__law_take.kp, FF__law_take.binds (fun _ _ _ _ _ _ us hl => match us, hl with | [_, _], _ => rfl)⟩
  obtain ⟨f__law_cells, fd__law_cells, FF__law_cells, m__law_cells⟩ := F__law_cells
  have g__law_cells : DfC P w K mg base := ⟨f__law_cells, fd__law_cells, ok__law_cells FF__law_cells tx, m__law_cells, FF__law_cells.kp, FF__law_cells.binds (fun _ _ _ _ _ _ us hl => match us, hl with | [_, _], _ => rfl)⟩
  obtain ⟨f__law_of, fd__law_of, FF__law_of, m__law_of⟩ := F__law_of
  have g__law_of : D__law_of P w K mg base := ⟨f__law_of, fd__law_of, ok__law_of FF__law_of tx g__law_take, m__law_of, FF__law_of.kp, FF__law_of.binds (fun _ _ _ _ _ _ us hl => match us, hl with | [_, _], _ => rfl)⟩
  obtain ⟨f__law_pick, fd__law_pick, FF__law_pick, m__law_pick⟩ := F__law_pick
  have g__law_pick : D__law_pick P w K mg base := ⟨f__law_pick, fd__law_pick, ok__law_pick FF__law_pick tx g__law_take, m__law_pick, FF__law_pick.kp, FF__law_pick.binds (fun _ _ _ _ _ _ us hl => match us, hl with | [_, _, _], _ => rfl)⟩
  obtain ⟨f__law_lists, fd__law_lists, FF__law_lists, m__law_lists⟩ := F__law_lists
  have g_l0 : D__law_lists0 P w K mg base := ⟨f__law_lists, fd__law_lists, ok__law_lists0 FF__law_lists tx, m__law_lists, FF__law_lists.kp, FF__law_lists.binds (fun _ _ _ _ _ _ us hl => match us, hl with | [_], _ => rfl)⟩
  have g_l1 : D__law_lists1 P w K mg base := ⟨f__law_lists, fd__law_lists, ok__law_lists1 FF__law_lists tx g_l0, m__law_lists, FF__law_lists.kp, FF__law_lists.binds (fun _ _ _ _ _ _ us hl => match us, hl with | [_], _ => rfl)⟩
  have g_l2 : D__law_lists2 P w K mg base := ⟨f__law_lists, fd__law_lists, ok__law_lists2 FF__law_lists tx g_l1, m__law_lists, FF__law_lists.kp, FF__law_lists.binds (fun _ _ _ _ _ _ us hl => match us, hl with | [_], _ => rfl)⟩
  obtain ⟨f__law_same, fd__law_same, FF__law_same, m__law_same⟩ := F__law_same
  have g_s0 : D__law_same 0 P w K mg base := ⟨f__law_same, fd__law_same, ok__law_same0 FF__law_same tx, m__law_same, FF__law_same.kp, FF__law_same.binds (fun _ _ _ _ _ _ us hl => match us, hl with | [_, _], _ => rfl)⟩
  have g_s1 : D__law_same 1 P w K mg base := ⟨f__law_same, fd__law_same, ok__law_same_succ FF__law_same tx g_s0, m__law_same, FF__law_same.kp, FF__law_same.binds (fun _ _ _ _ _ _ us hl => match us, hl with | [_, _], _ => rfl)⟩
  have g_s2 : D__law_same 2 P w K mg base := ⟨f__law_same, fd__law_same, ok__law_same_succ FF__law_same tx g_s1, m__law_same, FF__law_same.kp, FF__law_same.binds (fun _ _ _ _ _ _ us hl => match us, hl with | [_, _], _ => rfl)⟩
  have g_s3 : D__law_same 3 P w K mg base := ⟨f__law_same, fd__law_same, ok__law_same_succ FF__law_same tx g_s2, m__law_same, FF__law_same.kp, FF__law_same.binds (fun _ _ _ _ _ _ us hl => match us, hl with | [_, _], _ => rfl)⟩
  obtain ⟨f__law_subsets, fd__law_subsets, FF__law_subsets, m__law_subsets⟩ := F__law_subsets
  have g__law_subsets : D__law_subsets P w K mg base := ⟨f__law_subsets, fd__law_subsets, ok__law_subsets FF__law_subsets tx , m__law_subsets, FF__law_subsets.kp, FF__law_subsets.binds (fun _ _ _ _ _ _ us hl => match us, hl with | [_], _ => rfl)⟩
  obtain ⟨f__law_signs_product, fd__law_signs_product, FF__law_signs_product, m__law_signs_product⟩ := F__law_signs_product
  have g__law_signs_product : D__law_signs_product P w K mg base := ⟨f__law_signs_product, fd__law_signs_product, ok__law_signs_product FF__law_signs_product tx , m__law_signs_product, FF__law_signs_product.kp, FF__law_signs_product.binds (fun _ _ _ _ _ _ us hl => match us, hl with | [_, _], _ => rfl)⟩
  obtain ⟨f__law_word_by, fd__law_word_by, FF__law_word_by, m__law_word_by⟩ := F__law_word_by
  have g__law_word_by : D__law_word_by P w K mg base := ⟨f__law_word_by, fd__law_word_by, ok__law_word_by FF__law_word_by tx g__law_signs_product, m__law_word_by, FF__law_word_by.kp, FF__law_word_by.binds (fun _ _ _ _ _ _ us hl => match us, hl with | [_, _, _], _ => rfl)⟩
  obtain ⟨f__law_words, fd__law_words, FF__law_words, m__law_words⟩ := F__law_words
  have g__law_words : D__law_words P w K mg base := ⟨f__law_words, fd__law_words, ok__law_words FF__law_words tx g__law_word_by, m__law_words, FF__law_words.kp, FF__law_words.binds (fun _ _ _ _ _ _ us hl => match us, hl with | [], _ => rfl)⟩
  obtain ⟨f__law_sign, fd__law_sign, FF__law_sign, m__law_sign⟩ := F__law_sign
  have g__law_sign : D__law_sign P w K mg base := ⟨f__law_sign, fd__law_sign, ok__law_sign FF__law_sign tx , m__law_sign, FF__law_sign.kp, FF__law_sign.binds (fun _ _ _ _ _ _ us hl => match us, hl with | [_, _], _ => rfl)⟩
  obtain ⟨f__law_lot_sum, fd__law_lot_sum, FF__law_lot_sum, m__law_lot_sum⟩ := F__law_lot_sum
  have g__law_lot_sum : D__law_lot_sum P w K mg base := ⟨f__law_lot_sum, fd__law_lot_sum, ok__law_lot_sum FF__law_lot_sum tx , m__law_lot_sum, FF__law_lot_sum.kp, FF__law_lot_sum.binds (fun _ _ _ _ _ _ us hl => match us, hl with | [_, _], _ => rfl)⟩
  obtain ⟨f__law_some_lot, fd__law_some_lot, FF__law_some_lot, m__law_some_lot⟩ := F__law_some_lot
  have g__law_some_lot : D__law_some_lot P w K mg base := ⟨f__law_some_lot, fd__law_some_lot, ok__law_some_lot FF__law_some_lot tx g__law_take g__law_pick, m__law_some_lot, FF__law_some_lot.kp, FF__law_some_lot.binds (fun _ _ _ _ _ _ us hl => match us, hl with | [_, _], _ => rfl)⟩
  obtain ⟨f__law_heard, fd__law_heard, FF__law_heard, m__law_heard⟩ := F__law_heard
  have g__law_heard : D__law_heard P w K mg base := ⟨f__law_heard, fd__law_heard, ok__law_heard FF__law_heard tx te gC gLi gD, m__law_heard, FF__law_heard.kp, FF__law_heard.binds (fun _ _ _ _ _ _ us hl => match us, hl with | [_, _], _ => rfl)⟩
  obtain ⟨f__law_signs_of, fd__law_signs_of, FF__law_signs_of, m__law_signs_of⟩ := F__law_signs_of
  have g__law_signs_of : D__law_signs_of P w K mg base := ⟨f__law_signs_of, fd__law_signs_of, ok__law_signs_of FF__law_signs_of tx g__law_sign, m__law_signs_of, FF__law_signs_of.kp, FF__law_signs_of.binds (fun _ _ _ _ _ _ us hl => match us, hl with | [_], _ => rfl)⟩
  obtain ⟨f__law_parities, fd__law_parities, FF__law_parities, m__law_parities⟩ := F__law_parities
  have g__law_parities : D__law_parities P w K mg base := ⟨f__law_parities, fd__law_parities, ok__law_parities FF__law_parities tx , m__law_parities, FF__law_parities.kp, FF__law_parities.binds (fun _ _ _ _ _ _ us hl => match us, hl with | [_], _ => rfl)⟩
  obtain ⟨f__law_ways, fd__law_ways, FF__law_ways, m__law_ways⟩ := F__law_ways
  have g__law_ways : D__law_ways P w K mg base := ⟨f__law_ways, fd__law_ways, ok__law_ways FF__law_ways tx g__law_subsets g__law_sign, m__law_ways, FF__law_ways.kp, FF__law_ways.binds (fun _ _ _ _ _ _ us hl => match us, hl with | [_, _], _ => rfl)⟩
  obtain ⟨f__law_lots_with, fd__law_lots_with, FF__law_lots_with, m__law_lots_with⟩ := F__law_lots_with
  have g__law_lots_with : D__law_lots_with P w K mg base := ⟨f__law_lots_with, fd__law_lots_with, ok__law_lots_with FF__law_lots_with tx g__law_ways, m__law_lots_with, FF__law_lots_with.kp, FF__law_lots_with.binds (fun _ _ _ _ _ _ us hl => match us, hl with | [_, _], _ => rfl)⟩
  obtain ⟨f__law_drawn, fd__law_drawn, FF__law_drawn, m__law_drawn⟩ := F__law_drawn
  have g__law_drawn : D__law_drawn P w K mg base := ⟨f__law_drawn, fd__law_drawn, ok__law_drawn FF__law_drawn tx , m__law_drawn, FF__law_drawn.kp, FF__law_drawn.binds (fun _ _ _ _ _ _ us hl => match us, hl with | [_], _ => rfl)⟩
  obtain ⟨f__law_lot_right, fd__law_lot_right, FF__law_lot_right, m__law_lot_right⟩ := F__law_lot_right
  have g__law_lot_right : D__law_lot_right P w K mg base := ⟨f__law_lot_right, fd__law_lot_right, ok__law_lot_right FF__law_lot_right tx g__law_some_lot g__law_take g__law_lot_sum g_lot_sum g_l2 g_column_lamps g_column_signs g_parities g__law_signs_of g__law_parities g_drawn g__law_drawn g__law_heard g_s3, m__law_lot_right, FF__law_lot_right.kp, FF__law_lot_right.binds (fun _ _ _ _ _ _ us hl => match us, hl with | [_], _ => rfl)⟩
  obtain ⟨f__law_lamps_right, fd__law_lamps_right, FF__law_lamps_right, m__law_lamps_right⟩ := F__law_lamps_right
  have g__law_lamps_right : D__law_lamps_right P w K mg base := ⟨f__law_lamps_right, fd__law_lamps_right, ok__law_lamps_right FF__law_lamps_right tx g__law_take g__law_of g__law_heard g_lamp_at g_column_ways g__law_ways g_s3, m__law_lamps_right, FF__law_lamps_right.kp, FF__law_lamps_right.binds (fun _ _ _ _ _ _ us hl => match us, hl with | [_], _ => rfl)⟩
  obtain ⟨f__law_all_right, fd__law_all_right, FF__law_all_right, m__law_all_right⟩ := F__law_all_right
  have g__law_all_right : D__law_all_right P w K mg base := ⟨f__law_all_right, fd__law_all_right, ok__law_all_right FF__law_all_right tx g__law_take g__law_of g__law_words g__law_lots_with g_lots_with g__law_parities g_s3, m__law_all_right, FF__law_all_right.kp, FF__law_all_right.binds (fun _ _ _ _ _ _ us hl => match us, hl with | [_], _ => rfl)⟩
  obtain ⟨f__law_bent_right, fd__law_bent_right, FF__law_bent_right, m__law_bent_right⟩ := F__law_bent_right
  have g__law_bent_right : D__law_bent_right P w K mg base := ⟨f__law_bent_right, fd__law_bent_right, ok__law_bent_right FF__law_bent_right tx g__law_take g__law_of g__law_some_lot g__law_drawn g__law_heard g_s3, m__law_bent_right, FF__law_bent_right.kp, FF__law_bent_right.binds (fun _ _ _ _ _ _ us hl => match us, hl with | [_], _ => rfl)⟩
  obtain ⟨f__law_by_hand_right, fd__law_by_hand_right, FF__law_by_hand_right, m__law_by_hand_right⟩ := F__law_by_hand_right
  have g__law_by_hand_right : D__law_by_hand_right P w K mg base := ⟨f__law_by_hand_right, fd__law_by_hand_right, ok__law_by_hand_right gD FF__law_by_hand_right tx g_lot_sum g_column_signs g_parities g_drawn g_column_lamps g_column_ways g_lots_with g_lamp_at g__law_heard g_s3, m__law_by_hand_right, FF__law_by_hand_right.kp, FF__law_by_hand_right.binds (fun _ _ _ _ _ _ us hl => match us, hl with | [], _ => rfl)⟩
  obtain ⟨f__law_right, fd__law_right, FF__law_right, m__law_right⟩ := F__law_right
  have g__law_right : D__law_right P w K mg base := ⟨f__law_right, fd__law_right, ok__law_right FF__law_right tx g__law_lamps_right g__law_all_right g__law_lot_right g__law_bent_right, m__law_right, FF__law_right.kp, FF__law_right.binds (fun _ _ _ _ _ _ us hl => match us, hl with | [_], _ => rfl)⟩
  exact ok_law FL g__law_by_hand_right g__law_right g__law_box g__law_cells

end K3
open PySem PySem.W PyProof.Rows
set_option maxRecDepth 100000 in
set_option maxHeartbeats 0 in
theorem PySem.Challenge.cw_eightlots_k03_whole_lots_on_the_board_holds : PySem.Challenge.rw_eightlots_k03_whole_lots_on_the_board.Holds := by
  w_on; o_law; k_head; (case hw => w_witness2)
  k_fill
  refine L2.walk_ofK (l := PySem.Challenge.rw_eightlots_k03_whole_lots_on_the_board) (n := 63) (k := 9) (x := "_law_script") (CX := L2.CX0) (sp := K3.sp_law) rfl (by decide) rfl ⟨rfl, by decide, by decide⟩ (fun w h Y => PySem.W.kIn_of Y) ?F ?G (fun _ _ _ _ h => h)
  case G =>
    intro w H a ns hl hO hS
    exact ⟨a, ns, rfl, hl, hS, fun H' => rfl⟩
  case F =>
    intro w mg fa h KX G hmg
    have n_abs : mg "abs" = none := by
      refine' PySem.W.mg_none_of KX G ?zabs
      (case zabs => k_is)
    have n_all : mg "all" = none := by
      refine' PySem.W.mg_none_of KX G ?zall
      (case zall => k_is)
    have n_enumerate : mg "enumerate" = none := by
      refine' PySem.W.mg_none_of KX G ?zenumerate
      (case zenumerate => k_is)
    have n_int : mg "int" = none := by
      refine' PySem.W.mg_none_of KX G ?zint
      (case zint => k_is)
    have n_isinstance : mg "isinstance" = none := by
      refine' PySem.W.mg_none_of KX G ?zisinstance
      (case zisinstance => k_is)
    have n_list : mg "list" = none := by
      refine' PySem.W.mg_none_of KX G ?zlist
      (case zlist => k_is)
    have n_min : mg "min" = none := by
      refine' PySem.W.mg_none_of KX G ?zmin
      (case zmin => k_is)
    have n_range : mg "range" = none := by
      refine' PySem.W.mg_none_of KX G ?zrange
      (case zrange => k_is)
    have n_sorted : mg "sorted" = none := by
      refine' PySem.W.mg_none_of KX G ?zsorted
      (case zsorted => k_is)
    have n_str : mg "str" = none := by
      refine' PySem.W.mg_none_of KX G ?zstr
      (case zstr => k_is)
    have n_sum : mg "sum" = none := by
      refine' PySem.W.mg_none_of KX G ?zsum
      (case zsum => k_is)
    have n_tuple : mg "tuple" = none := by
      refine' PySem.W.mg_none_of KX G ?ztuple
      (case ztuple => k_is)
    have n_zip : mg "zip" = none := by
      refine' PySem.W.mg_none_of KX G ?zzip
      (case zzip => k_is)
    have n_len : mg "len" = none := by
      refine' PySem.W.mg_none_of KX G ?zlen
      (case zlen => k_is)
    have n_bool : mg "bool" = none := by
      refine' PySem.W.mg_none_of KX G ?zbool
      (case zbool => k_is)
    have n_LookupError : mg "LookupError" = none := by
      refine' PySem.W.mg_none_of KX G ?zLookupError
      (case zLookupError => k_is)
    have n_ValueError : mg "ValueError" = none := by
      refine' PySem.W.mg_none_of KX G ?zValueError
      (case zValueError => k_is)
    have c_SIGNS : ∃ t, mg "SIGNS" = some (.int 4 t) := by
      refine' (fun (e1 : mg "SIGNS" = some _) => ?rSIGNS) (PySem.W.mg_of KX G ?zSIGNS)
      (case zSIGNS => k_is)
      (case rSIGNS => exact ⟨_, e1⟩)
    have c_PLACES : ∃ t, mg "PLACES" = some (.int 6 t) := by
      refine' (fun (e1 : mg "PLACES" = some _) => ?rPLACES) (PySem.W.mg_of KX G ?zPLACES)
      (case zPLACES => k_is)
      (case rPLACES => exact ⟨_, e1⟩)
    have c_LAMPS : ∃ t, mg "LAMPS" = some (.int 24 t) := by
      refine' (fun (e1 : mg "LAMPS" = some _) => ?rLAMPS) (PySem.W.mg_of KX G ?zLAMPS)
      (case zLAMPS => k_is)
      (case rLAMPS => exact ⟨_, e1⟩)
    have c_BURNS : ∃ t, mg "BURNS" = some (.str "#" t) := by
      refine' (fun (e1 : mg "BURNS" = some _) => ?rBURNS) (PySem.W.mg_of KX G ?zBURNS)
      (case zBURNS => k_is)
      (case rBURNS => exact ⟨_, e1⟩)
    have c_DARK : ∃ t, mg "DARK" = some (.str "." t) := by
      refine' (fun (e1 : mg "DARK" = some _) => ?rDARK) (PySem.W.mg_of KX G ?zDARK)
      (case zDARK => k_is)
      (case rDARK => exact ⟨_, e1⟩)
    have F_is_number := K3.wit KX (P := fun K => ∃ f fd, L2.Fun K "is_number" "is_number" K3.s_is_number f fd ∧ mg "is_number" = some (.ref f)) (by
      refine' K3.def_mk KX G ?a ?l ?c ?k
      (case a => k_is); (case l => k_is); (case c => k_is); (case k => k_is))
    have F_is_count := K3.wit KX (P := fun K => ∃ f fd, L2.Fun K "is_count" "is_count" K3.s_is_count f fd ∧ mg "is_count" = some (.ref f)) (by
      refine' K3.def_mk KX G ?a ?l ?c ?k
      (case a => k_is); (case l => k_is); (case c => k_is); (case k => k_is))
    have F_is_below := K3.wit KX (P := fun K => ∃ f fd, L2.Fun K "is_below" "is_below" K3.s_is_below f fd ∧ mg "is_below" = some (.ref f)) (by
      refine' K3.def_mk KX G ?a ?l ?c ?k
      (case a => k_is); (case l => k_is); (case c => k_is); (case k => k_is))
    have F_sign_sum := K3.wit KX (P := fun K => ∃ f fd, L2.Fun K "sign_sum" "sign_sum" K3.s_sign_sum f fd ∧ mg "sign_sum" = some (.ref f)) (by
      refine' K3.def_mk KX G ?a ?l ?c ?k
      (case a => k_is); (case l => k_is); (case c => k_is); (case k => k_is))
    have F_sure_lamp := K3.wit KX (P := fun K => ∃ f fd, L2.Fun K "sure_lamp" "sure_lamp" K3.s_sure_lamp f fd ∧ mg "sure_lamp" = some (.ref f)) (by
      refine' K3.def_mk KX G ?a ?l ?c ?k
      (case a => k_is); (case l => k_is); (case c => k_is); (case k => k_is))
    have F_lamp_at := K3.wit KX (P := fun K => ∃ f fd, L2.Fun K "lamp_at" "lamp_at" K3.s_lamp_at f fd ∧ mg "lamp_at" = some (.ref f)) (by
      refine' K3.def_mk KX G ?a ?l ?c ?k
      (case a => k_is); (case l => k_is); (case c => k_is); (case k => k_is))
    have F_column_of := K3.wit KX (P := fun K => ∃ f fd, L2.Fun K "column_of" "column_of" K3.s_column_of f fd ∧ mg "column_of" = some (.ref f)) (by
      refine' K3.def_mk KX G ?a ?l ?c ?k
      (case a => k_is); (case l => k_is); (case c => k_is); (case k => k_is))
    have F_line_of := K3.wit KX (P := fun K => ∃ f fd, L2.Fun K "line_of" "line_of" K3.s_line_of f fd ∧ mg "line_of" = some (.ref f)) (by
      refine' K3.def_mk KX G ?a ?l ?c ?k
      (case a => k_is); (case l => k_is); (case c => k_is); (case k => k_is))
    have F_two_sum := K3.wit KX (P := fun K => ∃ f fd, L2.Fun K "two_sum" "two_sum" K3.s_two_sum f fd ∧ mg "two_sum" = some (.ref f)) (by
      refine' K3.def_mk KX G ?a ?l ?c ?k
      (case a => k_is); (case l => k_is); (case c => k_is); (case k => k_is))
    have F_lot_sum := K3.wit KX (P := fun K => ∃ f fd, L2.Fun K "lot_sum" "lot_sum" K3.s_lot_sum f fd ∧ mg "lot_sum" = some (.ref f)) (by
      refine' K3.def_mk KX G ?a ?l ?c ?k
      (case a => k_is); (case l => k_is); (case c => k_is); (case k => k_is))
    have F_column_lamps := K3.wit KX (P := fun K => ∃ f fd, L2.Fun K "column_lamps" "column_lamps" K3.s_column_lamps f fd ∧ mg "column_lamps" = some (.ref f)) (by
      refine' K3.def_mk KX G ?a ?l ?c ?k
      (case a => k_is); (case l => k_is); (case c => k_is); (case k => k_is))
    have F_column_signs := K3.wit KX (P := fun K => ∃ f fd, L2.Fun K "column_signs" "column_signs" K3.s_column_signs f fd ∧ mg "column_signs" = some (.ref f)) (by
      refine' K3.def_mk KX G ?a ?l ?c ?k
      (case a => k_is); (case l => k_is); (case c => k_is); (case k => k_is))
    have F_parities := K3.wit KX (P := fun K => ∃ f fd, L2.Fun K "parities" "parities" K3.s_parities f fd ∧ mg "parities" = some (.ref f)) (by
      refine' K3.def_mk KX G ?a ?l ?c ?k
      (case a => k_is); (case l => k_is); (case c => k_is); (case k => k_is))
    have F_line_sets := K3.wit KX (P := fun K => ∃ f fd, L2.Fun K "line_sets" "line_sets" K3.s_line_sets f fd ∧ mg "line_sets" = some (.ref f)) (by
      refine' K3.def_mk KX G ?a ?l ?c ?k
      (case a => k_is); (case l => k_is); (case c => k_is); (case k => k_is))
    have F_column_ways := K3.wit KX (P := fun K => ∃ f fd, L2.Fun K "column_ways" "column_ways" K3.s_column_ways f fd ∧ mg "column_ways" = some (.ref f)) (by
      refine' K3.def_mk KX G ?a ?l ?c ?k
      (case a => k_is); (case l => k_is); (case c => k_is); (case k => k_is))
    have F_lots_with := K3.wit KX (P := fun K => ∃ f fd, L2.Fun K "lots_with" "lots_with" K3.s_lots_with f fd ∧ mg "lots_with" = some (.ref f)) (by
      refine' K3.def_mk KX G ?a ?l ?c ?k
      (case a => k_is); (case l => k_is); (case c => k_is); (case k => k_is))
    have F_drawn := K3.wit KX (P := fun K => ∃ f fd, L2.Fun K "drawn" "drawn" K3.s_drawn f fd ∧ mg "drawn" = some (.ref f)) (by
      refine' K3.def_mk KX G ?a ?l ?c ?k
      (case a => k_is); (case l => k_is); (case c => k_is); (case k => k_is))
    have F_is_drawn_line := K3.wit KX (P := fun K => ∃ f fd, L2.Fun K "is_drawn_line" "is_drawn_line" K3.s_is_drawn_line f fd ∧ mg "is_drawn_line" = some (.ref f)) (by
      refine' K3.def_mk KX G ?a ?l ?c ?k
      (case a => k_is); (case l => k_is); (case c => k_is); (case k => k_is))
    have F_read_drawn := K3.wit KX (P := fun K => ∃ f fd, L2.Fun K "read_drawn" "read_drawn" K3.s_read_drawn f fd ∧ mg "read_drawn" = some (.ref f)) (by
      refine' K3.def_mk KX G ?a ?l ?c ?k
      (case a => k_is); (case l => k_is); (case c => k_is); (case k => k_is))
    have F__law_box := K3.wit KX (P := fun K => ∃ f fd, L2.Fun K "_law_box" "_law_box" K3.s__law_box f fd ∧ mg "_law_box" = some (.ref f)) (by
      refine' K3.def_mk KX G ?a ?l ?c ?k
      (case a => k_is); (case l => k_is); (case c => k_is); (case k => k_is))
    have F__law_take := K3.wit KX (P := fun K => ∃ f fd, L2.Fun K "_law_take" "_law_take" K3.s__law_take f fd ∧ mg "_law_take" = some (.ref f)) (by
      refine' K3.def_mk KX G ?a ?l ?c ?k
      (case a => k_is); (case l => k_is); (case c => k_is); (case k => k_is))
    have F__law_cells := K3.wit KX (P := fun K => ∃ f fd, L2.Fun K "_law_cells" "_law_cells" K3.s__law_cells f fd ∧ mg "_law_cells" = some (.ref f)) (by
      refine' K3.def_mk KX G ?a ?l ?c ?k
      (case a => k_is); (case l => k_is); (case c => k_is); (case k => k_is))
    have F__law_of := K3.wit KX (P := fun K => ∃ f fd, L2.Fun K "_law_of" "_law_of" K3.s__law_of f fd ∧ mg "_law_of" = some (.ref f)) (by
      refine' K3.def_mk KX G ?a ?l ?c ?k
      (case a => k_is); (case l => k_is); (case c => k_is); (case k => k_is))
    have F__law_pick := K3.wit KX (P := fun K => ∃ f fd, L2.Fun K "_law_pick" "_law_pick" K3.s__law_pick f fd ∧ mg "_law_pick" = some (.ref f)) (by
      refine' K3.def_mk KX G ?a ?l ?c ?k
      (case a => k_is); (case l => k_is); (case c => k_is); (case k => k_is))
    have F__law_lists := K3.wit KX (P := fun K => ∃ f fd, L2.Fun K "_law_lists" "_law_lists" K3.s__law_lists f fd ∧ mg "_law_lists" = some (.ref f)) (by
      refine' K3.def_mk KX G ?a ?l ?c ?k
      (case a => k_is); (case l => k_is); (case c => k_is); (case k => k_is))
    have F__law_same := K3.wit KX (P := fun K => ∃ f fd, L2.Fun K "_law_same" "_law_same" K3.s__law_same f fd ∧ mg "_law_same" = some (.ref f)) (by
      refine' K3.def_mk KX G ?a ?l ?c ?k
      (case a => k_is); (case l => k_is); (case c => k_is); (case k => k_is))
    have F__law_subsets := K3.wit KX (P := fun K => ∃ f fd, L2.Fun K "_law_subsets" "_law_subsets" K3.s__law_subsets f fd ∧ mg "_law_subsets" = some (.ref f)) (by
      refine' K3.def_mk KX G ?a ?l ?c ?k
      (case a => k_is); (case l => k_is); (case c => k_is); (case k => k_is))
    have F__law_signs_product := K3.wit KX (P := fun K => ∃ f fd, L2.Fun K "_law_signs_product" "_law_signs_product" K3.s__law_signs_product f fd ∧ mg "_law_signs_product" = some (.ref f)) (by
      refine' K3.def_mk KX G ?a ?l ?c ?k
      (case a => k_is); (case l => k_is); (case c => k_is); (case k => k_is))
    have F__law_word_by := K3.wit KX (P := fun K => ∃ f fd, L2.Fun K "_law_word_by" "_law_word_by" K3.s__law_word_by f fd ∧ mg "_law_word_by" = some (.ref f)) (by
      refine' K3.def_mk KX G ?a ?l ?c ?k
      (case a => k_is); (case l => k_is); (case c => k_is); (case k => k_is))
    have F__law_words := K3.wit KX (P := fun K => ∃ f fd, L2.Fun K "_law_words" "_law_words" K3.s__law_words f fd ∧ mg "_law_words" = some (.ref f)) (by
      refine' K3.def_mk KX G ?a ?l ?c ?k
      (case a => k_is); (case l => k_is); (case c => k_is); (case k => k_is))
    have F__law_sign := K3.wit KX (P := fun K => ∃ f fd, L2.Fun K "_law_sign" "_law_sign" K3.s__law_sign f fd ∧ mg "_law_sign" = some (.ref f)) (by
      refine' K3.def_mk KX G ?a ?l ?c ?k
      (case a => k_is); (case l => k_is); (case c => k_is); (case k => k_is))
    have F__law_lot_sum := K3.wit KX (P := fun K => ∃ f fd, L2.Fun K "_law_lot_sum" "_law_lot_sum" K3.s__law_lot_sum f fd ∧ mg "_law_lot_sum" = some (.ref f)) (by
      refine' K3.def_mk KX G ?a ?l ?c ?k
      (case a => k_is); (case l => k_is); (case c => k_is); (case k => k_is))
    have F__law_some_lot := K3.wit KX (P := fun K => ∃ f fd, L2.Fun K "_law_some_lot" "_law_some_lot" K3.s__law_some_lot f fd ∧ mg "_law_some_lot" = some (.ref f)) (by
      refine' K3.def_mk KX G ?a ?l ?c ?k
      (case a => k_is); (case l => k_is); (case c => k_is); (case k => k_is))
    have F__law_heard := K3.wit KX (P := fun K => ∃ f fd, L2.Fun K "_law_heard" "_law_heard" K3.s__law_heard f fd ∧ mg "_law_heard" = some (.ref f)) (by
      refine' K3.def_mk KX G ?a ?l ?c ?k
      (case a => k_is); (case l => k_is); (case c => k_is); (case k => k_is))
    have F__law_signs_of := K3.wit KX (P := fun K => ∃ f fd, L2.Fun K "_law_signs_of" "_law_signs_of" K3.s__law_signs_of f fd ∧ mg "_law_signs_of" = some (.ref f)) (by
      refine' K3.def_mk KX G ?a ?l ?c ?k
      (case a => k_is); (case l => k_is); (case c => k_is); (case k => k_is))
    have F__law_parities := K3.wit KX (P := fun K => ∃ f fd, L2.Fun K "_law_parities" "_law_parities" K3.s__law_parities f fd ∧ mg "_law_parities" = some (.ref f)) (by
      refine' K3.def_mk KX G ?a ?l ?c ?k
      (case a => k_is); (case l => k_is); (case c => k_is); (case k => k_is))
    have F__law_ways := K3.wit KX (P := fun K => ∃ f fd, L2.Fun K "_law_ways" "_law_ways" K3.s__law_ways f fd ∧ mg "_law_ways" = some (.ref f)) (by
      refine' K3.def_mk KX G ?a ?l ?c ?k
      (case a => k_is); (case l => k_is); (case c => k_is); (case k => k_is))
    have F__law_lots_with := K3.wit KX (P := fun K => ∃ f fd, L2.Fun K "_law_lots_with" "_law_lots_with" K3.s__law_lots_with f fd ∧ mg "_law_lots_with" = some (.ref f)) (by
      refine' K3.def_mk KX G ?a ?l ?c ?k
      (case a => k_is); (case l => k_is); (case c => k_is); (case k => k_is))
    have F__law_drawn := K3.wit KX (P := fun K => ∃ f fd, L2.Fun K "_law_drawn" "_law_drawn" K3.s__law_drawn f fd ∧ mg "_law_drawn" = some (.ref f)) (by
      refine' K3.def_mk KX G ?a ?l ?c ?k
      (case a => k_is); (case l => k_is); (case c => k_is); (case k => k_is))
    have F__law_lot_right := K3.wit KX (P := fun K => ∃ f fd, L2.Fun K "_law_lot_right" "_law_lot_right" K3.s__law_lot_right f fd ∧ mg "_law_lot_right" = some (.ref f)) (by
      refine' K3.def_mk KX G ?a ?l ?c ?k
      (case a => k_is); (case l => k_is); (case c => k_is); (case k => k_is))
    have F__law_lamps_right := K3.wit KX (P := fun K => ∃ f fd, L2.Fun K "_law_lamps_right" "_law_lamps_right" K3.s__law_lamps_right f fd ∧ mg "_law_lamps_right" = some (.ref f)) (by
      refine' K3.def_mk KX G ?a ?l ?c ?k
      (case a => k_is); (case l => k_is); (case c => k_is); (case k => k_is))
    have F__law_all_right := K3.wit KX (P := fun K => ∃ f fd, L2.Fun K "_law_all_right" "_law_all_right" K3.s__law_all_right f fd ∧ mg "_law_all_right" = some (.ref f)) (by
      refine' K3.def_mk KX G ?a ?l ?c ?k
      (case a => k_is); (case l => k_is); (case c => k_is); (case k => k_is))
    have F__law_bent_right := K3.wit KX (P := fun K => ∃ f fd, L2.Fun K "_law_bent_right" "_law_bent_right" K3.s__law_bent_right f fd ∧ mg "_law_bent_right" = some (.ref f)) (by
      refine' K3.def_mk KX G ?a ?l ?c ?k
      (case a => k_is); (case l => k_is); (case c => k_is); (case k => k_is))
    have F__law_by_hand_right := K3.wit KX (P := fun K => ∃ f fd, L2.Fun K "_law_by_hand_right" "_law_by_hand_right" K3.s__law_by_hand_right f fd ∧ mg "_law_by_hand_right" = some (.ref f)) (by
      refine' K3.def_mk KX G ?a ?l ?c ?k
      (case a => k_is); (case l => k_is); (case c => k_is); (case k => k_is))
    have F__law_right := K3.wit KX (P := fun K => ∃ f fd, L2.Fun K "_law_right" "_law_right" K3.s__law_right f fd ∧ mg "_law_right" = some (.ref f)) (by
      refine' K3.def_mk KX G ?a ?l ?c ?k
      (case a => k_is); (case l => k_is); (case c => k_is); (case k => k_is))
    have hT := K3.wit KX (P := fun K => ∃ C1 I1 C2 I2, PySem.XNoLamp.Txt K mg C1 I1 ∧ PySem.XBadLine.Txt K mg C2 I2 ∧ PySem.W.exmOne K (.ref C2) (.ref C1) = some false) (by
      refine' ⟨_, _, _, _, K3.cls_NoLamp KX G ?naC ?nxL ?nsa ?nga ?ngg ?nnb ?na1 ?nt1 ?nl1 ?nc1 ?nkC ?neC ?ntC ?nhC ?niC ?nsC ?nki ?nca ?ncn ?nct ?ncm, K3.cls_BadLine KX G ?baC ?bxL ?bsa ?bga ?bgg ?bnb ?ba1 ?bt1 ?bl1 ?bc1 ?bkC ?beC ?btC ?bhC ?biC ?bsC ?bki ?bca ?bcn ?bct ?bcm, PySem.W.exm_ref ?x1 ?x2 ?x3 ?x4⟩
      (case naC => first | k_is | rfl); (case nxL => first | k_is | rfl); (case nsa => first | k_is | rfl); (case nga => first | k_is | rfl); (case ngg => first | k_is | rfl); (case nnb => first | k_is | rfl); (case na1 => first | k_is | rfl); (case nt1 => first | k_is | rfl); (case nl1 => first | k_is | rfl); (case nc1 => first | k_is | rfl); (case nkC => first | k_is | rfl); (case neC => first | k_is | rfl); (case ntC => first | k_is | rfl); (case nhC => first | k_is | rfl); (case niC => first | k_is | rfl); (case nsC => first | k_is | rfl); (case nki => first | k_is | rfl); (case nca => first | k_is | rfl); (case ncn => first | k_is | rfl); (case nct => first | k_is | rfl); (case ncm => first | k_is | rfl)
      (case baC => first | k_is | rfl); (case bxL => first | k_is | rfl); (case bsa => first | k_is | rfl); (case bga => first | k_is | rfl); (case bgg => first | k_is | rfl); (case bnb => first | k_is | rfl); (case ba1 => first | k_is | rfl); (case bt1 => first | k_is | rfl); (case bl1 => first | k_is | rfl); (case bc1 => first | k_is | rfl); (case bkC => first | k_is | rfl); (case beC => first | k_is | rfl); (case btC => first | k_is | rfl); (case bhC => first | k_is | rfl); (case biC => first | k_is | rfl); (case bsC => first | k_is | rfl); (case bki => first | k_is | rfl); (case bca => first | k_is | rfl); (case bcn => first | k_is | rfl); (case bct => first | k_is | rfl); (case bcm => first | k_is | rfl)
      (case x1 => k_is); (case x2 => k_is); (case x3 => k_is); (case x4 => first | k_is | rfl))
    obtain ⟨C1, I1, C2, I2, T1, T2, x21⟩ := hT
    have tx : K3.Tx mg := { nAbs := n_abs, nAll := n_all, nEnumerate := n_enumerate, nInt := n_int, nIsinstance := n_isinstance, nList := n_list, nMin := n_min, nRange := n_range, nSorted := n_sorted, nStr := n_str, nSum := n_sum, nTuple := n_tuple, nZip := n_zip, nLen := n_len, nBool := n_bool, cSIGNS := c_SIGNS, cPLACES := c_PLACES, cLAMPS := c_LAMPS, cBURNS := c_BURNS, cDARK := c_DARK }
    have hL := K3.wit KX (P := fun K => ∃ fd, L2.Fun K "law" "law" K3.s_law fa fd ∧ ∀ (s : Shared) (u : Value), BindsTo s fd ⟨[u], []⟩ [("_law_script", u)]) (by
      refine' K3.law_mk KX G hmg ?a ?l ?c ?k
      (case a => k_is); (case l => k_is); (case c => k_is); (case k => k_is))
    obtain ⟨fdL, FL, bL⟩ := hL
    exact ⟨fdL, bL, fun base _ _ => K3.law_all tx ⟨T1, T2, x21, n_LookupError, n_ValueError⟩ F_is_number F_is_count F_is_below F_sign_sum F_sure_lamp F_lamp_at F_column_of F_line_of F_two_sum F_lot_sum F_column_lamps F_column_signs F_parities F_line_sets F_column_ways F_lots_with F_drawn F_is_drawn_line F_read_drawn F__law_box F__law_take F__law_cells F__law_of F__law_pick F__law_lists F__law_same F__law_subsets F__law_signs_product F__law_word_by F__law_words F__law_sign F__law_lot_sum F__law_some_lot F__law_heard F__law_signs_of F__law_parities F__law_ways F__law_lots_with F__law_drawn F__law_lot_right F__law_lamps_right F__law_all_right F__law_bent_right F__law_by_hand_right F__law_right FL⟩

