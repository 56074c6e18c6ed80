import PyProof.Rows.All
import Wide.All
import OpenK.AllK
import Wide.FinOn
import HandS.ForMost
import HandS.Flow
import HandS.Wide
import HandS.WideBits
import HandS.TupAny
import HandS.IsInst
import HandS.SortInts
import HandS.TupLe
import HandS.RevRange
import HandS.Ends
import KE.KBits
import PySem.Challenge.RW_backandon_k00_words_reckoned
set_option Elab.async false
set_option linter.all false
set_option maxRecDepth 100000
set_option maxHeartbeats 4000000
set_option autoImplicit false
/-! DL: a pure interpreter of combinators over plain data, with lists that one name owns, sound over the readings of HandS. -/
namespace DL
open PySem PySem.Spec PyProof.Rows L2

abbrev D := PyData
def Sub (F H : Hp) : Prop := ∀ a o, F a = some o → H a = some o
theorem Sub.refl (H : Hp) : Sub H H := fun _ _ h => h
theorem Sub.trans {A B C : Hp} (x : Sub A B) (y : Sub B C) : Sub A C := fun a o h => y a o (x a o h)
theorem Sub.no {F H : Hp} (s : Sub F H) {a : Addr} (h : H a = none) : F a = none := by
  cases q : F a with
  | none => rfl
  | some o => rw [s a o q] at h; cases h
theorem Sub.new {H : Hp} {p : Addr} {o : HO} (h : H p = none) : Sub H (upd H p o) := fun a u e => by
  rw [upd_ne (ne_of_none e h)]; exact e
theorem Sub.newF {F H : Hp} (s : Sub F H) {p : Addr} {o : HO} (h : F p = none) : Sub F (upd H p o) := fun a u e => by
  rw [upd_ne (ne_of_none e h)]; exact s a u e
theorem Sub.both {F H : Hp} (s : Sub F H) {p : Addr} {o : HO} : Sub (upd F p o) (upd H p o) := fun a u e => by
  by_cases h : a = p
  · subst h; rw [upd_same] at e ⊢; exact e
  · rw [upd_ne h] at e ⊢; exact s a u e
theorem Sub.rd {F H : Hp} (s : Sub F H) {a : Addr} {u : HO} (h : Rd F a u) : Rd H a u := by
  rcases h with h | ⟨o, h⟩
  · exact .inl (s a _ h)
  · exact .inr ⟨o, s a _ h⟩
theorem Sub.sqT {F H : Hp} (s : Sub F H) {K : PySem.W.Frag} {a : Addr} {xs : List V} (h : SqT K F a xs) : SqT K H a xs := by
  rcases h with h | h
  · exact .inl (s.rd h)
  · exact .inr h
theorem Sub.sqL {F H : Hp} (s : Sub F H) {K : PySem.W.Frag} {a : Addr} {xs : List V} (h : SqL K F a xs) : SqL K H a xs := by
  rcases h with h | h
  · exact .inl (s.rd h)
  · exact .inr h

/-! ### what a value stands for -/
mutual
inductive Rep (K : PySem.W.Frag) (F : Hp) : V → D → Prop
  | non : Rep K F .non .none
  | bl (b : Bool) : Rep K F (.bl b) (.bool b)
  | int (i : Int) : Rep K F (.int i) (.int i)
  | str (x : Str) : Rep K F (.str x) (.str x)
  | lst {a : Addr} {xs : List V} {ds : List D} : F a = some (.lst xs) → RepAll K F xs ds → Rep K F (.ref a) (.list ds)
  | tup {a : Addr} {xs : List V} {ds : List D} : SqT K F a xs → RepAll K F xs ds → Rep K F (.ref a) (.tuple ds)
  | scr {a : Addr} {ns : List Int} : SqL K F a (ns.map V.int) → Rep K F (.ref a) (.dict (ns.map fun n => (.int n, .none)))
inductive RepAll (K : PySem.W.Frag) (F : Hp) : List V → List D → Prop
  | nil : RepAll K F [] []
  | cons {v : V} {vs : List V} {d : D} {ds : List D} : Rep K F v d → RepAll K F vs ds → RepAll K F (v :: vs) (d :: ds)
end

section
variable {K : PySem.W.Frag} {F F' H H' : Hp} {v : V} {d : D} {vs : List V} {ds : List D}
mutual
theorem Rep.mono (s : Sub F F') : ∀ (d : D) (v : V), Rep K F v d → Rep K F' v d
  | .none, _, .non => .non
  | .bool _, _, .bl b => .bl b
  | .int _, _, .int i => .int i
  | .str _, _, .str x => .str x
  | .list ds, _, .lst h r => .lst (s _ _ h) (RepAll.mono s ds _ r)
  | .tuple ds, _, .tup h r => .tup (s.sqT h) (RepAll.mono s ds _ r)
  | .dict _, _, .scr h => .scr (s.sqL h)
theorem RepAll.mono (s : Sub F F') : ∀ (ds : List D) (vs : List V), RepAll K F vs ds → RepAll K F' vs ds
  | [], _, .nil => .nil
  | d :: ds, _, .cons r t => .cons (Rep.mono s d _ r) (RepAll.mono s ds _ t)
end
theorem Rep.up (r : Rep K F v d) (s : Sub F F') : Rep K F' v d := Rep.mono s d v r
theorem RepAll.up (r : RepAll K F vs ds) (s : Sub F F') : RepAll K F' vs ds := RepAll.mono s ds vs r
theorem RepAll.length : ∀ {vs : List V} {ds : List D}, RepAll K F vs ds → vs.length = ds.length
  | _, _, .nil => rfl
  | _, _, .cons _ t => by rw [List.length_cons, List.length_cons, RepAll.length t]
theorem RepAll.get : ∀ {vs : List V} {ds : List D} {i : Nat} {d : D}, RepAll K F vs ds → ds[i]? = some d → ∃ v, vs[i]? = some v ∧ Rep K F v d
  | _, _, _, _, .nil, e => by simp at e
  | _, _, 0, _, .cons r _, e => by simp at e; subst e; exact ⟨_, rfl, r⟩
  | _, _, i + 1, _, .cons _ t, e => by
    obtain ⟨v, h1, h2⟩ := RepAll.get (i := i) t (by simpa using e)
    exact ⟨v, by simpa using h1, h2⟩
theorem RepAll.getV : ∀ {vs : List V} {ds : List D} {i : Nat} {v : V}, RepAll K F vs ds → vs[i]? = some v → ∃ d, ds[i]? = some d ∧ Rep K F v d
  | _, _, _, _, .nil, e => by simp at e
  | _, _, 0, _, .cons r _, e => by simp at e; subst e; exact ⟨_, rfl, r⟩
  | _, _, i + 1, _, .cons _ t, e => by
    obtain ⟨v, h1, h2⟩ := RepAll.getV (i := i) t (by simpa using e)
    exact ⟨v, by simpa using h1, h2⟩
theorem RepAll.append : ∀ {vs ws : List V} {ds es : List D}, RepAll K F vs ds → RepAll K F ws es → RepAll K F (vs ++ ws) (ds ++ es)
  | _, _, _, _, .nil, s => s
  | _, _, _, _, .cons r t, s => .cons r (RepAll.append t s)
theorem RepAll.take : ∀ {vs : List V} {ds : List D} (n : Nat), RepAll K F vs ds → RepAll K F (vs.take n) (ds.take n)
  | _, _, 0, _ => by simpa using RepAll.nil
  | _, _, _ + 1, .nil => by simpa using RepAll.nil
  | _, _, n + 1, .cons r t => by simpa using RepAll.cons r (RepAll.take n t)
theorem RepAll.drop : ∀ {vs : List V} {ds : List D} (n : Nat), RepAll K F vs ds → RepAll K F (vs.drop n) (ds.drop n)
  | _, _, 0, r => r
  | _, _, _ + 1, .nil => by simpa using RepAll.nil
  | _, _, n + 1, .cons _ t => by simpa using RepAll.drop n t
theorem RepAll.set {v : V} {d : D} (r : Rep K F v d) : ∀ {vs : List V} {ds : List D} (i : Nat), RepAll K F vs ds → RepAll K F (vs.set i v) (ds.set i d)
  | _, _, _, .nil => by simpa using RepAll.nil
  | _, _, 0, .cons _ t => by simpa using RepAll.cons r t
  | _, _, i + 1, .cons q t => by simpa using RepAll.cons q (RepAll.set r i t)
theorem RepAll.eraseIdx : ∀ {vs : List V} {ds : List D} (i : Nat), RepAll K F vs ds → RepAll K F (vs.eraseIdx i) (ds.eraseIdx i)
  | _, _, _, .nil => by simpa using RepAll.nil
  | _, _, 0, .cons _ t => by simpa using t
  | _, _, i + 1, .cons q t => by simpa using RepAll.cons q (RepAll.eraseIdx i t)
theorem RepAll.dropLast {vs : List V} {ds : List D} (r : RepAll K F vs ds) : RepAll K F vs.dropLast ds.dropLast := by
  rw [List.dropLast_eq_take, List.dropLast_eq_take, r.length]
  exact r.take _
theorem RepAll.reverse : ∀ {vs : List V} {ds : List D}, RepAll K F vs ds → RepAll K F vs.reverse ds.reverse
  | _, _, .nil => .nil
  | _, _, .cons r t => by
    rw [List.reverse_cons, List.reverse_cons]
    exact (RepAll.reverse t).append (.cons r .nil)

/-- the script as data -/
def scrD (ns : List Int) : D := .dict (ns.map fun n => (.int n, .none))
/-! ### objects that one name owns -/
inductive MO where
  | lst (xs : List D)
def MO.toD : MO → D
  | .lst xs => .list xs
def ObjR (K : PySem.W.Frag) (F : Hp) : HO → MO → Prop
  | .lst vs, .lst ds => RepAll K F vs ds
  | _, _ => False
theorem ObjR.up {h : HO} {o : MO} (r : ObjR K F h o) (s : Sub F F') : ObjR K F' h o := by
  cases h <;> cases o <;> first | exact r.elim | exact RepAll.up r s
/-- an owned object, frozen -/
theorem ObjR.rep {h : HO} {o : MO} {p : Addr} (r : ObjR K F h o) (hp : F p = none) : Rep K (upd F p h) (.ref p) o.toD := by
  cases h <;> cases o <;> first | exact r.elim | exact .lst upd_same (RepAll.up r (Sub.new hp))

inductive Cell where
  | val (d : D) | own (o : MO) | ref (o : MO) | raw (v : V)
def Cell.mo : Cell → Option MO
  | .own o => some o
  | .ref o => some o
  | _ => none
abbrev En := List (Option Cell)
def CellR (K : PySem.W.Frag) (F H : Hp) : V → Cell → Prop
  | v, .val d => Rep K F v d
  | v, .own o => ∃ p h, v = .ref p ∧ F p = none ∧ H p = some h ∧ ObjR K F h o
  | v, .ref o => ∃ p h, v = .ref p ∧ F p = none ∧ H p = some h ∧ ObjR K F h o
  | v, .raw w => v = w
theorem CellR.mo {c : Cell} {o : MO} (r : CellR K F H v c) (e : c.mo = some o) : ∃ p h, v = .ref p ∧ F p = none ∧ H p = some h ∧ ObjR K F h o := by
  cases c with
  | own o' => cases e; exact r
  | ref o' => cases e; exact r
  | _ => cases e

def isOwn : Option (Option Cell) → Prop
  | some (some c) => ∃ o, c.mo = some o
  | _ => False
def isRef : Option (Option Cell) → Prop
  | some (some (.ref _)) => True
  | _ => False
theorem isRef.isOwn {c : Option (Option Cell)} (h : isRef c) : isOwn c := by
  rcases c with _ | _ | c
  · exact h
  · exact h
  · cases c with
    | ref o => exact ⟨o, rfl⟩
    | _ => exact h.elim
/-- the addresses that names own -/
def Own (σ : L2.St) (ρ : En) (a : Addr) : Prop := ∃ i : Nat, isOwn ρ[i]? ∧ σ[i]? = some (some (V.ref a))
structure Rp (K : PySem.W.Frag) (F H : Hp) (σ : L2.St) (ρ : En) : Prop where
  sub : Sub F H
  len : σ.length = ρ.length
  cell : ∀ (i : Nat) c, ρ[i]? = some (some c) → ∃ v, σ[i]? = some (some v) ∧ CellR K F H v c
  sep : ∀ (i j : Nat) a, isOwn ρ[i]? → isOwn ρ[j]? → σ[i]? = some (some (V.ref a)) → σ[j]? = some (some (V.ref a)) → i = j

section
variable {σ σ' σ1 σ2 : L2.St} {ρ ρ' ρ1 ρ2 : En} {F1 F2 H1 H2 : Hp}
theorem isOwn.some {c : Option (Option Cell)} (h : isOwn c) : ∃ c' o, c = some (some c') ∧ c'.mo = some o := by
  rcases c with _ | _ | c
  · exact h.elim
  · exact h.elim
  · obtain ⟨o, e⟩ := h; exact ⟨c, o, rfl, e⟩
/-- an owned slot: its address, its object -/
theorem Rp.own (R : Rp K F H σ ρ) {i : Nat} (h : isOwn ρ[i]?) : ∃ c o p hh, ρ[i]? = some (some c) ∧ c.mo = some o ∧ σ[i]? = some (some (V.ref p)) ∧ F p = none ∧ H p = some hh ∧ ObjR K F hh o := by
  obtain ⟨c, o, e1, e2⟩ := h.some
  obtain ⟨v, e3, r⟩ := R.cell i c e1
  obtain ⟨p, hh, rfl, f, e4, r⟩ := r.mo e2
  exact ⟨c, o, p, hh, e1, e2, e3, f, e4, r⟩
theorem Rp.ownH (R : Rp K F H σ ρ) {a : Addr} (h : Own σ ρ a) : F a = none ∧ H a ≠ none := by
  obtain ⟨i, h1, h2⟩ := h
  obtain ⟨c, o, p, hh, e1, e2, e3, f, e4, r⟩ := R.own h1
  rw [h2] at e3
  cases e3
  exact ⟨f, by rw [e4]; exact fun z => nomatch z⟩

/-- from one state to a later one -/
structure Step (K : PySem.W.Frag) (F H : Hp) (σ : L2.St) (ρ : En) (F' H' : Hp) (σ' : L2.St) (ρ' : En) : Prop where
  rp : Rp K F' H' σ' ρ'
  sub : Sub F F'
  dom : ∀ a, H' a = none → H a = none
  frame : ∀ a o, H a = some o → ¬ Own σ ρ a → H' a = some o
  new : ∀ a, F a = none → F' a ≠ none → H a = none ∨ Own σ ρ a
  own : ∀ a, Own σ' ρ' a → Own σ ρ a ∨ H a = none
  refs : ∀ i : Nat, isRef ρ[i]? → isRef ρ'[i]? ∧ σ'[i]? = σ[i]?
theorem Step.refl (R : Rp K F H σ ρ) : Step K F H σ ρ F H σ ρ :=
  ⟨R, Sub.refl _, fun _ h => h, fun _ _ h _ => h, fun _ h1 h2 => absurd h1 h2, fun _ h => .inl h, fun _ h => ⟨h, rfl⟩⟩
theorem Step.trans (A : Step K F H σ ρ F1 H1 σ1 ρ1) (B : Step K F1 H1 σ1 ρ1 F2 H2 σ2 ρ2) : Step K F H σ ρ F2 H2 σ2 ρ2 := by
  have nown : ∀ a o, H a = some o → ¬ Own σ ρ a → ¬ Own σ1 ρ1 a := fun a o h n z => by
    rcases A.own a z with z | z
    · exact n z
    · rw [h] at z; cases z
  refine ⟨B.rp, A.sub.trans B.sub, fun a h => A.dom a (B.dom a h), fun a o h n => B.frame a o (A.frame a o h n) (nown a o h n), fun a h1 h2 => ?_, fun a h => ?_, fun i h => ?_⟩
  · by_cases q : F1 a = none
    · rcases B.new a q h2 with z | z
      · exact .inl (A.dom a z)
      · rcases A.own a z with z | z
        · exact .inr z
        · exact .inl z
    · exact A.new a h1 q
  · rcases B.own a h with z | z
    · exact A.own a z
    · exact .inr (A.dom a z)
  · obtain ⟨a1, a2⟩ := A.refs i h
    obtain ⟨b1, b2⟩ := B.refs i a1
    exact ⟨b1, b2.trans a2⟩
/-- within an expression: slots other than vs stay as they are, none comes to own -/
structure BStep (K : PySem.W.Frag) (vs : List Nat) (F H : Hp) (σ : L2.St) (ρ : En) (F' H' : Hp) (σ' : L2.St) (ρ' : En) : Prop extends Step K F H σ ρ F' H' σ' ρ' where
  ownI : ∀ i : Nat, isOwn ρ'[i]? → isOwn ρ[i]?
  same : ∀ i : Nat, i ∉ vs → σ'[i]? = σ[i]?
  slen : σ'.length = σ.length
abbrev EStep (K : PySem.W.Frag) (σ : L2.St) (F H : Hp) (ρ : En) (F' H' : Hp) (ρ' : En) : Prop := BStep K [] F H σ ρ F' H' σ ρ'
theorem BStep.refl {vs : List Nat} (R : Rp K F H σ ρ) : BStep K vs F H σ ρ F H σ ρ := ⟨Step.refl R, fun _ h => h, fun _ _ => rfl, rfl⟩
theorem BStep.trans {vs : List Nat} (A : BStep K vs F H σ ρ F1 H1 σ1 ρ1) (B : BStep K vs F1 H1 σ1 ρ1 F2 H2 σ2 ρ2) : BStep K vs F H σ ρ F2 H2 σ2 ρ2 :=
  ⟨A.toStep.trans B.toStep, fun i h => A.ownI i (B.ownI i h), fun i h => (B.same i h).trans (A.same i h), B.slen.trans A.slen⟩
theorem BStep.wide {vs ws : List Nat} (A : BStep K vs F H σ ρ F1 H1 σ1 ρ1) (h : ∀ i ∈ vs, i ∈ ws) : BStep K ws F H σ ρ F1 H1 σ1 ρ1 :=
  ⟨A.toStep, A.ownI, fun i n => A.same i fun z => n (h i z), A.slen⟩
theorem EStep.ownA (A : EStep K σ F H ρ F1 H1 ρ1) {a : Addr} (h : Own σ ρ1 a) : Own σ ρ a := by
  obtain ⟨i, h1, h2⟩ := h
  exact ⟨i, A.ownI i h1, h2⟩
/-- new objects alone; the names' cells stay -/
theorem EStep.grow (R : Rp K F H σ ρ) (hF : Sub F F1) (hH : Sub H H1) (s : Sub F1 H1) (new : ∀ a, F a = none → F1 a ≠ none → H a = none) : EStep K σ F H ρ F1 H1 ρ := by
  refine ⟨⟨⟨s, R.len, fun i c e => ?_, R.sep⟩, hF, fun a h => hH.no h, fun a o h _ => hH a o h, fun a h1 h2 => .inl (new a h1 h2), fun a h => .inl h, fun i h => ⟨h, rfl⟩⟩, fun _ h => h, fun _ _ => rfl, rfl⟩
  obtain ⟨v, e1, r⟩ := R.cell i c e
  refine ⟨v, e1, ?_⟩
  have ow : ∀ o, (∃ p h, v = .ref p ∧ F p = none ∧ H p = some h ∧ ObjR K F h o) → ∃ p h, v = .ref p ∧ F1 p = none ∧ H1 p = some h ∧ ObjR K F1 h o := fun o ⟨p, h, e2, f, e3, r⟩ => by
    refine ⟨p, h, e2, ?_, hH p h e3, r.up hF⟩
    cases q : F1 p with
    | none => rfl
    | some u =>
      have := new p f (by rw [q]; exact fun z => nomatch z)
      rw [e3] at this; cases this
  cases c with
  | val d => exact Rep.up r hF
  | own o => exact ow o r
  | ref o => exact ow o r
  | raw w => exact r

/-! ### what an expression hands on -/
inductive RV where
  | val (d : D) | own (o : MO) | slot (i : Nat) | raw (v : V)
def RVR (K : PySem.W.Frag) (F H H0 : Hp) (σ : L2.St) : V → RV → Prop
  | v, .val d => Rep K F v d
  | v, .own o => ∃ p h, v = .ref p ∧ H0 p = none ∧ F p = none ∧ H p = some h ∧ ObjR K F h o
  | v, .slot i => σ[i]? = some (some v)
  | v, .raw w => v = w
/-- it stays so while the next parts are worked out -/
theorem RVR.step {H0 : Hp} {x : V} {r : RV} {ρ0 : En} {F0 : Hp} (R0 : Rp K F0 H0 σ ρ0) (A : EStep K σ F0 H0 ρ0 F H ρ) (h : RVR K F H H0 σ x r) (B : EStep K σ F H ρ F1 H1 ρ1) : RVR K F1 H1 H0 σ x r := by
  cases r with
  | val d => exact Rep.up h B.sub
  | slot i => exact h
  | raw w => exact h
  | own o =>
    obtain ⟨p, hh, e, n0, f, e2, r⟩ := h
    have no : ¬ Own σ ρ p := fun z => (R0.ownH (EStep.ownA A z)).2 n0
    refine ⟨p, hh, e, n0, ?_, B.frame p hh e2 no, r.up B.sub⟩
    cases q : F1 p with
    | none => rfl
    | some u =>
      rcases B.new p f (by rw [q]; exact fun z => nomatch z) with z | z
      · rw [e2] at z; cases z
      · exact absurd z no
end
end
end DL

namespace DL
open PySem PySem.Spec PyProof.Rows L2

/-! ### mirrors of expressions, arguments, tests -/
abbrev EM := En → Option (RV × En)
abbrev TM := En → Option (Bool × En)
inductive Arg where
  | d (d : D) | r (i : Nat) | raw (v : V)
abbrev AM := En → Option (List Arg × En)

def rdC : Cell → Option D
  | .val d => some d
  | .own o => some o.toD
  | .ref o => some o.toD
  | .raw _ => none
def rdS (ρ : En) (i : Nat) : Option D := match ρ[i]? with
  | some (some c) => rdC c
  | _ => none
/-- the data that a value is read as -/
def rd (ρ : En) : RV → Option D
  | .val d => some d
  | .own o => some o.toD
  | .slot i => rdS ρ i
  | .raw _ => none
def RdR (K : PySem.W.Frag) (F H : Hp) (v : V) : D → Prop
  | .list ds => ∃ a vs, v = .ref a ∧ H a = some (.lst vs) ∧ RepAll K F vs ds
  | d => Rep K F v d
def fzS (ρ : En) (i : Nat) : Option (D × En) := match ρ[i]? with
  | some (some (.val d)) => some (d, ρ)
  | some (some (.own o)) => some (o.toD, ρ.set i (some (.val o.toD)))
  | _ => none
/-- a value that is kept: it is frozen -/
def fz (ρ : En) : RV → Option (D × En)
  | .val d => some (d, ρ)
  | .own o => some (o.toD, ρ)
  | .slot i => fzS ρ i
  | .raw _ => none

section
variable {K : PySem.W.Frag} {F F' H H' H0 F0 F1 H1 : Hp} {σ σ' : L2.St} {ρ ρ' ρ0 ρ1 : En} {v x : V} {d : D} {r : RV}

theorem Rep.rdR (h : Rep K F v d) (s : Sub F H) : RdR K F H v d := by
  cases h with
  | lst e t => exact ⟨_, _, rfl, s _ _ e, t⟩
  | non => exact .non
  | bl b => exact .bl b
  | int i => exact .int i
  | str x => exact .str x
  | tup e t => exact .tup e t
  | scr e => exact .scr e
theorem ObjR.rdR {o : MO} {p : Addr} {h : HO} (e : H p = some h) (t : ObjR K F h o) : RdR K F H (.ref p) o.toD := by
  cases h <;> cases o <;> first | exact t.elim | exact ⟨_, _, rfl, e, t⟩
theorem rd_ok (R : Rp K F H σ ρ) (h : RVR K F H H0 σ v r) (e : rd ρ r = some d) : RdR K F H v d := by
  cases r with
  | val d' => cases e; exact Rep.rdR h R.sub
  | raw w => cases e
  | own o =>
    obtain ⟨p, hh, rfl, _, _, e2, t⟩ := h
    cases e
    exact t.rdR e2
  | slot i =>
    have hs : σ[i]? = some (some v) := h
    have e : rdS ρ i = some d := e
    unfold rdS at e
    split at e
    · rename_i c q
      obtain ⟨v', e1, t⟩ := R.cell i c q
      rw [hs] at e1
      cases e1
      cases c with
      | val d' => cases e; exact Rep.rdR t R.sub
      | raw w => cases e
      | own o =>
        cases e
        obtain ⟨p, hh, rfl, _, e2, t⟩ := t
        exact t.rdR e2
      | ref o =>
        cases e
        obtain ⟨p, hh, rfl, _, e2, t⟩ := t
        exact t.rdR e2
    · cases e

theorem fresh_no (R0 : Rp K F0 H0 σ ρ0) (A : EStep K σ F0 H0 ρ0 F H ρ) {p : Addr} (n : H0 p = none) : ¬ Own σ ρ p := fun z => (R0.ownH (EStep.ownA A z)).2 n

/-- the frozen heap takes in one more object that is new or that slot i owns -/
theorem EStep.freeze (R0 : Rp K F0 H0 σ ρ0) (A : EStep K σ F0 H0 ρ0 F H ρ) {p : Addr} {hh : HO} (n : H0 p = none) (f : F p = none) (e : H p = some hh) :
    EStep K σ F0 H0 ρ0 (upd F p hh) H ρ := by
  have no := fresh_no R0 A n
  have R := A.rp
  have s1 : Sub F (upd F p hh) := Sub.new f
  refine ⟨⟨⟨fun a o q => ?_, R.len, fun i c q => ?_, R.sep⟩, A.sub.trans s1, A.dom, A.frame, fun a h1 h2 => ?_, A.own, A.refs⟩, A.ownI, A.same, A.slen⟩
  · by_cases h : a = p
    · subst h; rw [upd_same] at q; cases q; exact e
    · rw [upd_ne h] at q; exact R.sub a o q
  · obtain ⟨v, e1, t⟩ := R.cell i c q
    refine ⟨v, e1, ?_⟩
    have ow : ∀ o, c.mo = some o → CellR K F H v c → (∃ p' h, v = .ref p' ∧ F p' = none ∧ H p' = some h ∧ ObjR K F h o) → ∃ p' h, v = .ref p' ∧ (upd F p hh) p' = none ∧ H p' = some h ∧ ObjR K (upd F p hh) h o := fun o em _ ⟨p', h, e2, f', e3, t⟩ => by
      refine ⟨p', h, e2, ?_, e3, t.up s1⟩
      have ne : p' ≠ p := fun z => no ⟨i, by rw [q]; exact ⟨o, em⟩, by rw [e1, e2, z]⟩
      rw [upd_ne ne]; exact f'
    cases c with
    | val d => exact Rep.up t s1
    | own o => exact ow o rfl t t
    | ref o => exact ow o rfl t t
    | raw w => exact t
  · by_cases h : a = p
    · subst h; exact .inl n
    · rw [upd_ne h] at h2; exact A.new a h1 h2
/-- slot i's own object is frozen -/
theorem EStep.freezeSlot (A : EStep K σ F0 H0 ρ0 F H ρ) {i : Nat} {o : MO} (q : ρ[i]? = some (some (.own o))) :
    ∃ p hh, σ[i]? = some (some (.ref p)) ∧ F p = none ∧ EStep K σ F0 H0 ρ0 (upd F p hh) H (ρ.set i (some (.val o.toD))) ∧ Rep K (upd F p hh) (.ref p) o.toD := by
  have R := A.rp
  obtain ⟨v, e1, p, hh, rfl, f, e, t⟩ := R.cell i _ q
  have s1 : Sub F (upd F p hh) := Sub.new f
  have hi : i < ρ.length := (List.getElem?_eq_some_iff.mp q).1
  have ownp : Own σ ρ p := ⟨i, by rw [q]; exact ⟨o, rfl⟩, e1⟩
  have osub : ∀ j : Nat, isOwn (ρ.set i (some (.val o.toD)))[j]? → j ≠ i ∧ isOwn ρ[j]? := fun j h => by
    rw [List.getElem?_set] at h
    by_cases hj : i = j
    · rw [if_pos hj, if_pos hi] at h
      obtain ⟨o', e'⟩ := h
      cases e'
    · rw [if_neg hj] at h
      exact ⟨fun z => hj z.symm, h⟩
  refine ⟨p, hh, e1, f, ⟨⟨⟨fun a o q => ?_, ?_, fun j c q' => ?_, fun j k a h1 h2 => R.sep j k a (osub j h1).2 (osub k h2).2⟩, A.sub.trans s1, A.dom, A.frame, fun a h1 h2 => ?_, fun a ⟨j, h1, h2⟩ => A.own a ⟨j, (osub j h1).2, h2⟩, fun j h => ?_⟩, fun j h => A.ownI j (osub j h).2, A.same, A.slen⟩, t.rep f⟩
  · by_cases h : a = p
    · subst h; rw [upd_same] at q; cases q; exact e
    · rw [upd_ne h] at q; exact R.sub a o q
  · rw [List.length_set]; exact R.len
  · rw [List.getElem?_set] at q'
    by_cases hj : i = j
    · subst hj
      rw [if_pos rfl, if_pos hi] at q'
      cases q'
      exact ⟨_, e1, t.rep f⟩
    · rw [if_neg hj] at q'
      obtain ⟨v, e2, t'⟩ := R.cell j c q'
      refine ⟨v, e2, ?_⟩
      have ow : ∀ o', c.mo = some o' → (∃ p' h, v = .ref p' ∧ F p' = none ∧ H p' = some h ∧ ObjR K F h o') → ∃ p' h, v = .ref p' ∧ (upd F p hh) p' = none ∧ H p' = some h ∧ ObjR K (upd F p hh) h o' := fun o' em ⟨p', h, e3, f', e4, t⟩ => by
        refine ⟨p', h, e3, ?_, e4, t.up s1⟩
        have ne : p' ≠ p := fun z => hj (R.sep i j p (by rw [q]; exact ⟨o, rfl⟩) (by rw [q']; exact ⟨o', em⟩) e1 (by rw [e2, e3, z]))
        rw [upd_ne ne]; exact f'
      cases c with
      | val d => exact Rep.up t' s1
      | own o' => exact ow o' rfl t'
      | ref o' => exact ow o' rfl t'
      | raw w => exact t'
  · by_cases h : a = p
    · subst h
      rcases A.own a ownp with z | z
      · exact .inr z
      · exact .inl z
    · rw [upd_ne h] at h2; exact A.new a h1 h2
  · obtain ⟨h1, h2⟩ := A.refs j h
    refine ⟨?_, h2⟩
    have hj : i ≠ j := fun z => by subst z; rw [q] at h1; exact h1.elim
    rw [List.getElem?_set, if_neg hj]
    exact h1
theorem fz_ok (R0 : Rp K F0 H0 σ ρ0) (A : EStep K σ F0 H0 ρ0 F H ρ) (h : RVR K F H H0 σ v r) (e : fz ρ r = some (d, ρ')) :
    ∃ F', Sub F F' ∧ EStep K σ F0 H0 ρ0 F' H ρ' ∧ Rep K F' v d := by
  cases r with
  | val d' => cases e; exact ⟨F, Sub.refl _, A, h⟩
  | raw w => cases e
  | own o =>
    obtain ⟨p, hh, rfl, n, f, e2, t⟩ := h
    cases e
    exact ⟨_, Sub.new f, A.freeze R0 n f e2, t.rep f⟩
  | slot i =>
    have hs : σ[i]? = some (some v) := h
    have e : fzS ρ i = some (d, ρ') := e
    unfold fzS at e
    split at e
    · rename_i d' q
      cases e
      obtain ⟨v', e1, t⟩ := A.rp.cell i _ q
      rw [hs] at e1
      cases e1
      exact ⟨F, Sub.refl _, A, t⟩
    · rename_i o q
      cases e
      obtain ⟨p, hh, e1, f, B, t⟩ := A.freezeSlot q
      rw [hs] at e1
      cases e1
      exact ⟨_, Sub.new f, B, t⟩
    · cases e
end

/-! ### what a reading hands on -/
def EvE (K : PySem.W.Frag) (te : TE) (f : EM) : Prop := ∀ (F H : Hp) (σ : L2.St) (ρ : En) (r : RV) (ρ' : En), Rp K F H σ ρ → f ρ = some (r, ρ') →
  ∀ Q : VK, (∀ v F' H', EStep K σ F H ρ F' H' ρ' → RVR K F' H' H σ v r → Q v H') → te σ H Q
def EvT (K : PySem.W.Frag) (tt : TT) (f : TM) : Prop := ∀ (F H : Hp) (σ : L2.St) (ρ : En) (b : Bool) (ρ' : En), Rp K F H σ ρ → f ρ = some (b, ρ') →
  ∀ Q : Bool → Hp → Prop, (∀ F' H', EStep K σ F H ρ F' H' ρ' → Q b H') → tt σ H Q
def ArgR (K : PySem.W.Frag) (F : Hp) (σ : L2.St) : V → Arg → Prop
  | v, .d d => Rep K F v d
  | v, .r i => σ[i]? = some (some v)
  | v, .raw w => v = w
def EvA (K : PySem.W.Frag) (ta : TA) (f : AM) : Prop := ∀ (F H : Hp) (σ : L2.St) (ρ : En) (as : List Arg) (ρ' : En), Rp K F H σ ρ → f ρ = some (as, ρ') →
  ∀ Q : List V → Hp → Prop, (∀ vs F' H', EStep K σ F H ρ F' H' ρ' → Paired (ArgR K F' σ) vs as → Q vs H') → ta σ H Q
structure QE (X : Cx) (e : Expr) (te : TE) (f : EM) : Prop where
  pe : PE X e te
  ev : EvE X.K te f
structure QT (X : Cx) (e : Expr) (tt : TT) (f : TM) : Prop where
  pt : PT X e tt
  ev : EvT X.K tt f
structure QW (X : Cx) (e : Expr) (tt : TT) (f : TM) : Prop where
  pw : PW X e tt
  ev : EvT X.K tt f
structure QA (X : Cx) (es : List Expr) (ta : TA) (f : AM) : Prop where
  pa : PA X es ta
  ev : EvA X.K ta f

/-! ### operations on data -/
structure Grow (F H F' H' : Hp) : Prop where
  f : Sub F F'
  h : Sub H H'
  s : Sub F' H'
  new : ∀ a, F a = none → F' a ≠ none → H a = none
theorem Grow.refl {F H : Hp} (s : Sub F H) : Grow F H F H := ⟨Sub.refl _, Sub.refl _, s, fun _ a b => absurd a b⟩
theorem Grow.tup {F H : Hp} (s : Sub F H) {p : Addr} {o : HO} (n : H p = none) : Grow F H (upd F p o) (upd H p o) :=
  ⟨Sub.new (s.no n), Sub.new n, s.both, fun a h1 h2 => by
    by_cases h : a = p
    · subst h; exact n
    · rw [upd_ne h] at h2; exact absurd h1 h2⟩
theorem Grow.own {F H : Hp} (s : Sub F H) {p : Addr} {o : HO} (n : H p = none) : Grow F H F (upd H p o) :=
  ⟨Sub.refl _, Sub.new n, s.newF (s.no n), fun _ a b => absurd a b⟩
theorem Grow.trans {F H F1 H1 F2 H2 : Hp} (a : Grow F H F1 H1) (b : Grow F1 H1 F2 H2) : Grow F H F2 H2 :=
  ⟨a.f.trans b.f, a.h.trans b.h, b.s, fun x h1 h2 => by
    by_cases q : F1 x = none
    · exact a.h.no (b.new x q h2)
    · exact a.new x h1 q⟩
/-- a result: data, or a new object -/
def NewR (K : PySem.W.Frag) (F' H' H : Hp) : V → RV → Prop
  | v, .val d => Rep K F' v d
  | v, .own o => ∃ p h, v = .ref p ∧ H p = none ∧ F' p = none ∧ H' p = some h ∧ ObjR K F' h o
  | _, _ => False
def Op1 (K : PySem.W.Frag) (r : V → Hp → VK → Prop) (g : D → Option RV) : Prop := ∀ (F H : Hp) (x : V) (d : D) (z : RV), Sub F H → RdR K F H x d → g d = some z →
  ∀ Q : VK, (∀ v F' H', Grow F H F' H' → NewR K F' H' H v z → Q v H') → r x H Q
def Op2 (K : PySem.W.Frag) (r : R2) (g : D → D → Option RV) : Prop := ∀ (F H : Hp) (x y : V) (d e : D) (z : RV), Sub F H → RdR K F H x d → RdR K F H y e → g d e = some z →
  ∀ Q : VK, (∀ v F' H', Grow F H F' H' → NewR K F' H' H v z → Q v H') → r x y H Q
/-- a test's answer -/
def OpB (K : PySem.W.Frag) (r : V → Hp → (Bool → Hp → Prop) → Prop) (g : D → Option Bool) : Prop := ∀ (F H : Hp) (x : V) (d : D) (b : Bool), Sub F H → RdR K F H x d → g d = some b →
  ∀ Q : Bool → Hp → Prop, Q b H → r x H Q

def eName (i : Nat) : EM := fun ρ => match ρ[i]? with
  | some (some _) => some (.slot i, ρ)
  | _ => none
def eC (d : D) : EM := fun ρ => some (.val d, ρ)
def eRaw (v : V) : EM := fun ρ => some (.raw v, ρ)
def eOp1 (g : D → Option RV) (fa : EM) : EM := fun ρ => (fa ρ).bind fun p => (rd p.2 p.1).bind fun d => (g d).bind fun z => some (z, p.2)
def eOp2 (g : D → D → Option RV) (fa fb : EM) : EM := fun ρ => (fa ρ).bind fun p => (fb p.2).bind fun q => (rd q.2 p.1).bind fun d => (rd q.2 q.1).bind fun e => (g d e).bind fun z => some (z, q.2)
def aNil : AM := fun ρ => some ([], ρ)
def aVal (fe : EM) (fr : AM) : AM := fun ρ => (fe ρ).bind fun p => (fz p.2 p.1).bind fun q => (fr q.2).bind fun s => some (.d q.1 :: s.1, s.2)
def aRef (i : Nat) (fr : AM) : AM := fun ρ => match ρ[i]? with
  | some (some _) => (fr ρ).bind fun s => some (.r i :: s.1, s.2)
  | _ => none
def aRaw (i : Nat) (fr : AM) : AM := fun ρ => match ρ[i]? with
  | some (some (.raw v)) => (fr ρ).bind fun s => some (.raw v :: s.1, s.2)
  | _ => none
def argD : Arg → Option D
  | .d d => some d
  | _ => none
def argsD : List Arg → Option (List D)
  | [] => some []
  | a :: r => (argD a).bind fun d => (argsD r).bind fun ds => some (d :: ds)
def eTup (fa : AM) : EM := fun ρ => (fa ρ).bind fun p => (argsD p.1).bind fun ds => if ds.length ≤ sizeLine then some (.val (.tuple ds), p.2) else none
def eLst (fa : AM) : EM := fun ρ => (fa ρ).bind fun p => (argsD p.1).bind fun ds => if ds.length ≤ sizeLine then some (.own (.lst ds), p.2) else none

section
variable {K : PySem.W.Frag} {ta tb te : TE} {fa fb fe : EM}
theorem bind_some {α β : Type} {x : Option α} {f : α → Option β} {b : β} (h : x.bind f = some b) : ∃ a, x = some a ∧ f a = some b := by
  cases x with
  | none => cases h
  | some a => exact ⟨a, rfl, h⟩
theorem Grow.estep {F H F1 H1 : Hp} {σ : L2.St} {ρ : En} (R : Rp K F H σ ρ) (g : Grow F H F1 H1) : EStep K σ F H ρ F1 H1 ρ := EStep.grow R g.f g.h g.s g.new
theorem NewR.rvr {F' H' H1 H : Hp} {σ : L2.St} {v : V} {z : RV} (h : NewR K F' H' H1 v z) (dom : ∀ a, H1 a = none → H a = none) : RVR K F' H' H σ v z := by
  cases z with
  | val d => exact h
  | own o =>
    obtain ⟨p, hh, e, n, r⟩ := h
    exact ⟨p, hh, e, dom p n, r⟩
  | slot i => exact h.elim
  | raw w => exact h.elim
theorem ev_name {i : Nat} : EvE K (tVar i) (eName i) := by
  intro F H σ ρ r ρ' R e Q q
  unfold eName at e
  split at e
  · rename_i c h
    cases e
    obtain ⟨v, e1, t⟩ := R.cell i c h
    exact ⟨v, e1, q v F H (BStep.refl R) e1⟩
  · cases e
theorem ev_c {v : V} {d : D} (h : ∀ F, Rep K F v d) : EvE K (tC v) (eC d) := by
  intro F H σ ρ r ρ' R e Q q
  cases e
  exact q v F H (BStep.refl R) (h F)
theorem ev_raw {v : V} : EvE K (tC v) (eRaw v) := by
  intro F H σ ρ r ρ' R e Q q
  cases e
  exact q v F H (BStep.refl R) rfl
theorem ev_op1 {r : V → Hp → VK → Prop} {g : D → Option RV} (ha : EvE K ta fa) (ho : Op1 K r g) : EvE K (tUn r ta) (eOp1 g fa) := by
  intro F H σ ρ r ρ' R e Q q
  obtain ⟨⟨ra, ρ1⟩, e1, e⟩ := bind_some e
  obtain ⟨d, e2, e⟩ := bind_some e
  obtain ⟨z, e3, e⟩ := bind_some e
  cases e
  refine ha F H σ ρ ra ρ1 R e1 _ fun v F1 H1 A hv => ?_
  refine ho F1 H1 v d _ A.rp.sub (rd_ok A.rp hv e2) e3 _ fun v2 F2 H2 g hz => ?_
  exact q v2 F2 H2 (BStep.trans A (g.estep A.rp)) (hz.rvr A.dom)
theorem ev_op2 {r : R2} {g : D → D → Option RV} (ha : EvE K ta fa) (hb : EvE K tb fb) (ho : Op2 K r g) : EvE K (tOp r ta tb) (eOp2 g fa fb) := by
  intro F H σ ρ r ρ' R e Q q
  obtain ⟨⟨ra, ρ1⟩, e1, e⟩ := bind_some e
  obtain ⟨⟨rb, ρ2⟩, e2, e⟩ := bind_some e
  obtain ⟨d, e3, e⟩ := bind_some e
  obtain ⟨d', e4, e⟩ := bind_some e
  obtain ⟨z, e5, e⟩ := bind_some e
  cases e
  refine ha F H σ ρ ra ρ1 R e1 _ fun v F1 H1 A hv => ?_
  refine hb F1 H1 σ ρ1 rb ρ2 A.rp e2 _ fun u F2 H2 B hu => ?_
  have hv2 := RVR.step R A hv B
  refine ho F2 H2 v u d d' _ B.rp.sub (rd_ok B.rp hv2 e3) (rd_ok B.rp hu e4) e5 _ fun v2 F3 H3 g hz => ?_
  exact q v2 F3 H3 (BStep.trans (BStep.trans A B) (g.estep B.rp)) (hz.rvr fun a n => A.dom a (B.dom a n))
theorem ev_anil : EvA K tNil aNil := by
  intro F H σ ρ as ρ' R e Q q
  cases e
  exact q [] F H (BStep.refl R) .nil
theorem ArgR.up {F F' : Hp} {σ : L2.St} (s : Sub F F') {v : V} {a : Arg} (h : ArgR K F σ v a) : ArgR K F' σ v a := by
  cases a with
  | d d => exact Rep.up h s
  | r i => exact h
  | raw w => exact h
theorem ev_aval {tr : TA} {fr : AM} (he : EvE K te fe) (hr : EvA K tr fr) : EvA K (tCons te tr) (aVal fe fr) := by
  intro F H σ ρ as ρ' R e Q q
  obtain ⟨⟨ra, ρ1⟩, e1, e⟩ := bind_some e
  obtain ⟨⟨d, ρ2⟩, e2, e⟩ := bind_some e
  obtain ⟨⟨as', ρ3⟩, e3, e⟩ := bind_some e
  cases e
  refine he F H σ ρ ra ρ1 R e1 _ fun v F1 H1 A hv => ?_
  obtain ⟨F2, s2, A2, rv⟩ := fz_ok R A hv e2
  refine hr F2 H1 σ ρ2 as' ρ3 A2.rp e3 _ fun vs F3 H3 B hvs => ?_
  exact q (v :: vs) F3 H3 (BStep.trans A2 B) (.cons (Rep.up rv B.sub) hvs)
theorem ev_aref {i : Nat} {tr : TA} {fr : AM} (hr : EvA K tr fr) : EvA K (tCons (tVar i) tr) (aRef i fr) := by
  intro F H σ ρ as ρ' R e Q q
  unfold aRef at e
  split at e
  · rename_i c h
    obtain ⟨⟨as', ρ3⟩, e3, e⟩ := bind_some e
    cases e
    obtain ⟨v, e1, t⟩ := R.cell i c h
    refine ⟨v, e1, hr F H σ ρ as' ρ3 R e3 _ fun vs F3 H3 B hvs => ?_⟩
    exact q (v :: vs) F3 H3 B (.cons e1 hvs)
  · cases e
theorem ev_araw {i : Nat} {tr : TA} {fr : AM} (hr : EvA K tr fr) : EvA K (tCons (tVar i) tr) (aRaw i fr) := by
  intro F H σ ρ as ρ' R e Q q
  unfold aRaw at e
  split at e
  · rename_i w h
    obtain ⟨⟨as', ρ3⟩, e3, e⟩ := bind_some e
    cases e
    obtain ⟨v, e1, t⟩ := R.cell i _ h
    have t' : v = w := t
    subst t'
    refine ⟨v, e1, hr F H σ ρ as' ρ3 R e3 _ fun vs F3 H3 B hvs => ?_⟩
    exact q (v :: vs) F3 H3 B (.cons rfl hvs)
  · cases e
theorem args_rep {F : Hp} {σ : L2.St} : ∀ {vs : List V} {as : List Arg} {ds : List D}, Paired (ArgR K F σ) vs as → argsD as = some ds → RepAll K F vs ds
  | _, _, _, .nil, e => by cases e; exact .nil
  | _, a :: as, _, .cons r t, e => by
    obtain ⟨d, e1, e⟩ := bind_some e
    obtain ⟨ds, e2, e⟩ := bind_some e
    cases e
    cases a with
    | d d' => cases e1; exact .cons r (args_rep t e2)
    | r i => cases e1
    | raw w => cases e1
theorem ev_tup {t : TA} {f : AM} (h : EvA K t f) : EvE K (tTup t) (eTup f) := by
  intro F H σ ρ r ρ' R e Q q
  obtain ⟨⟨as, ρ1⟩, e1, e⟩ := bind_some e
  obtain ⟨ds, e2, e⟩ := bind_some e
  split at e
  · rename_i hl
    cases e
    refine h F H σ ρ as ρ1 R e1 _ fun vs F1 H1 A hvs => ?_
    have rp := args_rep hvs e2
    refine ⟨by rw [rp.length]; exact hl, fun p n => ?_⟩
    have g : Grow F1 H1 (upd F1 p (.tup vs)) (upd H1 p (.tup vs)) := Grow.tup A.rp.sub n
    exact q _ _ _ (BStep.trans A (g.estep A.rp)) (.tup (SqT.of upd_same) (rp.up g.f))
  · cases e
theorem ev_lst {t : TA} {f : AM} (h : EvA K t f) : EvE K (tLst t) (eLst f) := by
  intro F H σ ρ r ρ' R e Q q
  obtain ⟨⟨as, ρ1⟩, e1, e⟩ := bind_some e
  obtain ⟨ds, e2, e⟩ := bind_some e
  split at e
  · rename_i hl
    cases e
    refine h F H σ ρ as ρ1 R e1 _ fun vs F1 H1 A hvs => ?_
    have rp := args_rep hvs e2
    refine ⟨by rw [rp.length]; exact hl, fun p n => ?_⟩
    have g : Grow F1 H1 F1 (upd H1 p (.lst vs)) := Grow.own A.rp.sub n
    exact q _ _ _ (BStep.trans A (g.estep A.rp)) ⟨p, .lst vs, rfl, A.dom p n, A.rp.sub.no n, upd_same, rp⟩
  · cases e
end
end DL

namespace DL
open PySem PySem.Spec PyProof.Rows L2

/-! ### statements -/
inductive Out where
  | nx (ρ : En) | bk (ρ : En) | ct (ρ : En) | rt (c : Cell) (ρ : En)
abbrev SM := En → Option Out
abbrev GM := D → En → Option En

def RetR (K : PySem.W.Frag) (F H H0 : Hp) (σ0 σ : L2.St) (ρ0 ρ : En) : V → Cell → Prop
  | v, .val d => Rep K F v d
  | v, .own o => ∃ p h, v = .ref p ∧ (H0 p = none ∨ Own σ0 ρ0 p) ∧ (∀ i : Nat, isRef ρ[i]? → σ[i]? ≠ some (some (.ref p))) ∧ F p = none ∧ H p = some h ∧ ObjR K F h o
  | _, _ => False
def EndsOk (K : PySem.W.Frag) (F H : Hp) (σ : L2.St) (ρ : En) (D : Ends) : Out → Prop
  | .nx ρ' => ∀ σ' F' H', Step K F H σ ρ F' H' σ' ρ' → D.nx σ' H'
  | .bk ρ' => ∀ σ' F' H', Step K F H σ ρ F' H' σ' ρ' → D.bk σ' H'
  | .ct ρ' => ∀ σ' F' H', Step K F H σ ρ F' H' σ' ρ' → D.ct σ' H'
  | .rt c ρ' => ∀ v σ' F' H', Step K F H σ ρ F' H' σ' ρ' → RetR K F' H' H σ σ' ρ ρ' v c → D.rt v H'
def EvS (K : PySem.W.Frag) (ts : TS) (f : SM) : Prop := ∀ (F H : Hp) (σ : L2.St) (ρ : En) (o : Out), Rp K F H σ ρ → f ρ = some o →
  ∀ D : Ends, EndsOk K F H σ ρ D o → ts D σ H
/-- a target takes data -/
def EvG (K : PySem.W.Frag) (g : TG) (f : GM) (vs : List Nat) : Prop := ∀ (F H : Hp) (σ : L2.St) (ρ : En) (x : V) (d : DL.D) (ρ' : En), Rp K F H σ ρ → Rep K F x d → f d ρ = some ρ' →
  ∀ Q : L2.St → Hp → Prop, (∀ σ', BStep K vs F H σ ρ F H σ' ρ' → Q σ' H) → g x σ H Q
def EvGs (K : PySem.W.Frag) (g : TGs) (f : List DL.D → En → Option En) (vs : List Nat) : Prop := ∀ (F H : Hp) (σ : L2.St) (ρ : En) (xs : List V) (ds : List DL.D) (ρ' : En), Rp K F H σ ρ → RepAll K F xs ds → f ds ρ = some ρ' →
  ∀ Q : L2.St → Hp → Prop, (∀ σ', BStep K vs F H σ ρ F H σ' ρ' → Q σ' H) → g xs σ H Q
structure QS (X : Cx) (st : Stmt) (ts : TS) (f : SM) : Prop where
  ps : PS X st ts
  ev : EvS X.K ts f
structure QSs (X : Cx) (st : List Stmt) (ts : TS) (f : SM) : Prop where
  ps : PSs X st ts
  ev : EvS X.K ts f
structure QG (X : Cx) (e : Expr) (g : TG) (f : GM) (vs : List Nat) : Prop where
  pg : PG X e g
  ev : EvG X.K g f vs
structure QGs (X : Cx) (es : List Expr) (g : TGs) (f : List DL.D → En → Option En) (vs : List Nat) : Prop where
  pg : PGs X es g
  ev : EvGs X.K g f vs

section
variable {K : PySem.W.Frag} {F F' H H' H0 F0 F1 H1 F2 H2 : Hp} {σ σ' σ0 σ1 σ2 : L2.St} {ρ ρ' ρ0 ρ1 ρ2 : En} {v x : V} {d : DL.D} {r : RV}
theorem isOwn_set {i j : Nat} {c : Option Cell} (h : isOwn (ρ.set i c)[j]?) : (i = j ∧ isOwn (some c)) ∨ (i ≠ j ∧ isOwn ρ[j]?) := by
  rw [List.getElem?_set] at h
  by_cases hj : i = j
  · rw [if_pos hj] at h
    split at h
    · exact .inl ⟨hj, h⟩
    · exact h.elim
  · rw [if_neg hj] at h
    exact .inr ⟨hj, h⟩
/-- a slot is set to data -/
theorem Step.setVal (R : Rp K F H σ ρ) {i : Nat} (hr : ¬ isRef ρ[i]?) (h : Rep K F v d) : BStep K [i] F H σ ρ F H (σ.set i (some v)) (ρ.set i (some (.val d))) := by
  have os : ∀ j : Nat, isOwn (ρ.set i (some (.val d)))[j]? → i ≠ j ∧ isOwn ρ[j]? := fun j z => by
    rcases isOwn_set z with ⟨_, o, e⟩ | z
    · cases e
    · exact z
  have sg : ∀ j : Nat, i ≠ j → (σ.set i (some v))[j]? = σ[j]? := fun j n => by rw [List.getElem?_set, if_neg n]
  refine ⟨⟨⟨R.sub, by rw [List.length_set, List.length_set]; exact R.len, fun j c q => ?_, fun j k a h1 h2 h3 h4 => ?_⟩, Sub.refl _, fun _ z => z, fun _ _ z _ => z, fun _ h1 h2 => absurd h1 h2, fun a ⟨j, h1, h2⟩ => ?_, fun j h1 => ?_⟩, fun j z => (os j z).2, fun j n => ?_, List.length_set ..⟩
  · rw [List.getElem?_set] at q
    by_cases hj : i = j
    · subst hj
      rw [if_pos rfl] at q
      split at q
      · rename_i hl
        cases q
        exact ⟨v, by rw [List.getElem?_set, if_pos rfl, if_pos (by rw [R.len]; exact hl)], h⟩
      · cases q
    · rw [if_neg hj] at q
      obtain ⟨u, e1, t⟩ := R.cell j c q
      exact ⟨u, by rw [sg j hj]; exact e1, t⟩
  · obtain ⟨n1, o1⟩ := os j h1
    obtain ⟨n2, o2⟩ := os k h2
    rw [sg j n1] at h3
    rw [sg k n2] at h4
    exact R.sep j k a o1 o2 h3 h4
  · obtain ⟨n1, o1⟩ := os j h1
    rw [sg j n1] at h2
    exact .inl ⟨j, o1, h2⟩
  · have n : i ≠ j := fun z => by subst z; exact hr h1
    rw [List.getElem?_set, if_neg n, sg j n]
    exact ⟨h1, rfl⟩
  · rw [sg j fun z => n (by rw [z]; exact List.mem_singleton_self j)]
theorem Step.setRaw (R : Rp K F H σ ρ) {i : Nat} (hr : ¬ isRef ρ[i]?) : Step K F H σ ρ F H (σ.set i (some v)) (ρ.set i (some (.raw v))) := by
  have os : ∀ j : Nat, isOwn (ρ.set i (some (.raw v)))[j]? → i ≠ j ∧ isOwn ρ[j]? := fun j z => by
    rcases isOwn_set z with ⟨_, o, e⟩ | z
    · cases e
    · exact z
  have sg : ∀ j : Nat, i ≠ j → (σ.set i (some v))[j]? = σ[j]? := fun j n => by rw [List.getElem?_set, if_neg n]
  refine ⟨⟨R.sub, by rw [List.length_set, List.length_set]; exact R.len, fun j c q => ?_, fun j k a h1 h2 h3 h4 => ?_⟩, Sub.refl _, fun _ z => z, fun _ _ z _ => z, fun _ h1 h2 => absurd h1 h2, fun a ⟨j, h1, h2⟩ => ?_, fun j h1 => ?_⟩
  · rw [List.getElem?_set] at q
    by_cases hj : i = j
    · subst hj
      rw [if_pos rfl] at q
      split at q
      · rename_i hl
        cases q
        exact ⟨v, by rw [List.getElem?_set, if_pos rfl, if_pos (by rw [R.len]; exact hl)], rfl⟩
      · cases q
    · rw [if_neg hj] at q
      obtain ⟨u, e1, t⟩ := R.cell j c q
      exact ⟨u, by rw [sg j hj]; exact e1, t⟩
  · obtain ⟨n1, o1⟩ := os j h1
    obtain ⟨n2, o2⟩ := os k h2
    rw [sg j n1] at h3
    rw [sg k n2] at h4
    exact R.sep j k a o1 o2 h3 h4
  · obtain ⟨n1, o1⟩ := os j h1
    rw [sg j n1] at h2
    exact .inl ⟨j, o1, h2⟩
  · have n : i ≠ j := fun z => by subst z; exact hr h1
    rw [List.getElem?_set, if_neg n, sg j n]
    exact ⟨h1, rfl⟩
/-- a slot is set to a new object -/
theorem Step.setOwn (R0 : Rp K F0 H0 σ ρ0) (A : EStep K σ F0 H0 ρ0 F H ρ) {i : Nat} {o : MO} {p : Addr} {hh : HO} (hr : ¬ isRef ρ[i]?) (n : H0 p = none) (f : F p = none) (e : H p = some hh) (t : ObjR K F hh o) :
    Step K F0 H0 σ ρ0 F H (σ.set i (some (.ref p))) (ρ.set i (some (.own o))) := by
  have R := A.rp
  have no := fresh_no R0 A n
  have sg : ∀ j : Nat, i ≠ j → (σ.set i (some (V.ref p)))[j]? = σ[j]? := fun j n => by rw [List.getElem?_set, if_neg n]
  have at_i : ∀ a, (σ.set i (some (V.ref p)))[i]? = some (some (V.ref a)) → a = p := fun a z => by
    rw [List.getElem?_set, if_pos rfl] at z
    split at z
    · cases z; rfl
    · cases z
  have own' : ∀ a, Own (σ.set i (some (.ref p))) (ρ.set i (some (.own o))) a → a = p ∨ Own σ ρ a := fun a ⟨j, h1, h2⟩ => by
    rcases isOwn_set h1 with ⟨z, _⟩ | ⟨z, q⟩
    · subst z; exact .inl (at_i a h2)
    · rw [sg j z] at h2; exact .inr ⟨j, q, h2⟩
  refine ⟨⟨R.sub, by rw [List.length_set, List.length_set]; exact R.len, fun j c q => ?_, fun j k a h1 h2 h3 h4 => ?_⟩, A.sub, A.dom, A.frame, A.new, fun a h => ?_, fun j h1 => ?_⟩
  · rw [List.getElem?_set] at q
    by_cases hj : i = j
    · subst hj
      rw [if_pos rfl] at q
      split at q
      · rename_i hl
        cases q
        exact ⟨.ref p, by rw [List.getElem?_set, if_pos rfl, if_pos (by rw [R.len]; exact hl)], p, hh, rfl, f, e, t⟩
      · cases q
    · rw [if_neg hj] at q
      obtain ⟨u, e1, t⟩ := R.cell j c q
      exact ⟨u, by rw [sg j hj]; exact e1, t⟩
  · rcases isOwn_set h1 with ⟨z1, _⟩ | ⟨z1, q1⟩ <;> rcases isOwn_set h2 with ⟨z2, _⟩ | ⟨z2, q2⟩
    · rw [← z1, ← z2]
    · subst z1
      rw [at_i a h3] at h4
      rw [sg k z2] at h4
      exact absurd ⟨k, q2, h4⟩ no
    · subst z2
      rw [at_i a h4] at h3
      rw [sg j z1] at h3
      exact absurd ⟨j, q1, h3⟩ no
    · rw [sg j z1] at h3
      rw [sg k z2] at h4
      exact R.sep j k a q1 q2 h3 h4
  · rcases own' a h with z | z
    · rw [z]; exact .inr n
    · exact A.own a z
  · obtain ⟨r1, r2⟩ := A.refs j h1
    have nj : i ≠ j := fun z => by subst z; exact hr r1
    rw [List.getElem?_set, if_neg nj, sg j nj]
    exact ⟨r1, r2⟩
end

def isRefB : Option (Option Cell) → Bool
  | some (some (.ref _)) => true
  | _ => false
theorem isRefB_false {c : Option (Option Cell)} (h : isRefB c = false) : ¬ isRef c := by
  intro z
  rcases c with _ | _ | c
  · exact z
  · exact z
  · cases c with
    | ref o => cases h
    | _ => exact z
/-- slot i takes what slot j holds -/
def asgS (i j : Nat) (ρ : En) : Option En := match ρ[j]? with
  | some (some (.val d)) => some (ρ.set i (some (.val d)))
  | some (some (.raw v)) => some (ρ.set i (some (.raw v)))
  | some (some (.own o)) => if i = j then some ρ else some ((ρ.set j (some (.val o.toD))).set i (some (.val o.toD)))
  | _ => none
def asg (i : Nat) (r : RV) (ρ : En) : Option En := if isRefB ρ[i]? then none else match r with
  | .val d => some (ρ.set i (some (.val d)))
  | .own o => some (ρ.set i (some (.own o)))
  | .raw v => some (ρ.set i (some (.raw v)))
  | .slot j => asgS i j ρ
def sSet (i : Nat) (fe : EM) : SM := fun ρ => (fe ρ).bind fun p => (asg i p.1 p.2).bind fun ρ' => some (.nx ρ')
def sExpr (fe : EM) : SM := fun ρ => (fe ρ).bind fun p => some (.nx p.2)
def retS (i : Nat) (ρ : En) : Option Out := match ρ[i]? with
  | some (some (.val d)) => some (.rt (.val d) ρ)
  | some (some (.own o)) => some (.rt (.own o) ρ)
  | _ => none
def ret (r : RV) (ρ : En) : Option Out := match r with
  | .val d => some (.rt (.val d) ρ)
  | .own o => some (.rt (.own o) ρ)
  | .raw _ => none
  | .slot i => retS i ρ
def sRet (fe : EM) : SM := fun ρ => (fe ρ).bind fun p => ret p.1 p.2
def sRetN : SM := fun ρ => some (.rt (.val .none) ρ)
def sPass : SM := fun ρ => some (.nx ρ)
def sBreak : SM := fun ρ => some (.bk ρ)
def sCont : SM := fun ρ => some (.ct ρ)
def thenS (o : Out) (g : SM) : Option Out := match o with
  | .nx ρ => g ρ
  | o => some o
def sSeq (f g : SM) : SM := fun ρ => (f ρ).bind fun o => thenS o g
def sIf (c : TM) (f g : SM) : SM := fun ρ => (c ρ).bind fun p => if p.1 = true then f p.2 else g p.2

section
variable {K : PySem.W.Frag} {F F' H H' H0 F0 F1 H1 F2 H2 : Hp} {σ σ' σ0 σ1 σ2 : L2.St} {ρ ρ' ρ0 ρ1 ρ2 : En} {v x : V} {d : DL.D} {r : RV} {te : TE} {fe : EM} {f g : SM} {ts us : TS} {D : Ends} {o : Out}
theorem BStep.step0 (A : BStep K [] F H σ ρ F1 H1 σ ρ1) : Step K F H σ ρ F1 H1 σ ρ1 := A.toStep
/-- what is asked behind the first part is what is asked of the whole -/
theorem EndsOk.after (A : Step K F H σ ρ F1 H1 σ1 ρ1) (h : EndsOk K F H σ ρ D o) : EndsOk K F1 H1 σ1 ρ1 D o := by
  cases o with
  | nx ρ' => exact fun σ' F' H' B => h σ' F' H' (A.trans B)
  | bk ρ' => exact fun σ' F' H' B => h σ' F' H' (A.trans B)
  | ct ρ' => exact fun σ' F' H' B => h σ' F' H' (A.trans B)
  | rt c ρ' =>
    refine fun v σ' F' H' B rr => h v σ' F' H' (A.trans B) ?_
    cases c with
    | val d => exact rr
    | own o =>
      obtain ⟨p, hh, e, n, nr, z⟩ := rr
      refine ⟨p, hh, e, ?_, nr, z⟩
      rcases n with n | n
      · exact .inl (A.dom p n)
      · exact (A.own p n).symm
    | ref o => exact rr
    | raw w => exact rr
theorem asg_ok (R0 : Rp K F0 H0 σ ρ0) (A : EStep K σ F0 H0 ρ0 F H ρ) (h : RVR K F H H0 σ v r) {i : Nat} (e : asg i r ρ = some ρ') :
    ∃ F', Step K F0 H0 σ ρ0 F' H (σ.set i (some v)) ρ' := by
  unfold asg at e
  split at e
  · cases e
  · rename_i hr
    have hr : ¬ isRef ρ[i]? := isRefB_false (by simpa using hr)
    cases r with
    | val d =>
      cases e
      exact ⟨F, A.toStep.trans (Step.setVal A.rp hr h).toStep⟩
    | raw w =>
      cases e
      have h : v = w := h
      subst h
      exact ⟨F, A.toStep.trans (Step.setRaw A.rp hr)⟩
    | own o =>
      obtain ⟨p, hh, rfl, n, f, e2, t⟩ := h
      cases e
      exact ⟨F, Step.setOwn R0 A hr n f e2 t⟩
    | slot j =>
      have hs : σ[j]? = some (some v) := h
      have e : asgS i j ρ = some ρ' := e
      unfold asgS at e
      split at e
      · rename_i d q
        cases e
        obtain ⟨v', e1, t⟩ := A.rp.cell j _ q
        rw [hs] at e1
        cases e1
        exact ⟨F, A.toStep.trans (Step.setVal A.rp hr t).toStep⟩
      · rename_i w q
        cases e
        obtain ⟨v', e1, t⟩ := A.rp.cell j _ q
        rw [hs] at e1
        cases e1
        have t : v = w := t
        subst t
        exact ⟨F, A.toStep.trans (Step.setRaw A.rp hr)⟩
      · rename_i o q
        split at e
        · rename_i hij
          cases e
          subst hij
          have : σ.set i (some v) = σ := by
            obtain ⟨h1, h2⟩ := List.getElem?_eq_some_iff.mp hs
            rw [← h2]
            exact List.set_getElem_self h1
          rw [this]
          exact ⟨F, A.toStep⟩
        · rename_i hij
          cases e
          obtain ⟨p, hh, e1, f, B, t⟩ := A.freezeSlot q
          rw [hs] at e1
          cases e1
          have hr2 : ¬ isRef (ρ.set j (some (.val o.toD)))[i]? := fun z => by
            rw [List.getElem?_set, if_neg (fun z => hij z.symm)] at z
            exact hr z
          exact ⟨_, B.toStep.trans (Step.setVal B.rp hr2 t).toStep⟩
      · cases e
theorem ev_sset {i : Nat} (h : EvE K te fe) : EvS K (tAsg te (gName i)) (sSet i fe) := by
  intro F H σ ρ o R e D q
  obtain ⟨⟨r, ρ1⟩, e1, e⟩ := bind_some e
  obtain ⟨ρ2, e2, e⟩ := bind_some e
  cases e
  refine h F H σ ρ r ρ1 R e1 _ fun v F1 H1 A hv => ?_
  obtain ⟨F2, B⟩ := asg_ok R A hv e2
  exact q _ F2 H1 B
theorem ev_sexpr (h : EvE K te fe) : EvS K (tDrop te) (sExpr fe) := by
  intro F H σ ρ o R e D q
  obtain ⟨⟨r, ρ1⟩, e1, e⟩ := bind_some e
  cases e
  exact h F H σ ρ r ρ1 R e1 _ fun v F1 H1 A hv => q _ F1 H1 A.toStep
theorem ev_sret (h : EvE K te fe) : EvS K (tRet te) (sRet fe) := by
  intro F H σ ρ o R e D q
  obtain ⟨⟨r, ρ1⟩, e1, e⟩ := bind_some e
  refine h F H σ ρ r ρ1 R e1 _ fun v F1 H1 A hv => ?_
  cases r with
  | val d =>
    cases e
    exact q v _ F1 H1 A.toStep hv
  | raw w => cases e
  | own o =>
    cases e
    obtain ⟨p, hh, e2, n, z⟩ := hv
    refine q v _ F1 H1 A.toStep ⟨p, hh, e2, .inl n, fun i hi hp => ?_, z⟩
    exact fresh_no R A n ⟨i, hi.isOwn, hp⟩
  | slot i =>
    have hs : σ[i]? = some (some v) := hv
    have e : retS i ρ1 = some o := e
    unfold retS at e
    split at e
    · rename_i d w
      cases e
      obtain ⟨v', e3, t⟩ := A.rp.cell i _ w
      rw [hs] at e3
      cases e3
      exact q v _ F1 H1 A.toStep t
    · rename_i o w
      cases e
      obtain ⟨v', e3, p, hh, e4, z⟩ := A.rp.cell i _ w
      rw [hs] at e3
      cases e3
      refine q v _ F1 H1 A.toStep ⟨p, hh, e4, ?_, fun j hj hp => ?_, z⟩
      · have : Own σ ρ1 p := ⟨i, by rw [w]; exact ⟨o, rfl⟩, by rw [hs, e4]⟩
        exact (A.own p this).symm
      · have := A.rp.sep i j p (by rw [w]; exact ⟨o, rfl⟩) hj.isOwn (by rw [hs, e4]) hp
        subst this
        rw [w] at hj
        exact hj
    · cases e
theorem ev_sretn : EvS K tRetN sRetN := by
  intro F H σ ρ o R e D q
  cases e
  exact q .non _ F H (Step.refl R) .non
theorem ev_spass : EvS K tNext sPass := by
  intro F H σ ρ o R e D q
  cases e
  exact q _ F H (Step.refl R)
theorem ev_sbreak : EvS K tBreak sBreak := by
  intro F H σ ρ o R e D q
  cases e
  exact q _ F H (Step.refl R)
theorem ev_scont : EvS K tCont sCont := by
  intro F H σ ρ o R e D q
  cases e
  exact q _ F H (Step.refl R)
theorem ev_sseq (h1 : EvS K ts f) (h2 : EvS K us g) : EvS K (tSeq ts us) (sSeq f g) := by
  intro F H σ ρ o R e D q
  obtain ⟨o1, e1, e⟩ := bind_some e
  refine h1 F H σ ρ o1 R e1 _ ?_
  cases o1 with
  | nx ρ1 => exact fun σ' F' H' A => h2 F' H' σ' ρ1 o A.rp e D (q.after A)
  | bk ρ1 => cases e; exact q
  | ct ρ1 => cases e; exact q
  | rt c ρ1 => cases e; exact q
theorem ev_sif {c : TT} {fc : TM} (hc : EvT K c fc) (h1 : EvS K ts f) (h2 : EvS K us g) : EvS K (tIfS c ts us) (sIf fc f g) := by
  intro F H σ ρ o R e D q
  obtain ⟨⟨b, ρ1⟩, e1, e⟩ := bind_some e
  refine hc F H σ ρ b ρ1 R e1 _ fun F1 H1 A => ?_
  cases b with
  | true => exact h1 F1 H1 σ ρ1 o A.rp e D (q.after A.toStep)
  | false => exact h2 F1 H1 σ ρ1 o A.rp e D (q.after A.toStep)
end

/-! ### targets -/
def gmName (i : Nat) : GM := fun d ρ => if isRefB ρ[i]? then none else some (ρ.set i (some (.val d)))
def gmTup (f : List DL.D → En → Option En) (n : Nat) : GM := fun d ρ => match d with
  | .tuple ds => if ds.length = n then f ds ρ else none
  | _ => none
def gmNil : List DL.D → En → Option En := fun ds ρ => match ds with
  | [] => some ρ
  | _ => none
def gmCons (f : GM) (g : List DL.D → En → Option En) : List DL.D → En → Option En := fun ds ρ => match ds with
  | d :: ds => (f d ρ).bind fun ρ1 => g ds ρ1
  | _ => none
section
variable {K : PySem.W.Frag}
theorem ev_gname {i : Nat} : EvG K (gName i) (gmName i) [i] := by
  intro F H σ ρ x d ρ' R hx e Q q
  unfold gmName at e
  split at e
  · cases e
  · rename_i hr
    cases e
    exact q _ (Step.setVal R (isRefB_false (by simpa using hr)) hx)
theorem ev_gnil : EvGs K gNil gmNil [] := by
  intro F H σ ρ xs ds ρ' R hx e Q q
  cases hx with
  | nil => cases e; exact ⟨rfl, q _ (BStep.refl R)⟩
  | cons a b => cases e
theorem ev_gcons {t : TG} {u : TGs} {f : GM} {g : List DL.D → En → Option En} {vs ws : List Nat} (h1 : EvG K t f vs) (h2 : EvGs K u g ws) : EvGs K (gCons t u) (gmCons f g) (vs ++ ws) := by
  intro F H σ ρ xs ds ρ' R hx e Q q
  cases hx with
  | nil => cases e
  | cons a b =>
    obtain ⟨ρ1, e1, e⟩ := bind_some e
    refine ⟨_, _, rfl, h1 F H σ ρ _ _ ρ1 R a e1 _ fun σ1 A => h2 F H σ1 ρ1 _ _ ρ' A.rp b e Q fun σ2 B => q σ2 ?_⟩
    exact (A.wide fun i h => List.mem_append_left _ h).trans (B.wide fun i h => List.mem_append_right _ h)
theorem ev_gtup {t : TGs} {f : List DL.D → En → Option En} {n : Nat} {vs : List Nat} (h : EvGs K t f vs) : EvG K (gTup K n t) (gmTup f n) vs := by
  intro F H σ ρ x d ρ' R hx e Q q
  cases hx with
  | tup h1 h2 =>
    simp only [gmTup] at e
    split at e
    · rename_i hn
      exact ⟨_, _, rfl, R.sub.sqT h1, by rw [h2.length]; exact hn, h F H σ ρ _ _ ρ' R h2 e Q q⟩
    · cases e
  | _ => cases e
end
/-- any target, set to an expression's data -/
def sAsg (fe : EM) (g : GM) : SM := fun ρ => (fe ρ).bind fun p => (fz p.2 p.1).bind fun q => (g q.1 q.2).bind fun ρ' => some (.nx ρ')
theorem ev_sasg {K : PySem.W.Frag} {te : TE} {fe : EM} {g : TG} {f : GM} {vs : List Nat} (he : EvE K te fe) (hg : EvG K g f vs) : EvS K (tAsg te g) (sAsg fe f) := by
  intro F H σ ρ o R e D q
  obtain ⟨⟨r, ρ1⟩, e1, e⟩ := bind_some e
  obtain ⟨⟨d, ρ2⟩, e2, e⟩ := bind_some e
  obtain ⟨ρ3, e3, e⟩ := bind_some e
  cases e
  refine he F H σ ρ r ρ1 R e1 _ fun v F1 H1 A hv => ?_
  obtain ⟨F2, s2, A2, rv⟩ := fz_ok R A hv e2
  exact hg F2 H1 σ ρ2 v d ρ3 A2.rp rv e3 _ fun σ' B => q _ F2 H1 (A2.toStep.trans B.toStep)
end DL

namespace DL
open PySem PySem.Spec PyProof.Rows L2

/-! ### calls of defs -/
theorem pair_get {α β : Type} {R : α → β → Prop} : ∀ {xs : List α} {ys : List β} {k : Nat} {y : β}, Paired R xs ys → ys[k]? = some y → ∃ x, xs[k]? = some x ∧ R x y
  | _, _, _, _, .nil, e => by simp at e
  | _, _, 0, _, .cons r _, e => by simp at e; subst e; exact ⟨_, rfl, r⟩
  | _, _, k + 1, _, .cons _ t, e => by
    obtain ⟨x, h1, h2⟩ := pair_get (k := k) t (by simpa using e)
    exact ⟨x, by simpa using h1, h2⟩
theorem pair_getL {α β : Type} {R : α → β → Prop} : ∀ {xs : List α} {ys : List β} {k : Nat} {x : α}, Paired R xs ys → xs[k]? = some x → ∃ y, ys[k]? = some y ∧ R x y
  | _, _, _, _, .nil, e => by simp at e
  | _, _, 0, _, .cons r _, e => by simp at e; subst e; exact ⟨_, rfl, r⟩
  | _, _, k + 1, _, .cons _ t, e => by
    obtain ⟨x, h1, h2⟩ := pair_getL (k := k) t (by simpa using e)
    exact ⟨x, by simpa using h1, h2⟩
def cellS (ρ : En) (i : Nat) : Option Cell := match ρ[i]? with
  | some (some (.own o)) => some (.ref o)
  | some (some (.ref o)) => some (.ref o)
  | _ => none
def cellOf (ρ : En) : Arg → Option Cell
  | .d d => some (.val d)
  | .raw v => some (.raw v)
  | .r i => cellS ρ i
def cellsOf (ρ : En) : List Arg → Option (List Cell)
  | [] => some []
  | a :: as => (cellOf ρ a).bind fun c => (cellsOf ρ as).bind fun cs => some (c :: cs)
def refIx : List Arg → List Nat
  | [] => []
  | .r i :: as => i :: refIx as
  | _ :: as => refIx as
def nodupB : List Nat → Bool
  | [] => true
  | i :: is => !(is.contains i) && nodupB is
def putC (o : MO) : Option (Option Cell) → Option Cell
  | some (some (.own _)) => some (.own o)
  | some (some (.ref _)) => some (.ref o)
  | some c => c
  | none => none
def putMO (i : Nat) (o : MO) (ρ : En) : En := ρ.set i (putC o ρ[i]?)
def back : List Arg → List Cell → En → En
  | [], _, ρ => ρ
  | _ :: _, [], ρ => ρ
  | .r i :: as, .ref o :: cs, ρ => back as cs (putMO i o ρ)
  | _ :: as, _ :: cs, ρ => back as cs ρ
def toRV : Cell → RV
  | .val d => .val d
  | .own o => .own o
  | .ref o => .own o
  | .raw v => .raw v
abbrev Sem1 := List Cell → Option (Cell × List Cell)
structure CallPost (K : PySem.W.Frag) (F H : Hp) (vs : List V) (cs : List Cell) (F' H' : Hp) (cs' : List Cell) (v : V) (c : Cell) : Prop where
  sub : Sub F F'
  subH : Sub F' H'
  dom : ∀ a, H' a = none → H a = none
  frame : ∀ a o, H a = some o → (∀ (k : Nat) o', cs[k]? = some (.ref o') → vs[k]? ≠ some (.ref a)) → H' a = some o
  new : ∀ a, F a = none → F' a ≠ none → H a = none
  refs : ∀ (k : Nat) o, cs[k]? = some (.ref o) → ∃ o' p h, cs'[k]? = some (.ref o') ∧ vs[k]? = some (.ref p) ∧ F' p = none ∧ H' p = some h ∧ ObjR K F' h o'
  ret : match c with
    | .val d => Rep K F' v d
    | .own o => ∃ p h, v = .ref p ∧ H p = none ∧ F' p = none ∧ H' p = some h ∧ ObjR K F' h o
    | _ => False
structure ArgsOk (K : PySem.W.Frag) (F H : Hp) (vs : List V) (cs : List Cell) : Prop where
  sub : Sub F H
  cells : Paired (CellR K F H) vs cs
  noown : ∀ (k : Nat) o, cs[k]? ≠ some (.own o)
  sep : ∀ (j k : Nat) a o o', cs[j]? = some (.ref o) → cs[k]? = some (.ref o') → vs[j]? = some (.ref a) → vs[k]? = some (.ref a) → j = k
/-- a def's promise by its meaning over data -/
def spD (K : PySem.W.Frag) (sem : Sem1) : Sp := fun vs H Q _ => ∃ F cs c cs', ArgsOk K F H vs cs ∧ sem cs = some (c, cs') ∧ ∀ v F' H', CallPost K F H vs cs F' H' cs' v c → Q v H'
def eCall (sem : Sem1) (fa : AM) : EM := fun ρ => (fa ρ).bind fun p => (cellsOf p.2 p.1).bind fun cs => if nodupB (refIx p.1) = true then (sem cs).bind fun q => some (toRV q.1, back p.1 q.2 p.2) else none

section
variable {K : PySem.W.Frag}
theorem nodupB_ok : ∀ {l : List Nat}, nodupB l = true → l.Nodup
  | [], _ => .nil
  | i :: is, h => by
    unfold nodupB at h
    simp only [Bool.and_eq_true, Bool.not_eq_true', List.contains_eq_mem, decide_eq_false_iff_not] at h
    exact List.nodup_cons.mpr ⟨h.1, nodupB_ok h.2⟩
theorem mem_refIx {i : Nat} : ∀ {as : List Arg} {k : Nat}, as[k]? = some (.r i) → i ∈ refIx as
  | [], _, e => by simp at e
  | a :: as, 0, e => by
    simp at e; subst e
    exact List.mem_cons_self
  | a :: as, k + 1, e => by
    have h := mem_refIx (as := as) (k := k) (by simpa using e)
    cases a with
    | r j => exact List.mem_cons_of_mem _ h
    | _ => exact h
theorem cells_get {ρ : En} : ∀ {as : List Arg} {cs : List Cell} {k : Nat} {a : Arg}, cellsOf ρ as = some cs → as[k]? = some a → ∃ c, cs[k]? = some c ∧ cellOf ρ a = some c
  | [], _, _, _, _, e => by simp at e
  | a :: as, cs, k, b, h, e => by
    obtain ⟨c, e1, h⟩ := bind_some h
    obtain ⟨cs', e2, h⟩ := bind_some h
    cases h
    cases k with
    | zero => simp at e; subst e; exact ⟨c, rfl, e1⟩
    | succ k =>
      obtain ⟨c', h1, h2⟩ := cells_get e2 (by simpa using e)
      exact ⟨c', by simpa using h1, h2⟩
theorem cells_getC {ρ : En} : ∀ {as : List Arg} {cs : List Cell} {k : Nat} {c : Cell}, cellsOf ρ as = some cs → cs[k]? = some c → ∃ a, as[k]? = some a ∧ cellOf ρ a = some c
  | [], cs, _, _, h, e => by cases h; simp at e
  | a :: as, cs, k, b, h, e => by
    obtain ⟨c, e1, h⟩ := bind_some h
    obtain ⟨cs', e2, h⟩ := bind_some h
    cases h
    cases k with
    | zero => simp at e; subst e; exact ⟨a, rfl, e1⟩
    | succ k =>
      obtain ⟨c', h1, h2⟩ := cells_getC e2 (by simpa using e)
      exact ⟨c', by simpa using h1, h2⟩
theorem cellOf_ref {ρ : En} {a : Arg} {o : MO} (h : cellOf ρ a = some (.ref o)) : ∃ i c, a = .r i ∧ ρ[i]? = some (some c) ∧ c.mo = some o := by
  cases a with
  | d d => cases h
  | raw v => cases h
  | r i =>
    have h : cellS ρ i = some (.ref o) := h
    unfold cellS at h
    split at h
    · rename_i o' e; cases h; exact ⟨i, _, rfl, e, rfl⟩
    · rename_i o' e; cases h; exact ⟨i, _, rfl, e, rfl⟩
    · cases h
theorem cellOf_noown {ρ : En} {a : Arg} {o : MO} : cellOf ρ a ≠ some (.own o) := by
  intro h
  cases a with
  | d d => cases h
  | raw v => cases h
  | r i =>
    have h : cellS ρ i = some (.own o) := h
    unfold cellS at h
    split at h <;> cases h
theorem putC_own {o : MO} {c : Option (Option Cell)} : (isOwn (some (putC o c)) → isOwn c) ∧ (isRef c → isRef (some (putC o c))) := by
  rcases c with _ | _ | c
  · exact ⟨fun h => h, fun h => h⟩
  · exact ⟨fun h => h, fun h => h⟩
  · cases c with
    | own o' => exact ⟨fun _ => ⟨o', rfl⟩, fun h => h⟩
    | ref o' => exact ⟨fun _ => ⟨o', rfl⟩, fun h => h⟩
    | val d => exact ⟨fun h => h, fun h => h⟩
    | raw v => exact ⟨fun h => h, fun h => h⟩
theorem putMO_len {i : Nat} {o : MO} {ρ : En} : (putMO i o ρ).length = ρ.length := by unfold putMO; rw [List.length_set]
theorem putMO_self {i : Nat} {o : MO} {ρ : En} (h : i < ρ.length) : (putMO i o ρ)[i]? = some (putC o ρ[i]?) := by
  unfold putMO
  rw [List.getElem?_set, if_pos rfl, if_pos h]
theorem putMO_ne {i j : Nat} {o : MO} {ρ : En} (h : i ≠ j) : (putMO i o ρ)[j]? = ρ[j]? := by
  unfold putMO
  rw [List.getElem?_set, if_neg h]
theorem back_len : ∀ {as : List Arg} {cs : List Cell} {ρ : En}, (back as cs ρ).length = ρ.length
  | [], _, _ => rfl
  | _ :: _, [], _ => by unfold back; rfl
  | .r i :: as, .ref o :: cs, ρ => by rw [show back (.r i :: as) (.ref o :: cs) ρ = back as cs (putMO i o ρ) from rfl, back_len, putMO_len]
  | .r i :: as, .val _ :: cs, ρ => back_len (as := as) (cs := cs)
  | .r i :: as, .own _ :: cs, ρ => back_len (as := as) (cs := cs)
  | .r i :: as, .raw _ :: cs, ρ => back_len (as := as) (cs := cs)
  | .d d :: as, c :: cs, ρ => by rw [show back (.d d :: as) (c :: cs) ρ = back as cs ρ by cases c <;> rfl, back_len]
  | .raw d :: as, c :: cs, ρ => by rw [show back (.raw d :: as) (c :: cs) ρ = back as cs ρ by cases c <;> rfl, back_len]
theorem back_spec : ∀ (as : List Arg) (cs : List Cell) (ρ : En), (refIx as).Nodup → ∀ i : Nat,
    (∃ (k : Nat) (o' : MO), as[k]? = some (.r i) ∧ cs[k]? = some (.ref o') ∧ (i < ρ.length → (back as cs ρ)[i]? = some (putC o' ρ[i]?))) ∨ ((∀ k : Nat, as[k]? = some (.r i) → ∀ o', cs[k]? ≠ some (.ref o')) ∧ (back as cs ρ)[i]? = ρ[i]?)
  | [], _, ρ, _, i => .inr ⟨fun k h => by simp at h, rfl⟩
  | a :: as, [], ρ, _, i => .inr ⟨fun k _ o' h => by simp at h, by unfold back; rfl⟩
  | a :: as, c :: cs, ρ, nd, i => by
    have skip : (refIx as).Nodup → back (a :: as) (c :: cs) ρ = back as cs ρ → (∀ o', ¬ (a = .r i ∧ c = .ref o')) → (∃ (k : Nat) (o' : MO), (a :: as)[k]? = some (.r i) ∧ (c :: cs)[k]? = some (.ref o') ∧ (i < ρ.length → (back (a :: as) (c :: cs) ρ)[i]? = some (putC o' ρ[i]?))) ∨ ((∀ k : Nat, (a :: as)[k]? = some (.r i) → ∀ o', (c :: cs)[k]? ≠ some (.ref o')) ∧ (back (a :: as) (c :: cs) ρ)[i]? = ρ[i]?) := fun nd e hn => by
      rw [e]
      rcases back_spec as cs ρ nd i with ⟨k, o', h1, h2, h3⟩ | ⟨h1, h2⟩
      · exact .inl ⟨k + 1, o', by simpa using h1, by simpa using h2, h3⟩
      · refine .inr ⟨fun k hk o' hc => ?_, h2⟩
        cases k with
        | zero => simp at hk hc; exact hn o' ⟨hk, hc⟩
        | succ k => exact h1 k (by simpa using hk) o' (by simpa using hc)
    cases a with
    | d d => exact skip nd (by cases c <;> rfl) fun o' h => by cases h.1
    | raw w => exact skip nd (by cases c <;> rfl) fun o' h => by cases h.1
    | r j =>
      have nd' := List.nodup_cons.mp nd
      cases c with
      | val d => exact skip nd'.2 rfl fun o' h => by cases h.2
      | own d => exact skip nd'.2 rfl fun o' h => by cases h.2
      | raw d => exact skip nd'.2 rfl fun o' h => by cases h.2
      | ref o =>
        have e : back (.r j :: as) (.ref o :: cs) ρ = back as cs (putMO j o ρ) := rfl
        rw [e]
        by_cases hij : j = i
        · subst hij
          rcases back_spec as cs (putMO j o ρ) nd'.2 j with ⟨k, o', h1, _⟩ | ⟨h1, h2⟩
          · exact absurd (mem_refIx h1) nd'.1
          · refine .inl ⟨0, o, rfl, rfl, fun hl => ?_⟩
            rw [h2, putMO_self hl]
        · rcases back_spec as cs (putMO j o ρ) nd'.2 i with ⟨k, o', h1, h2, h3⟩ | ⟨h1, h2⟩
          · refine .inl ⟨k + 1, o', by simpa using h1, by simpa using h2, fun hl => ?_⟩
            rw [h3 (by rw [putMO_len]; exact hl), putMO_ne hij]
          · refine .inr ⟨fun k hk o' hc => ?_, by rw [h2, putMO_ne hij]⟩
            cases k with
            | zero => simp at hk; exact hij hk
            | succ k => exact h1 k (by simpa using hk) o' (by simpa using hc)

theorem ev_call {sem : Sem1} {ta : TA} {fa : AM} {E : XK} (ha : EvA K ta fa) : EvE K (tCall (spD K sem) [] E ta) (eCall sem fa) := by
  intro F H σ ρ r ρ' R e Q q
  obtain ⟨⟨as, ρ1⟩, e1, e⟩ := bind_some e
  obtain ⟨cs, e2, e⟩ := bind_some e
  split at e
  case isFalse => cases e
  rename_i nd
  have nd := nodupB_ok nd
  obtain ⟨⟨c, cs'⟩, e3, e⟩ := bind_some e
  cases e
  refine ha F H σ ρ as ρ1 R e1 _ fun vs F1 H1 A hvs => ?_
  rw [List.append_nil]
  have R1 := A.rp
  -- the k-th argument by reference
  have refk : ∀ (k : Nat) o, cs[k]? = some (.ref o) → ∃ i cc v, as[k]? = some (.r i) ∧ ρ1[i]? = some (some cc) ∧ cc.mo = some o ∧ vs[k]? = some v ∧ σ[i]? = some (some v) := fun k o h => by
    obtain ⟨a, h1, h2⟩ := cells_getC e2 h
    obtain ⟨i, cc, rfl, h3, h4⟩ := cellOf_ref h2
    obtain ⟨v, h5, h6⟩ := pair_get hvs h1
    exact ⟨i, cc, v, h1, h3, h4, h5, h6⟩
  have aok : ArgsOk K F1 H1 vs cs := by
    refine ⟨R1.sub, ?_, fun k o h => ?_, fun j k a o o' h1 h2 h3 h4 => ?_⟩
    · have go : ∀ {vs : List V} {as : List Arg} {cs : List Cell}, Paired (ArgR K F1 σ) vs as → cellsOf ρ1 as = some cs → Paired (CellR K F1 H1) vs cs := by
        intro vs as cs p
        induction p generalizing cs with
        | nil => intro h; cases h; exact .nil
        | @cons v a _ _ r t ih =>
          intro h
          obtain ⟨c, e1, h⟩ := bind_some h
          obtain ⟨cs', e2, h⟩ := bind_some h
          cases h
          refine .cons ?_ (ih e2)
          cases a with
          | d d => cases e1; exact r
          | raw w => cases e1; exact r
          | r i =>
            have r : σ[i]? = some (some v) := r
            have e1 : cellS ρ1 i = some c := e1
            unfold cellS at e1
            split at e1
            · rename_i o z
              cases e1
              obtain ⟨v', e5, t⟩ := R1.cell i _ z
              rw [r] at e5; cases e5
              exact t
            · rename_i o z
              cases e1
              obtain ⟨v', e5, t⟩ := R1.cell i _ z
              rw [r] at e5; cases e5
              exact t
            · cases e1
      exact go hvs e2
    · obtain ⟨a, h1, h2⟩ := cells_getC e2 h
      exact cellOf_noown h2
    · obtain ⟨i1, c1, v1, a1, b1, m1, p1, s1⟩ := refk j o h1
      obtain ⟨i2, c2, v2, a2, b2, m2, p2, s2⟩ := refk k o' h2
      rw [h3] at p1; cases p1
      rw [h4] at p2; cases p2
      have := R1.sep i1 i2 a (by rw [b1]; exact ⟨o, m1⟩) (by rw [b2]; exact ⟨o', m2⟩) s1 s2
      subst this
      -- the same slot at two places
      have two : ∀ {as : List Arg} {j k : Nat} {i : Nat}, (refIx as).Nodup → as[j]? = some (.r i) → as[k]? = some (.r i) → j = k := by
        intro as
        induction as with
        | nil => intro j k i _ h; simp at h
        | cons a as ih =>
          intro j k i nd h1 h2
          cases j with
          | zero =>
            cases k with
            | zero => rfl
            | succ k =>
              simp at h1 h2
              subst h1
              exact absurd (mem_refIx h2) (List.nodup_cons.mp nd).1
          | succ j =>
            cases k with
            | zero =>
              simp at h1 h2
              subst h2
              exact absurd (mem_refIx h1) (List.nodup_cons.mp nd).1
            | succ k =>
              have nd' : (refIx as).Nodup := by
                cases a with
                | r i => exact (List.nodup_cons.mp nd).2
                | _ => exact nd
              have e : j = k := ih nd' (by simpa using h1) (by simpa using h2)
              rw [e]
      exact two nd a1 a2
  refine ⟨F1, cs, c, cs', aok, e3, fun v F' H' post => ?_⟩
  have newn : ∀ p hh, F1 p = none → H1 p = some hh → F' p = none := fun p hh f h => by
    cases z : F' p with
    | none => rfl
    | some u =>
      have := post.new p f (by rw [z]; exact fun z => nomatch z)
      rw [h] at this; cases this
  have lt : ∀ {i : Nat} {cc : Cell}, ρ1[i]? = some (some cc) → i < ρ1.length := fun h => (List.getElem?_eq_some_iff.mp h).1
  -- slots behind the call
  have osub : ∀ i : Nat, isOwn (back as cs' ρ1)[i]? → isOwn ρ1[i]? := fun i h => by
    rcases back_spec as cs' ρ1 nd i with ⟨k, o', h1, h2, h3⟩ | ⟨h1, h2⟩
    · by_cases hl : i < ρ1.length
      · rw [h3 hl] at h; exact putC_own.1 h
      · rw [List.getElem?_eq_none (by rw [back_len]; omega)] at h; exact h.elim
    · rw [h2] at h; exact h
  have rsub : ∀ i : Nat, isRef ρ1[i]? → isRef (back as cs' ρ1)[i]? := fun i h => by
    rcases back_spec as cs' ρ1 nd i with ⟨k, o', h1, h2, h3⟩ | ⟨h1, h2⟩
    · have hl : i < ρ1.length := by
        obtain ⟨c', o, e', _⟩ := h.isOwn.some
        exact lt e'
      rw [h3 hl]; exact putC_own.2 h
    · rw [h2]; exact h
  have R2 : Rp K F' H' σ (back as cs' ρ1) := by
    refine ⟨post.subH, by rw [back_len]; exact R1.len, fun i cc h => ?_, fun i j a h1 h2 => R1.sep i j a (osub i h1) (osub j h2)⟩
    rcases back_spec as cs' ρ1 nd i with ⟨k, o', h1, h2, h3⟩ | ⟨h1, h2⟩
    · have hl : i < ρ1.length := by
        have := (List.getElem?_eq_some_iff.mp h).1
        rw [back_len] at this; exact this
      obtain ⟨ck, z1, z2⟩ := cells_get e2 h1
      have z2 : cellS ρ1 i = some ck := z2
      obtain ⟨v0, y1, y2⟩ := pair_get hvs h1
      have y2 : σ[i]? = some (some v0) := y2
      have fin : ∀ o, cs[k]? = some (.ref o) → ∃ v, σ[i]? = some (some v) ∧ ∃ p h, v = .ref p ∧ F' p = none ∧ H' p = some h ∧ ObjR K F' h o' := fun o hc => by
        obtain ⟨o'', p, hh, x1, x2, x3, x4, x5⟩ := post.refs k o hc
        rw [h2] at x1; cases x1
        rw [x2] at y1; cases y1
        exact ⟨_, y2, p, hh, rfl, x3, x4, x5⟩
      rw [h3 hl] at h
      unfold cellS at z2
      split at z2
      · rename_i o w
        cases z2
        rw [w] at h
        cases h
        exact fin o z1
      · rename_i o w
        cases z2
        rw [w] at h
        cases h
        exact fin o z1
      · cases z2
    · rw [h2] at h
      obtain ⟨v0, y1, y2⟩ := R1.cell i cc h
      refine ⟨v0, y1, ?_⟩
      have ow : ∀ o, cc.mo = some o → (∃ p h, v0 = .ref p ∧ F1 p = none ∧ H1 p = some h ∧ ObjR K F1 h o) → ∃ p h, v0 = .ref p ∧ F' p = none ∧ H' p = some h ∧ ObjR K F' h o := fun o em ⟨p, hh, x1, x2, x3, x4⟩ => by
        refine ⟨p, hh, x1, newn p hh x2 x3, post.frame p hh x3 fun k o' hk hv => ?_, x4.up post.sub⟩
        obtain ⟨i', c', v', a', b', m', p', s'⟩ := refk k o' hk
        rw [hv] at p'; cases p'
        have := R1.sep i i' p (by rw [h]; exact ⟨o, em⟩) (by rw [b']; exact ⟨o', m'⟩) (by rw [y1, x1]) s'
        subst this
        obtain ⟨o2, p2, hh2, x1', _⟩ := post.refs k o' hk
        exact h1 k a' o2 x1'
      cases cc with
      | val d => exact Rep.up y2 post.sub
      | own o => exact ow o rfl y2
      | ref o => exact ow o rfl y2
      | raw w => exact y2
  have B : EStep K σ F1 H1 ρ1 F' H' (back as cs' ρ1) := by
    refine ⟨⟨R2, post.sub, post.dom, fun a o h n => post.frame a o h fun k o' hk hv => ?_, fun a h1 h2 => .inl (post.new a h1 h2), fun a ⟨i, h1, h2⟩ => .inl ⟨i, osub i h1, h2⟩, fun i h => ⟨rsub i h, rfl⟩⟩, osub, fun _ _ => rfl, rfl⟩
    obtain ⟨i', c', v', a', b', m', p', s'⟩ := refk k o' hk
    rw [hv] at p'; cases p'
    exact n ⟨i', by rw [b']; exact ⟨o', m'⟩, s'⟩
  refine q v F' H' (BStep.trans A B) ?_
  have pr := post.ret
  cases c with
  | val d => exact pr
  | own o =>
    obtain ⟨p, hh, x1, x2, x3⟩ := pr
    exact ⟨p, hh, x1, A.dom p x2, x3⟩
  | ref o => exact pr.elim
  | raw w => exact pr.elim
end

/-! ### a def's meaning by its body -/
def outs : List Cell → En → List Cell
  | [], _ => []
  | .ref o :: cs, ρ => (match ρ.head? with
    | some (some c) => c
    | _ => .ref o) :: outs cs ρ.tail
  | c :: cs, ρ => c :: outs cs ρ.tail
def finO (cs : List Cell) : Out → Option (Cell × List Cell)
  | .nx ρ => some (.val .none, outs cs ρ)
  | .rt c ρ => some (c, outs cs ρ)
  | _ => none
def noOwnB : List Cell → Bool
  | [] => true
  | .own _ :: _ => false
  | _ :: cs => noOwnB cs
def fnSem (np nl : Nat) (body : SM) : Sem1 := fun cs => if cs.length = np then (body (cs.map some ++ List.replicate nl none)).bind fun o => finO cs o else none
theorem outs_get : ∀ {cs : List Cell} {ρ : En} {k : Nat} {o : MO} {c : Cell}, cs[k]? = some (.ref o) → ρ[k]? = some (some c) → (outs cs ρ)[k]? = some c
  | [], _, _, _, _, h, _ => by simp at h
  | a :: cs, ρ, 0, o, c, h, e => by
    simp at h; subst h
    cases ρ with
    | nil => simp at e
    | cons x ρ => simp at e; subst e; rfl
  | a :: cs, ρ, k + 1, o, c, h, e => by
    have ih := outs_get (cs := cs) (ρ := ρ.tail) (k := k) (o := o) (c := c) (by simpa using h) (by cases ρ with
      | nil => simp at e
      | cons x ρ => simpa using e)
    cases a <;> simpa [outs] using ih
theorem fnD {P : Program} {w : World} {K : PySem.W.Frag} {mg : Str → Option Value} {base : Heap} {x qual : Str} {st : Stmt} {f : Addr} {fd : FuncData} {N ps : List Str} {k np nl : Nat} {body : SM} (F : Fun K x qual st f fd) (S : FnScope N ps (defScope st)) (hp : ps.length = np) (hl : N.length = np + nl)
    (h : ∀ (cdv : Value) (A : Around) (outer : List PySem.Env) (s : Shared) (H : Hp) (E : XK), Room k (A.deeper (envOfC qual (defScope st) s.heap.objs.size f cdv)) →
      ∃ t, QSs (cxOf CX0 P w K mg base N qual (defScope st) f cdv A outer s H E).nox (defBody st) t body) : FnOk P w K mg base CX0 (k + 1) f fd ps (spD K (fnSem np nl body)) := by
  have plen : ∀ {α β : Type} {R : α → β → Prop} {xs : List α} {ys : List β}, Paired R xs ys → xs.length = ys.length := fun p => Paired.length p
  refine F.ok S (fun vs H Q E hs => ?_) (fun cdv A outer s H vs Q E hr hs => ?_)
  · obtain ⟨F', cs, c, cs', ok, e, _⟩ := hs
    unfold fnSem at e
    split at e
    · rename_i hn
      rw [plen ok.cells, hn, hp]
    · cases e
  · obtain ⟨F0, cs, c, cs', ok, e, q⟩ := hs
    obtain ⟨t, hq⟩ := h cdv A outer s H E hr
    refine ⟨t, hq.ps, ?_⟩
    unfold fnSem at e
    split at e
    case isFalse => cases e
    rename_i hn
    obtain ⟨o, e1, e2⟩ := bind_some e
    have hvs : vs.length = np := by rw [plen ok.cells, hn]
    have st0 : L2.start N vs = vs.map some ++ List.replicate nl none := by
      unfold L2.start
      rw [hl, hvs, show np + nl - np = nl by omega]
    -- the state at the entry
    have csl : ∀ (i : Nat) cc, (cs.map some ++ List.replicate nl (none : Option Cell))[i]? = some (some cc) → cs[i]? = some cc := fun i cc h => by
      rw [List.getElem?_append] at h
      split at h
      · rw [List.getElem?_map] at h
        cases z : cs[i]? with
        | none => rw [z] at h; simp at h
        | some c => rw [z] at h; simp at h; rw [h]
      · rw [List.getElem?_replicate] at h
        split at h <;> simp at h
    have vsl : ∀ (i : Nat) v, vs[i]? = some v → (vs.map some ++ List.replicate nl (none : Option V))[i]? = some (some v) := fun i v h => by
      rw [List.getElem?_append_left (by rw [List.length_map]; exact (List.getElem?_eq_some_iff.mp h).1), List.getElem?_map, h]
      rfl
    have own0 : ∀ i : Nat, isOwn (cs.map some ++ List.replicate nl (none : Option Cell))[i]? → ∃ o v a, cs[i]? = some (.ref o) ∧ vs[i]? = some v ∧ v = .ref a := fun i h => by
      obtain ⟨cc, o, z1, z2⟩ := h.some
      have z3 := csl i cc z1
      obtain ⟨v, z4, z5⟩ := pair_get ok.cells z3
      cases cc with
      | val d => cases z2
      | raw d => cases z2
      | own o' => exact absurd z3 (ok.noown i o')
      | ref o' =>
        obtain ⟨p, hh, rfl, _⟩ := z5
        exact ⟨o', _, p, z3, z4, rfl⟩
    have R0 : Rp K F0 H (L2.start N vs) (cs.map some ++ List.replicate nl none) := by
      rw [st0]
      refine ⟨ok.sub, by simp only [List.length_append, List.length_map, List.length_replicate]; rw [hvs, hn], fun i cc h => ?_, fun i j a h1 h2 h3 h4 => ?_⟩
      · have z3 := csl i cc h
        obtain ⟨v, z4, z5⟩ := pair_get ok.cells z3
        exact ⟨v, vsl i v z4, z5⟩
      · obtain ⟨o1, v1, a1, x1, x2, rfl⟩ := own0 i h1
        obtain ⟨o2, v2, a2, y1, y2, rfl⟩ := own0 j h2
        rw [vsl i _ x2] at h3; cases h3
        rw [vsl j _ y2] at h4; cases h4
        exact ok.sep i j a o1 o2 x1 y1 x2 y2
    have ref0 : ∀ i : Nat, isOwn (cs.map some ++ List.replicate nl (none : Option Cell))[i]? → isRef (cs.map some ++ List.replicate nl (none : Option Cell))[i]? := fun i h => by
      obtain ⟨o, v, a, x1, _⟩ := own0 i h
      rw [List.getElem?_append_left (by rw [List.length_map]; exact (List.getElem?_eq_some_iff.mp x1).1), List.getElem?_map, x1]
      trivial
    -- from the body's end to the caller
    have fin : ∀ (σ' : L2.St) (F' H' : Hp) (ρ' : En) (v : V) (c : Cell), Step K F0 H (L2.start N vs) (cs.map some ++ List.replicate nl none) F' H' σ' ρ' → RetR K F' H' H (L2.start N vs) σ' (cs.map some ++ List.replicate nl none) ρ' v c →
        CallPost K F0 H vs cs F' H' (outs cs ρ') v c := fun σ' F' H' ρ' v c A rr => by
      have refEnd : ∀ (k : Nat) o, cs[k]? = some (.ref o) → ∃ o' p h, ρ'[k]? = some (some (.ref o')) ∧ vs[k]? = some (.ref p) ∧ σ'[k]? = some (some (.ref p)) ∧ F' p = none ∧ H' p = some h ∧ ObjR K F' h o' := fun k o hk => by
        have hk0 : (cs.map some ++ List.replicate nl (none : Option Cell))[k]? = some (some (.ref o)) := by
          rw [List.getElem?_append_left (by rw [List.length_map]; exact (List.getElem?_eq_some_iff.mp hk).1), List.getElem?_map, hk]
          rfl
        obtain ⟨r1, r2⟩ := A.refs k (by rw [hk0]; trivial)
        obtain ⟨v0, z4, p, hh, rfl, _⟩ := pair_get ok.cells hk
        have s0 : σ'[k]? = some (some (.ref p)) := by
          rw [r2, st0]; exact vsl k _ z4
        obtain ⟨cc, o', y1, y2⟩ := r1.isOwn.some
        cases cc with
        | ref o' =>
          obtain ⟨v1, y3, p1, h1, rfl, y4, y5, y6⟩ := A.rp.cell k _ y1
          rw [s0] at y3; cases y3
          exact ⟨o', p, h1, y1, z4, s0, y4, y5, y6⟩
        | _ => rw [y1] at r1; exact r1.elim
      have noR : ∀ a, Own (L2.start N vs) (cs.map some ++ List.replicate nl none) a → ∃ (k : Nat) (o' : MO), cs[k]? = some (.ref o') ∧ vs[k]? = some (.ref a) := fun a ⟨i, h1, h2⟩ => by
        obtain ⟨o1, v1, a1, x1, x2, rfl⟩ := own0 i h1
        rw [st0, vsl i _ x2] at h2; cases h2
        exact ⟨i, o1, x1, x2⟩
      refine ⟨A.sub, A.rp.sub, A.dom, fun a o h n => A.frame a o h fun z => ?_, fun a h1 h2 => ?_, fun k o hk => ?_, ?_⟩
      · obtain ⟨k, o', x1, x2⟩ := noR a z
        exact n k o' x1 x2
      · rcases A.new a h1 h2 with z | z
        · exact z
        · obtain ⟨k, o', x1, x2⟩ := noR a z
          obtain ⟨o'', p, hh, y1, y2, y3, y4, y5⟩ := refEnd k o' x1
          rw [x2] at y2; cases y2
          exact absurd y4 h2
      · obtain ⟨o'', p, hh, y1, y2, y3, y4, y5⟩ := refEnd k o hk
        exact ⟨o'', p, hh, outs_get hk y1, y2, y4, y5⟩
      · cases c with
        | val d => exact rr
        | own o =>
          obtain ⟨p, hh, x1, x2, x3, x4⟩ := rr
          refine ⟨p, hh, x1, ?_, x4⟩
          rcases x2 with z | z
          · exact z
          · obtain ⟨k, o', y1, y2⟩ := noR p z
            obtain ⟨o'', p', hh', w1, w2, w3, w4, w5⟩ := refEnd k o' y1
            rw [y2] at w2; cases w2
            exact absurd w3 (x3 k (by rw [w1]; trivial))
        | ref o => exact rr.elim
        | raw o => exact rr.elim
    refine hq.ev F0 H (L2.start N vs) _ o R0 e1 _ ?_
    cases o with
    | nx ρ' =>
      cases e2
      exact fun σ' F' H' A => q .non F' H' (fin σ' F' H' ρ' .non (.val .none) A .non)
    | rt c' ρ' =>
      cases e2
      exact fun v σ' F' H' A rr => q v F' H' (fin σ' F' H' ρ' v c A rr)
    | bk ρ' => cases e2
    | ct ρ' => cases e2
end DL

namespace DL
open PySem PySem.Spec PyProof.Rows L2

/-! ### what is walked -/
abbrev IM := En → Option (List DL.D × En)
structure Runs (K : PySem.W.Frag) (F : Hp) (J : It) (ds : List DL.D) : Prop where
  stop : ∀ (F1 H1 : Hp) (i : Nat), Sub F F1 → Sub F1 H1 → ds.length ≤ i → J.stop i H1
  go : ∀ (F1 H1 : Hp) (i : Nat) d, Sub F F1 → Sub F1 H1 → ds[i]? = some d → J.go i H1
  yld : ∀ (F1 H1 : Hp) (i : Nat) d, Sub F F1 → Sub F1 H1 → ds[i]? = some d → ∀ x H2, J.yld i H1 x H2 → ∃ F2, Grow F1 H1 F2 H2 ∧ Rep K F2 x d
def EvI (K : PySem.W.Frag) (wi : TI) (f : IM) : Prop := ∀ (F H : Hp) (σ : L2.St) (ρ : En) (ds : List DL.D) (ρ' : En), Rp K F H σ ρ → f ρ = some (ds, ρ') →
  ∀ R : It → Hp → Prop, (∀ J F' H', EStep K σ F H ρ F' H' ρ' → Runs K F' J ds → R J H') → wi σ H R
structure QI (X : Cx) (tg iter : Expr) (wi : TI) (f : IM) : Prop where
  pi : PI X tg iter wi
  ev : EvI X.K wi f
/-- one turn's end -/
def turnO (o : Out) (k : SM) : Option Out := match o with
  | .nx ρ => k ρ
  | .ct ρ => k ρ
  | .bk ρ => some (.nx ρ)
  | .rt c ρ => some (.rt c ρ)
def forL (tgt : GM) (body : SM) : List DL.D → SM
  | [], ρ => some (.nx ρ)
  | d :: ds, ρ => (tgt d ρ).bind fun ρ1 => (body ρ1).bind fun o => turnO o (forL tgt body ds)
def sFor (src : IM) (tgt : GM) (body : SM) : SM := fun ρ => (src ρ).bind fun p => forL tgt body p.1 p.2
theorem ev_sfor {K : PySem.W.Frag} {wi : TI} {src : IM} {g : TG} {tgt : GM} {vs : List Nat} {tb : TS} {body : SM} (hi : EvI K wi src) (hg : EvG K g tgt vs) (hb : EvS K tb body) : EvS K (tFor wi g tb) (sFor src tgt body) := by
  intro F H σ ρ o R e D q
  obtain ⟨⟨ds, ρ1⟩, e1, e⟩ := bind_some e
  refine hi F H σ ρ ds ρ1 R e1 _ fun J F1 H1 A runs => ?_
  have q := q.after A.toStep
  refine ⟨fun i m σ' H' => m = ds.length - i ∧ i ≤ ds.length ∧ ∃ F' ρ', Step K F1 H1 σ ρ1 F' H' σ' ρ' ∧ forL tgt body (ds.drop i) ρ' = some o, ⟨ds.length, by simp, Nat.zero_le _, F1, ρ1, Step.refl A.rp, e⟩, ?_⟩
  rintro i m σ' H' ⟨rfl, hle, F', ρ', B, e⟩
  by_cases hi : i < ds.length
  · have hd : ds.drop i = ds[i] :: ds.drop (i + 1) := List.drop_eq_getElem_cons hi
    have hg' : ds[i]? = some ds[i] := List.getElem?_eq_getElem hi
    rw [hd] at e
    obtain ⟨ρ2, e2, e⟩ := bind_some e
    obtain ⟨o2, e3, e⟩ := bind_some e
    refine .inr ⟨runs.go F' H' i _ B.sub B.rp.sub hg', fun σ2 H2 => ∃ F2 ρ3, Step K F1 H1 σ ρ1 F2 H2 σ2 ρ3 ∧ forL tgt body (ds.drop (i + 1)) ρ3 = some o, fun σ2 H2 ⟨F2, ρ3, C, e4⟩ => ⟨ds.length - (i + 1), by omega, rfl, hi, F2, ρ3, C, e4⟩, fun x H2 hy => ?_⟩
    obtain ⟨F2, gr, rx⟩ := runs.yld F' H' i _ B.sub B.rp.sub hg' x H2 hy
    have C := (gr.estep B.rp).toStep
    refine hg F2 H2 σ' ρ' x _ ρ2 C.rp rx e2 _ fun σ2 G => ?_
    have BC := B.trans (C.trans G.toStep)
    refine hb F2 H2 σ2 ρ2 o2 G.rp e3 _ ?_
    cases o2 with
    | nx ρ3 => exact fun σ3 F3 H3 S => ⟨F3, ρ3, BC.trans S, e⟩
    | ct ρ3 => exact fun σ3 F3 H3 S => ⟨F3, ρ3, BC.trans S, e⟩
    | bk ρ3 =>
      cases e
      exact fun σ3 F3 H3 S => q σ3 F3 H3 (BC.trans S)
    | rt c ρ3 =>
      cases e
      exact q.after BC
  · have hd : ds.drop i = [] := List.drop_eq_nil_of_le (by omega)
    rw [hd] at e
    cases e
    exact .inl ⟨runs.stop F' H' i B.sub B.rp.sub (by omega), q σ' F' H' B⟩

/-! ### comprehensions -/
def wipeE (ρ : En) : List Nat → En
  | [] => ρ
  | v :: vs => (wipeE ρ vs).set v none
def keepC : Option (Option Cell) → Option Cell
  | some (some (.val d)) => some (.val d)
  | _ => none
def mergeE (ρ ρn : En) : List Nat → En
  | [] => ρn
  | v :: vs => (mergeE ρ ρn vs).set v (keepC ρ[v]?)
def compL (tgt : GM) (c : TM) (fe : EM) (vs : List Nat) : List DL.D → En → Option (List DL.D × En)
  | [], ρ => some ([], ρ)
  | d :: ds, ρ => (tgt d ρ).bind fun ρ1 => (c ρ1).bind fun p => if p.1 = true then
      (fe p.2).bind fun q => (fz q.2 q.1).bind fun s => (compL tgt c fe vs ds (wipeE s.2 vs)).bind fun t => some (s.1 :: t.1, t.2)
    else compL tgt c fe vs ds (wipeE p.2 vs)
def noRefB (ρ : En) (vs : List Nat) : Bool := vs.all fun v => !isRefB ρ[v]?
def eComp (src : IM) (tgt : GM) (c : TM) (fe : EM) (vs : List Nat) : EM := fun ρ => (src ρ).bind fun p =>
  if p.1.length ≤ sizeLine ∧ noRefB p.2 vs = true then (compL tgt c fe vs p.1 (wipeE p.2 vs)).bind fun q => some (.own (.lst q.1), mergeE p.2 q.2 vs) else none
def cYes : TM := fun ρ => some (true, ρ)

section
variable {K : PySem.W.Frag} {F F' H H' H0 F0 F1 H1 F2 H2 : Hp} {σ σ' σ0 σ1 σ2 : L2.St} {ρ ρ' ρ0 ρ1 ρ2 : En} {vs : List Nat}
theorem wipeE_len : ∀ {vs : List Nat}, (wipeE ρ vs).length = ρ.length
  | [] => rfl
  | v :: vs => by unfold wipeE; rw [List.length_set, wipeE_len]
theorem wipeE_out : ∀ {vs : List Nat} {i : Nat}, i ∉ vs → (wipeE ρ vs)[i]? = ρ[i]?
  | [], _, _ => rfl
  | v :: vs, i, h => by
    unfold wipeE
    rw [List.getElem?_set, if_neg (fun z => h (by rw [z]; exact List.mem_cons_self)), wipeE_out fun z => h (List.mem_cons_of_mem _ z)]
theorem wipeE_in : ∀ {vs : List Nat} {i : Nat} {c : Cell}, (wipeE ρ vs)[i]? = some (some c) → i ∉ vs
  | [], _, _, _ => by simp
  | v :: vs, i, c, h => by
    unfold wipeE at h
    rw [List.getElem?_set] at h
    by_cases z : v = i
    · rw [if_pos z] at h
      split at h <;> cases h
    · rw [if_neg z] at h
      have := wipeE_in h
      simp only [List.mem_cons, not_or]
      exact ⟨fun e => z e.symm, this⟩
theorem wipe_eq : ∀ {vs : List Nat} {σ σ' : L2.St}, σ.length = σ'.length → (∀ i : Nat, i ∉ vs → σ'[i]? = σ[i]?) → wipe σ' vs = wipe σ vs := by
  intro vs σ σ' hl h
  apply List.ext_getElem?
  intro i
  by_cases hi : i ∈ vs
  · have go : ∀ {vs : List Nat} {τ : L2.St}, i ∈ vs → (wipe τ vs)[i]? = if i < τ.length then some none else none := by
      intro vs
      induction vs with
      | nil => intro τ h; simp at h
      | cons v vs ih =>
        intro τ h
        show ((wipe τ vs).set v none)[i]? = _
        rw [List.getElem?_set]
        by_cases z : v = i
        · subst z
          rw [if_pos rfl, wipe_length]
        · rw [if_neg z]
          exact ih (by
            rcases List.mem_cons.mp h with e | e
            · exact absurd e.symm z
            · exact e)
    rw [go hi, go hi, hl]
  · rw [wipe_out hi, wipe_out hi, h i hi]
theorem wipe_wipe {σ : L2.St} : wipe (wipe σ vs) vs = wipe σ vs := wipe_eq (by rw [wipe_length]) fun i h => wipe_out h
theorem wipeE_own {i : Nat} (h : isOwn (wipeE ρ vs)[i]?) : i ∉ vs ∧ isOwn ρ[i]? := by
  obtain ⟨c, o, e1, e2⟩ := h.some
  have hi := wipeE_in e1
  rw [wipeE_out hi] at h
  exact ⟨hi, h⟩
theorem Rp.wipe (R : Rp K F H σ ρ) : Rp K F H (L2.wipe σ vs) (wipeE ρ vs) := by
  refine ⟨R.sub, by rw [wipe_length, wipeE_len]; exact R.len, fun i c h => ?_, fun i j a h1 h2 h3 h4 => ?_⟩
  · have hi := wipeE_in h
    rw [wipeE_out hi] at h
    rw [wipe_out hi]
    exact R.cell i c h
  · obtain ⟨n1, o1⟩ := wipeE_own h1
    obtain ⟨n2, o2⟩ := wipeE_own h2
    rw [wipe_out n1] at h3
    rw [wipe_out n2] at h4
    exact R.sep i j a o1 o2 h3 h4
theorem Own.wipe {a : Addr} (h : Own (L2.wipe σ vs) (wipeE ρ vs) a) : Own σ ρ a := by
  obtain ⟨i, h1, h2⟩ := h
  obtain ⟨n, o⟩ := wipeE_own h1
  rw [wipe_out n] at h2
  exact ⟨i, o, h2⟩
/-- a turn's end: the block's own names are forgotten -/
theorem BStep.wipe {σ1 : L2.St} {ρ1 : En} (A : BStep K vs F1 H1 σ1 ρ1 F H σ ρ) (h : ∀ (i : Nat) c, ρ1[i]? = some (some c) → i ∉ vs) : BStep K vs F1 H1 σ1 ρ1 F H (L2.wipe σ vs) (wipeE ρ vs) := by
  refine ⟨⟨A.rp.wipe, A.sub, A.dom, A.frame, A.new, fun a z => A.own a z.wipe, fun i z => ?_⟩, fun i z => A.ownI i (wipeE_own z).2, fun i n => by rw [wipe_out n]; exact A.same i n, by rw [wipe_length]; exact A.slen⟩
  obtain ⟨c, o, e, _⟩ := z.isOwn.some
  have n := h i c e
  rw [wipeE_out n, wipe_out n]
  exact A.refs i z
/-- an object that the start did not know is changed -/
theorem BStep.modD {σ1 : L2.St} {ρ1 : En} {D : Addr} {o : HO} (A : BStep K vs F1 H1 σ1 ρ1 F H σ ρ) (n : H1 D = none) (f : F D = none) (no : ¬ Own σ ρ D) : BStep K vs F1 H1 σ1 ρ1 F (upd H D o) σ ρ := by
  have R := A.rp
  refine ⟨⟨⟨R.sub.newF f, R.len, fun i c h => ?_, R.sep⟩, A.sub, fun a h => ?_, fun a u h z => ?_, A.new, A.own, A.refs⟩, A.ownI, A.same, A.slen⟩
  · obtain ⟨v, e1, t⟩ := R.cell i c h
    refine ⟨v, e1, ?_⟩
    have ow : ∀ o', c.mo = some o' → (∃ p h, v = .ref p ∧ F p = none ∧ H p = some h ∧ ObjR K F h o') → ∃ p h, v = .ref p ∧ F p = none ∧ (upd H D o) p = some h ∧ ObjR K F h o' := fun o' em ⟨p, hh, x1, x2, x3, x4⟩ => by
      refine ⟨p, hh, x1, x2, ?_, x4⟩
      have ne : p ≠ D := fun z => no ⟨i, by rw [h]; exact ⟨o', em⟩, by rw [e1, x1, z]⟩
      rw [upd_ne ne]; exact x3
    cases c with
    | val d => exact t
    | own o' => exact ow o' rfl t
    | ref o' => exact ow o' rfl t
    | raw w => exact t
  · by_cases z : a = D
    · rw [z]; exact n
    · rw [upd_ne z] at h; exact A.dom a h
  · have ne : a ≠ D := ne_of_none h n
    rw [upd_ne ne]
    exact A.frame a u h z
theorem mergeE_len {ρn : En} : ∀ {vs : List Nat}, (mergeE ρ ρn vs).length = ρn.length
  | [] => rfl
  | v :: vs => by unfold mergeE; rw [List.length_set, mergeE_len]
theorem mergeE_out {ρn : En} : ∀ {vs : List Nat} {i : Nat}, i ∉ vs → (mergeE ρ ρn vs)[i]? = ρn[i]?
  | [], _, _ => rfl
  | v :: vs, i, h => by
    unfold mergeE
    rw [List.getElem?_set, if_neg (fun z => h (by rw [z]; exact List.mem_cons_self)), mergeE_out fun z => h (List.mem_cons_of_mem _ z)]
theorem mergeE_in {ρn : En} : ∀ {vs : List Nat} {i : Nat} {c : Cell}, i ∈ vs → (mergeE ρ ρn vs)[i]? = some (some c) → ∃ d, c = .val d ∧ ρ[i]? = some (some (.val d))
  | [], _, _, h, _ => by simp at h
  | v :: vs, i, c, h, e => by
    unfold mergeE at e
    rw [List.getElem?_set] at e
    by_cases z : v = i
    · subst z
      rw [if_pos rfl] at e
      split at e
      · have e : keepC ρ[v]? = some c := Option.some.inj e
        unfold keepC at e
        split at e
        · rename_i d q
          cases e
          exact ⟨d, rfl, q⟩
        · cases e
      · cases e
    · rw [if_neg z] at e
      exact mergeE_in (by
        rcases List.mem_cons.mp h with e | e
        · exact absurd e.symm z
        · exact e) e
/-- from the block back to the frame -/
theorem EStep.block {ρn : En} (R : Rp K F1 H1 σ ρ1) (nr : ∀ i ∈ vs, ¬ isRef ρ1[i]?) (A : BStep K vs F1 H1 (L2.wipe σ vs) (wipeE ρ1 vs) F' H' (L2.wipe σ vs) ρn) : EStep K σ F1 H1 ρ1 F' H' (mergeE ρ1 ρn vs) := by
  have mo : ∀ i : Nat, isOwn (mergeE ρ1 ρn vs)[i]? → i ∉ vs ∧ isOwn ρn[i]? := fun i h => by
    by_cases hi : i ∈ vs
    · obtain ⟨c, o, e1, e2⟩ := h.some
      obtain ⟨d, rfl, _⟩ := mergeE_in hi e1
      cases e2
    · rw [mergeE_out hi] at h; exact ⟨hi, h⟩
  have oi : ∀ i : Nat, isOwn (mergeE ρ1 ρn vs)[i]? → isOwn ρ1[i]? := fun i h => by
    obtain ⟨n, o⟩ := mo i h
    exact (wipeE_own (A.ownI i o)).2
  refine ⟨⟨⟨A.rp.sub, ?_, fun i c h => ?_, fun i j a h1 h2 h3 h4 => R.sep i j a (oi i h1) (oi j h2) h3 h4⟩, A.sub, A.dom, fun a o h n => A.frame a o h fun z => n z.wipe, fun a h1 h2 => ?_, fun a ⟨i, h1, h2⟩ => .inl ⟨i, oi i h1, h2⟩, fun i h => ?_⟩, oi, fun _ _ => rfl, rfl⟩
  · have := A.rp.len
    rw [wipe_length] at this
    rw [mergeE_len]; exact this
  · by_cases hi : i ∈ vs
    · obtain ⟨d, rfl, e1⟩ := mergeE_in hi h
      obtain ⟨v, e2, t⟩ := R.cell i _ e1
      exact ⟨v, e2, Rep.up t A.sub⟩
    · rw [mergeE_out hi] at h
      obtain ⟨v, e2, t⟩ := A.rp.cell i _ h
      rw [wipe_out hi] at e2
      exact ⟨v, e2, t⟩
  · rcases A.new a h1 h2 with z | z
    · exact .inl z
    · exact .inr z.wipe
  · have hi : i ∉ vs := fun z => nr i z h
    rw [mergeE_out hi]
    have := A.refs i (by rw [wipeE_out hi]; exact h)
    exact ⟨this.1, rfl⟩
theorem BStep.notOwn {D : Addr} {o : HO} (A : Step K F H σ ρ F' H' σ' ρ') (f : F D = none) (e : H D = some o) (no : ¬ Own σ ρ D) : F' D = none ∧ H' D = some o ∧ ¬ Own σ' ρ' D := by
  refine ⟨?_, A.frame D o e no, fun z => ?_⟩
  · cases q : F' D with
    | none => rfl
    | some u =>
      rcases A.new D f (by rw [q]; exact fun z => nomatch z) with z | z
      · rw [e] at z; cases z
      · exact absurd z no
  · rcases A.own D z with z | z
    · exact no z
    · rw [e] at z; cases z
theorem ev_comp {wi : TI} {src : IM} {g : TG} {tgt : GM} {tt : TT} {c : TM} {te : TE} {fe : EM} {vs ws : List Nat} (hi : EvI K wi src) (hg : EvG K g tgt ws) (hws : ∀ i ∈ ws, i ∈ vs) (hc : EvT K tt c) (he : EvE K te fe) :
    EvE K (tLc wi g tt te vs) (eComp src tgt c fe vs) := by
  intro F H σ ρ r ρ' R e Q q
  obtain ⟨⟨ds, ρ1⟩, e1, e⟩ := bind_some e
  split at e
  case isFalse => cases e
  rename_i hsz
  obtain ⟨⟨ys, ρn⟩, e2, e⟩ := bind_some e
  cases e
  refine hi F H σ ρ ds ρ1 R e1 _ fun J F1 H1 A runs => ?_
  intro D hD
  have nr : ∀ i ∈ vs, ¬ isRef ρ1[i]? := fun i hi => isRefB_false (by
    have := List.all_eq_true.mp hsz.2 i hi
    simpa using this)
  have Rb : Rp K F1 H1 (wipe σ vs) (wipeE ρ1 vs) := A.rp.wipe
  have noD : ¬ Own (wipe σ vs) (wipeE ρ1 vs) D := fun z => (Rb.ownH z).2 hD
  have fD : F1 D = none := A.rp.sub.no hD
  refine ⟨fun i m Hc => m = ds.length - i ∧ i ≤ ds.length ∧ ∃ (Fc : Hp) (ρc : En) (acc : List V) (pre rest : List DL.D), BStep K vs F1 H1 (wipe σ vs) (wipeE ρ1 vs) Fc Hc (wipe σ vs) ρc ∧ Hc D = some (.lst acc) ∧ Fc D = none ∧ ¬ Own (wipe σ vs) ρc D ∧ RepAll K Fc acc pre ∧ acc.length ≤ i ∧ compL tgt c fe vs (ds.drop i) ρc = some (rest, ρn) ∧ ys = pre ++ rest,
    ⟨ds.length, by simp, Nat.zero_le _, F1, wipeE ρ1 vs, [], [], ys, ((Grow.own A.rp.sub hD).estep Rb).wide (fun i h => nomatch h), upd_same, fD, noD, .nil, Nat.le_refl _, e2, rfl⟩, ?_⟩
  rintro i m Hc ⟨rfl, hle, Fc, ρc, acc, pre, rest, B, hacc, fc, nc, racc, hal, ec, rfl⟩
  by_cases hi : i < ds.length
  · have hd : ds.drop i = ds[i] :: ds.drop (i + 1) := List.drop_eq_getElem_cons hi
    have hg' : ds[i]? = some ds[i] := List.getElem?_eq_getElem hi
    rw [hd] at ec
    obtain ⟨ρ2, e2, ec⟩ := bind_some ec
    obtain ⟨⟨b, ρ3⟩, e3, ec⟩ := bind_some ec
    refine .inr ⟨runs.go Fc Hc i _ B.sub B.rp.sub hg', fun Hn => ∃ (Fc : Hp) (ρc : En) (acc : List V) (pre' rest' : List DL.D), BStep K vs F1 H1 (wipe σ vs) (wipeE ρ1 vs) Fc Hn (wipe σ vs) ρc ∧ Hn D = some (.lst acc) ∧ Fc D = none ∧ ¬ Own (wipe σ vs) ρc D ∧ RepAll K Fc acc pre' ∧ acc.length ≤ i + 1 ∧ compL tgt c fe vs (ds.drop (i + 1)) ρc = some (rest', ρn) ∧ pre ++ rest = pre' ++ rest',
      fun Hn ⟨Fc, ρc, acc, pre', rest', h⟩ => ⟨ds.length - (i + 1), by omega, rfl, hi, Fc, ρc, acc, pre', rest', h⟩, fun x H2 hy => ?_⟩
    obtain ⟨F2, gr, rx⟩ := runs.yld Fc Hc i _ B.sub B.rp.sub hg' x H2 hy
    have C : BStep K vs Fc Hc (wipe σ vs) ρc F2 H2 (wipe σ vs) ρc := (gr.estep B.rp).wide (fun i h => nomatch h)
    refine hg F2 H2 (wipe σ vs) ρc x _ ρ2 C.rp rx e2 _ fun σ2 G => ?_
    have G := G.wide hws
    have wsame : ∀ i : Nat, i ∉ vs → σ2[i]? = (wipe σ vs)[i]? := G.same
    have wlen : (wipe σ vs).length = σ2.length := G.slen.symm
    refine ⟨by rw [wipe_eq wlen wsame, wipe_wipe], ?_⟩
    have w2 : wipe σ2 vs = wipe σ vs := by rw [wipe_eq wlen wsame, wipe_wipe]
    have BCG := (B.trans C).trans G
    have z2 := BStep.notOwn (C.trans G).toStep fc hacc nc
    refine hc F2 H2 σ2 ρ2 b ρ3 G.rp e3 _ fun F3 H3 T => ?_
    have T' : BStep K vs F2 H2 σ2 ρ2 F3 H3 σ2 ρ3 := T.wide (fun i h => nomatch h)
    have z3 := BStep.notOwn T.toStep z2.1 z2.2.1 z2.2.2
    cases b with
    | true =>
      rw [if_pos rfl]
      rw [if_pos rfl] at ec
      obtain ⟨⟨r4, ρ4⟩, e4, ec⟩ := bind_some ec
      obtain ⟨⟨y, ρ5⟩, e5, ec⟩ := bind_some ec
      obtain ⟨⟨rest', ρ6⟩, e6, ec⟩ := bind_some ec
      cases ec
      refine he F3 H3 σ2 ρ3 r4 ρ4 T.rp e4 _ fun v F4 H4 U hv => ?_
      obtain ⟨F5, s5, U5, rv⟩ := fz_ok T.rp U hv e5
      have U' : BStep K vs F3 H3 σ2 ρ3 F5 H4 σ2 ρ5 := U5.wide (fun i h => nomatch h)
      have z5 := BStep.notOwn U5.toStep z3.1 z3.2.1 z3.2.2
      have hsz1 : ds.length ≤ sizeLine := hsz.1
      refine ⟨acc, z5.2.1, by omega, ?_⟩
      have all := (BCG.trans T').trans U'
      have w := all.wipe (fun i c h => wipeE_in h)
      rw [w2] at w
      have no5 : ¬ Own (wipe σ vs) (wipeE ρ5 vs) D := fun z => by
        rw [← w2] at z
        exact z5.2.2 z.wipe
      refine ⟨F5, wipeE ρ5 vs, acc ++ [v], pre ++ [y], rest', w.modD hD z5.1 no5, upd_same, z5.1, no5, ?_, ?_, e6, ?_⟩
      · exact (racc.up (((C.trans G).trans T').trans U').sub).append (.cons rv .nil)
      · rw [List.length_append, List.length_singleton]; omega
      · rw [List.append_assoc]; rfl
    | false =>
      rw [if_neg Bool.false_ne_true]
      rw [if_neg Bool.false_ne_true] at ec
      have all := BCG.trans T'
      have w := all.wipe (fun i c h => wipeE_in h)
      rw [w2] at w
      have no3 : ¬ Own (wipe σ vs) (wipeE ρ3 vs) D := fun z => by
        rw [← w2] at z
        exact z3.2.2 z.wipe
      exact ⟨F3, wipeE ρ3 vs, acc, pre, rest, w, z3.2.1, z3.1, no3, racc.up ((C.trans G).trans T').sub, by omega, ec, rfl⟩
  · have hd : ds.drop i = [] := List.drop_eq_nil_of_le (by omega)
    rw [hd] at ec
    cases ec
    refine .inl ⟨runs.stop Fc Hc i B.sub B.rp.sub (by omega), ?_⟩
    exact q (.ref D) Fc Hc (BStep.trans A (EStep.block A.rp nr B)) ⟨D, .lst acc, rfl, A.dom D hD, fc, hacc, by
      show RepAll K Fc acc (pre ++ [])
      rw [List.append_nil]; exact racc⟩
end
end DL

namespace DL
open PySem PySem.Spec PyProof.Rows L2

/-! ### while -/
def sWhile (c : TM) (body : SM) (ρ : En) : Option Out := do
  let p ← c ρ
  if p.1 = true then do
    let o ← body p.2
    match o with
    | .nx ρ' => sWhile c body ρ'
    | .ct ρ' => sWhile c body ρ'
    | .bk ρ' => some (.nx ρ')
    | .rt c' ρ' => some (.rt c' ρ')
  else some (.nx p.2)
partial_fixpoint
def whileN (c : TM) (body : SM) : Nat → En → Option Out
  | 0, _ => none
  | n + 1, ρ => (c ρ).bind fun p => if p.1 = true then (body p.2).bind fun o => turnO o (whileN c body n) else some (.nx p.2)
theorem sWhile_eq (c : TM) (body : SM) (ρ : En) : sWhile c body ρ = (c ρ).bind fun p => if p.1 = true then (body p.2).bind fun o => turnO o (sWhile c body) else some (.nx p.2) := by
  rw [sWhile]
  cases c ρ with
  | none => rfl
  | some p =>
    show (if p.1 = true then _ else _) = (if p.1 = true then _ else _)
    by_cases h : p.1 = true
    · rw [if_pos h, if_pos h]
      cases body p.2 with
      | none => rfl
      | some o => cases o <;> rfl
    · rw [if_neg h, if_neg h]
theorem whileN_of (c : TM) (body : SM) : ∀ (ρ : En) (o : Out), sWhile c body ρ = some o → ∃ n, whileN c body n ρ = some o := by
  refine sWhile.partial_correctness c body (fun ρ o => ∃ n, whileN c body n ρ = some o) ?_
  intro f ih ρ o h
  obtain ⟨p, e1, h⟩ := bind_some (x := c ρ) h
  by_cases hp : p.1 = true
  · rw [if_pos hp] at h
    obtain ⟨o1, e2, h⟩ := bind_some (x := body p.2) h
    have fin : ∀ n, turnO o1 (whileN c body n) = some o → ∃ n, whileN c body n ρ = some o := fun n hn => by
      refine ⟨n + 1, ?_⟩
      unfold whileN
      rw [e1]
      show (if p.1 = true then (body p.2).bind fun o => turnO o (whileN c body n) else some (.nx p.2)) = some o
      rw [if_pos hp, e2]
      exact hn
    cases o1 with
    | nx ρ' =>
      obtain ⟨n, hn⟩ := ih ρ' o h
      exact fin n hn
    | ct ρ' =>
      obtain ⟨n, hn⟩ := ih ρ' o h
      exact fin n hn
    | bk ρ' => exact fin 0 h
    | rt c' ρ' => exact fin 0 h
  · rw [if_neg hp] at h
    refine ⟨1, ?_⟩
    unfold whileN
    rw [e1]
    show (if p.1 = true then (body p.2).bind fun o => turnO o (whileN c body 0) else some (.nx p.2)) = some o
    rw [if_neg hp]
    exact h
theorem ev_swhile {K : PySem.W.Frag} {tc : TT} {c : TM} {tb : TS} {body : SM} (hc : EvT K tc c) (hb : EvS K tb body) : EvS K (tWhile tc tb) (sWhile c body) := by
  intro F H σ ρ o R e D q
  obtain ⟨n, e⟩ := whileN_of c body ρ o e
  refine ⟨fun m σ' H' => ∃ F' ρ', Step K F H σ ρ F' H' σ' ρ' ∧ whileN c body m ρ' = some o, ⟨n, F, ρ, Step.refl R, e⟩, ?_⟩
  rintro m σ' H' ⟨F', ρ', B, e⟩
  cases m with
  | zero => cases e
  | succ m =>
    obtain ⟨⟨b, ρ1⟩, e1, e⟩ := bind_some e
    refine hc F' H' σ' ρ' b ρ1 B.rp e1 _ fun F1 H1 A => ?_
    have BA := B.trans A.toStep
    cases b with
    | true =>
      rw [if_pos rfl] at e ⊢
      obtain ⟨o1, e2, e⟩ := bind_some e
      refine ⟨fun σ2 H2 => ∃ F2 ρ2, Step K F H σ ρ F2 H2 σ2 ρ2 ∧ whileN c body m ρ2 = some o, fun σ2 H2 h => ⟨m, Nat.lt_succ_self m, h⟩, ?_⟩
      refine hb F1 H1 σ' ρ1 o1 A.rp e2 _ ?_
      cases o1 with
      | nx ρ3 => exact fun σ3 F3 H3 S => ⟨F3, ρ3, BA.trans S, e⟩
      | ct ρ3 => exact fun σ3 F3 H3 S => ⟨F3, ρ3, BA.trans S, e⟩
      | bk ρ3 =>
        cases e
        exact fun σ3 F3 H3 S => q σ3 F3 H3 (BA.trans S)
      | rt c ρ3 =>
        cases e
        exact q.after BA
    | false =>
      rw [if_neg Bool.false_ne_true] at e ⊢
      cases e
      exact q σ' F1 H1 BA

/-! ### tests -/
def tmNot (c : TM) : TM := fun ρ => (c ρ).bind fun p => some (!p.1, p.2)
def tmAnd (c d : TM) : TM := fun ρ => (c ρ).bind fun p => if p.1 = true then d p.2 else some (false, p.2)
def tmOr (c d : TM) : TM := fun ρ => (c ρ).bind fun p => if p.1 = true then some (true, p.2) else d p.2
def boolD : DL.D → Option Bool
  | .bool b => some b
  | _ => none
/-- an expression whose value is a bool -/
def tmB (fe : EM) : TM := fun ρ => (fe ρ).bind fun p => (rd p.2 p.1).bind fun d => (boolD d).bind fun b => some (b, p.2)
def truD : DL.D → Option Bool
  | .none => some false
  | .bool b => some b
  | .int i => some (i != 0)
  | .str x => if x.length ≤ sizeLine then some ((x.length : Int) != 0) else none
  | .list xs => some (!xs.isEmpty)
  | .tuple xs => some (!xs.isEmpty)
  | _ => none
/-- an expression's truth -/
def tmTru (fe : EM) : TM := fun ρ => (fe ρ).bind fun p => (rd p.2 p.1).bind fun d => (truD d).bind fun b => some (b, p.2)
def eTm (c : TM) : EM := fun ρ => (c ρ).bind fun p => some (.val (.bool p.1), p.2)
def eIf (c : TM) (fa fb : EM) : EM := fun ρ => (c ρ).bind fun p => if p.1 = true then fa p.2 else fb p.2
/-- and, or of values: all but the last are bools -/
def eAnd (fa fb : EM) : EM := fun ρ => (fa ρ).bind fun p => (rd p.2 p.1).bind fun d => (boolD d).bind fun b => if b = true then fb p.2 else some (.val (.bool false), p.2)
def eOr (fa fb : EM) : EM := fun ρ => (fa ρ).bind fun p => (rd p.2 p.1).bind fun d => (boolD d).bind fun b => if b = true then some (.val (.bool true), p.2) else fb p.2
def eNot (fa : EM) : EM := fun ρ => (fa ρ).bind fun p => (rd p.2 p.1).bind fun d => (truD d).bind fun b => some (.val (.bool (!b)), p.2)
/-- a op b op c -/
def eChain (g g' : DL.D → DL.D → Option RV) (fa fb fc : EM) : EM := fun ρ => (fa ρ).bind fun p => (fb p.2).bind fun q => (rd q.2 p.1).bind fun x => (rd q.2 q.1).bind fun y => (g x y).bind fun z => match z with
  | .val (.bool true) => (fc q.2).bind fun r => (rd r.2 q.1).bind fun y => (rd r.2 r.1).bind fun w => (g' y w).bind fun z => some (z, r.2)
  | .val (.bool false) => some (.val (.bool false), q.2)
  | _ => none

section
variable {K : PySem.W.Frag} {tc td : TT} {c d : TM} {ta tb te : TE} {fa fb fe fc : EM}
theorem BStep.rdR {F F1 H H1 : Hp} {σ : L2.St} {ρ ρ1 : En} {H0 : Hp} {v : V} {r : RV} {d : DL.D} (A : EStep K σ F H ρ F1 H1 ρ1) (hv : RVR K F1 H1 H0 σ v r) (e : rd ρ1 r = some d) : RdR K F1 H1 v d := rd_ok A.rp hv e
theorem boolR {F H : Hp} {v : V} {b : Bool} {d : DL.D} (h : RdR K F H v d) (e : boolD d = some b) : v = .bl b := by
  cases d with
  | bool c => cases e; cases h; rfl
  | _ => cases e
theorem ev_not (hc : EvT K tc c) : EvT K (tNot tc) (tmNot c) := by
  intro F H σ ρ b ρ' R e Q q
  obtain ⟨⟨b1, ρ1⟩, e1, e⟩ := bind_some e
  cases e
  exact hc F H σ ρ b1 _ R e1 _ fun F1 H1 A => q F1 H1 A
theorem ev_and (hc : EvT K tc c) (hd : EvT K td d) : EvT K (tAnd tc td) (tmAnd c d) := by
  intro F H σ ρ b ρ' R e Q q
  obtain ⟨⟨b1, ρ1⟩, e1, e⟩ := bind_some e
  refine hc F H σ ρ b1 ρ1 R e1 _ fun F1 H1 A => ?_
  cases b1 with
  | true =>
    rw [if_pos rfl] at e ⊢
    exact hd F1 H1 σ ρ1 b ρ' A.rp e _ fun F2 H2 B => q F2 H2 (BStep.trans A B)
  | false =>
    rw [if_neg Bool.false_ne_true] at e ⊢
    cases e
    exact q F1 H1 A
theorem ev_or (hc : EvT K tc c) (hd : EvT K td d) : EvT K (tOr tc td) (tmOr c d) := by
  intro F H σ ρ b ρ' R e Q q
  obtain ⟨⟨b1, ρ1⟩, e1, e⟩ := bind_some e
  refine hc F H σ ρ b1 ρ1 R e1 _ fun F1 H1 A => ?_
  cases b1 with
  | true =>
    rw [if_pos rfl] at e ⊢
    cases e
    exact q F1 H1 A
  | false =>
    rw [if_neg Bool.false_ne_true] at e ⊢
    exact hd F1 H1 σ ρ1 b ρ' A.rp e _ fun F2 H2 B => q F2 H2 (BStep.trans A B)
theorem ev_tb (he : EvE K te fe) : EvT K (tTest te) (tmB fe) := by
  intro F H σ ρ b ρ' R e Q q
  obtain ⟨⟨r, ρ1⟩, e1, e⟩ := bind_some e
  obtain ⟨d, e2, e⟩ := bind_some e
  obtain ⟨b', e3, e⟩ := bind_some e
  cases e
  exact he F H σ ρ r _ R e1 _ fun v F1 H1 A hv => ⟨b, boolR (rd_ok A.rp hv e2) e3, q F1 H1 A⟩
theorem ev_tb2 (he : EvE K te fe) : EvT K (tB te) (tmB fe) := ev_tb he
theorem truR {F H : Hp} {v : V} {b : Bool} {d : DL.D} (s : Sub F H) (h : RdR K F H v d) (e : truD d = some b) : TruV K v H b := by
  cases d with
  | none => cases e; cases h; rfl
  | bool c => cases e; cases h; rfl
  | int i => cases e; cases h; rfl
  | str x =>
    cases h
    have e : (if x.length ≤ sizeLine then some ((x.length : Int) != 0) else none) = some b := e
    split at e
    · cases e; exact ⟨by assumption, rfl⟩
    · cases e
  | list xs =>
    cases e
    obtain ⟨a, vs, rfl, h1, h2⟩ := h
    refine .inl ⟨vs, SqL.of h1, ?_⟩
    cases h2 <;> rfl
  | tuple xs =>
    cases e
    cases h with
    | tup h1 h2 =>
      refine .inr (.inl ⟨_, s.sqT h1, ?_⟩)
      cases h2 <;> rfl
  | dict kvs => cases e
theorem ev_tru (he : EvE K te fe) : EvT K (fun σ H Q => te σ H fun x H1 => ∃ k, TruV K x H1 k ∧ Q k H1) (tmTru fe) := by
  intro F H σ ρ b ρ' R e Q q
  obtain ⟨⟨r, ρ1⟩, e1, e⟩ := bind_some e
  obtain ⟨d, e2, e⟩ := bind_some e
  obtain ⟨b', e3, e⟩ := bind_some e
  cases e
  exact he F H σ ρ r _ R e1 _ fun v F1 H1 A hv => ⟨b, truR A.rp.sub (rd_ok A.rp hv e2) e3, q F1 H1 A⟩
theorem ev_if (hc : EvT K tc c) (ha : EvE K ta fa) (hb : EvE K tb fb) : EvE K (tIf tc ta tb) (eIf c fa fb) := by
  intro F H σ ρ r ρ' R e Q q
  obtain ⟨⟨b1, ρ1⟩, e1, e⟩ := bind_some e
  refine hc F H σ ρ b1 ρ1 R e1 _ fun F1 H1 A => ?_
  have up : ∀ v F2 H2, RVR K F2 H2 H1 σ v r → RVR K F2 H2 H σ v r := fun v F2 H2 h => by
    cases r with
    | own o =>
      obtain ⟨p, hh, e, n, z⟩ := h
      exact ⟨p, hh, e, A.dom p n, z⟩
    | _ => exact h
  cases b1 with
  | true =>
    rw [if_pos rfl] at e ⊢
    exact ha F1 H1 σ ρ1 r ρ' A.rp e _ fun v F2 H2 B hv => q v F2 H2 (BStep.trans A B) (up v F2 H2 hv)
  | false =>
    rw [if_neg Bool.false_ne_true] at e ⊢
    exact hb F1 H1 σ ρ1 r ρ' A.rp e _ fun v F2 H2 B hv => q v F2 H2 (BStep.trans A B) (up v F2 H2 hv)
theorem RVR.dom {F H H0 H1 : Hp} {σ : L2.St} {v : V} {r : RV} (h : RVR K F H H1 σ v r) (d : ∀ a, H1 a = none → H0 a = none) : RVR K F H H0 σ v r := by
  cases r with
  | own o =>
    obtain ⟨p, hh, e, n, z⟩ := h
    exact ⟨p, hh, e, d p n, z⟩
  | _ => exact h
theorem ev_eand (ha : EvE K ta fa) (hb : EvE K tb fb) : EvE K (tAndV ta tb) (eAnd fa fb) := by
  intro F H σ ρ r ρ' R e Q q
  obtain ⟨⟨ra, ρ1⟩, e1, e⟩ := bind_some e
  obtain ⟨d, e2, e⟩ := bind_some e
  obtain ⟨b, e3, e⟩ := bind_some e
  refine ha F H σ ρ ra ρ1 R e1 _ fun v F1 H1 A hv => ?_
  refine ⟨b, boolR (rd_ok A.rp hv e2) e3, ?_⟩
  cases b with
  | true =>
    rw [if_pos rfl] at e ⊢
    exact hb F1 H1 σ ρ1 r ρ' A.rp e _ fun v F2 H2 B hv => q v F2 H2 (BStep.trans A B) (hv.dom A.dom)
  | false =>
    rw [if_neg Bool.false_ne_true] at e ⊢
    cases e
    exact q _ F1 H1 A (.bl false)
theorem ev_eor (ha : EvE K ta fa) (hb : EvE K tb fb) : EvE K (tOrV ta tb) (eOr fa fb) := by
  intro F H σ ρ r ρ' R e Q q
  obtain ⟨⟨ra, ρ1⟩, e1, e⟩ := bind_some e
  obtain ⟨d, e2, e⟩ := bind_some e
  obtain ⟨b, e3, e⟩ := bind_some e
  refine ha F H σ ρ ra ρ1 R e1 _ fun v F1 H1 A hv => ?_
  refine ⟨b, boolR (rd_ok A.rp hv e2) e3, ?_⟩
  cases b with
  | true =>
    rw [if_pos rfl] at e ⊢
    cases e
    exact q _ F1 H1 A (.bl true)
  | false =>
    rw [if_neg Bool.false_ne_true] at e ⊢
    exact hb F1 H1 σ ρ1 r ρ' A.rp e _ fun v F2 H2 B hv => q v F2 H2 (BStep.trans A B) (hv.dom A.dom)
theorem ev_enot (ha : EvE K ta fa) : EvE K (tNotT K ta) (eNot fa) := by
  intro F H σ ρ r ρ' R e Q q
  obtain ⟨⟨ra, ρ1⟩, e1, e⟩ := bind_some e
  obtain ⟨d, e2, e⟩ := bind_some e
  obtain ⟨b, e3, e⟩ := bind_some e
  cases e
  refine ha F H σ ρ ra _ R e1 _ fun v F1 H1 A hv => ?_
  exact ⟨b, truR A.rp.sub (rd_ok A.rp hv e2) e3, q _ F1 H1 A (.bl _)⟩
theorem ev_chain {r r' : R2} {g g' : DL.D → DL.D → Option RV} (ha : EvE K ta fa) (hb : EvE K tb fb) (hc : EvE K te fc) (ho : Op2 K r g) (ho' : Op2 K r' g') : EvE K (tChain r r' ta tb te) (eChain g g' fa fb fc) := by
  intro F H σ ρ r0 ρ' R e Q q
  obtain ⟨⟨ra, ρ1⟩, e1, e⟩ := bind_some e
  obtain ⟨⟨rb, ρ2⟩, e2, e⟩ := bind_some e
  obtain ⟨x, e3, e⟩ := bind_some e
  obtain ⟨y, e4, e⟩ := bind_some e
  obtain ⟨z, e5, e⟩ := bind_some e
  refine ha F H σ ρ ra ρ1 R e1 _ fun v F1 H1 A hv => ?_
  refine hb F1 H1 σ ρ1 rb ρ2 A.rp e2 _ fun u F2 H2 B hu => ?_
  have hv2 := RVR.step R A hv B
  refine ho F2 H2 v u x y z B.rp.sub (rd_ok B.rp hv2 e3) (rd_ok B.rp hu e4) e5 _ fun v2 F3 H3 g3 hz => ?_
  have AB := BStep.trans A B
  have C := g3.estep B.rp
  have AC := BStep.trans AB C
  split at e
  · cases hz
    refine ⟨true, rfl, ?_⟩
    rw [if_pos rfl]
    obtain ⟨⟨rc, ρ3⟩, e6, e⟩ := bind_some e
    obtain ⟨y2, e7, e⟩ := bind_some e
    obtain ⟨w, e8, e⟩ := bind_some e
    obtain ⟨z2, e9, e⟩ := bind_some e
    cases e
    refine hc F3 H3 σ ρ2 rc ρ3 C.rp e6 _ fun t F4 H4 E4 ht => ?_
    have hu2 := RVR.step (A.rp) (BStep.trans B C) (RVR.step A.rp B hu C) E4
    refine ho' F4 H4 u t y2 w _ E4.rp.sub (rd_ok E4.rp hu2 e7) (rd_ok E4.rp ht e8) e9 _ fun v5 F5 H5 g5 hz5 => ?_
    have AE := BStep.trans AC E4
    exact q v5 F5 H5 (BStep.trans AE (g5.estep E4.rp)) (hz5.rvr AE.dom)
  · cases hz
    refine ⟨false, rfl, ?_⟩
    rw [if_neg Bool.false_ne_true]
    cases e
    exact q _ F3 H3 AC (.bl false)
  · cases e
end

/-! ### objects that change -/
section
variable {K : PySem.W.Frag} {F F' H H' H0 F0 F1 H1 : Hp} {σ σ' : L2.St} {ρ ρ' ρ0 ρ1 : En} {v x : V}
theorem Rp.slotObj (R : Rp K F H σ ρ) {i : Nat} {v : V} (hs : σ[i]? = some (some v)) (h : isOwn ρ[i]?) : ∃ c o p hh, v = .ref p ∧ ρ[i]? = some (some c) ∧ c.mo = some o ∧ F p = none ∧ H p = some hh ∧ ObjR K F hh o := by
  obtain ⟨c, o, p, hh, e1, e2, e3, e4, e5, e6⟩ := R.own h
  rw [hs] at e3
  cases e3
  exact ⟨c, o, p, hh, rfl, e1, e2, e4, e5, e6⟩
theorem EStep.put (R : Rp K F H σ ρ) {i : Nat} {p : Addr} {hh h2 : HO} {o2 : MO} (hs : σ[i]? = some (some (.ref p))) (h : isOwn ρ[i]?) (t : ObjR K F h2 o2) : EStep K σ F H ρ F (upd H p h2) (putMO i o2 ρ) := by
  obtain ⟨c, o, p', h1, e0, e1, e2, f, e3, e4⟩ := R.slotObj hs h
  cases e0
  have hl : i < ρ.length := (List.getElem?_eq_some_iff.mp e1).1
  have own' : ∀ j : Nat, isOwn (putMO i o2 ρ)[j]? → isOwn ρ[j]? := fun j z => by
    by_cases hj : i = j
    · subst hj; exact h
    · rw [putMO_ne hj] at z; exact z
  have ownp : Own σ ρ p := ⟨i, h, hs⟩
  refine ⟨⟨⟨R.sub.newF f, by rw [putMO_len]; exact R.len, fun j c' z => ?_, fun j k a h1 h2 => R.sep j k a (own' j h1) (own' k h2)⟩, Sub.refl _, fun a z => ?_, fun a o' z n => ?_, fun _ h1 h2 => absurd h1 h2, fun a ⟨j, h1, h2⟩ => .inl ⟨j, own' j h1, h2⟩, fun j z => ⟨?_, rfl⟩⟩, own', fun _ _ => rfl, rfl⟩
  · by_cases hj : i = j
    · subst hj
      rw [putMO_self hl, e1] at z
      refine ⟨_, hs, ?_⟩
      cases c with
      | own o' => cases z; exact ⟨p, h2, rfl, f, upd_same, t⟩
      | ref o' => cases z; exact ⟨p, h2, rfl, f, upd_same, t⟩
      | val d => cases e2
      | raw w => cases e2
    · rw [putMO_ne hj] at z
      obtain ⟨v, y1, y2⟩ := R.cell j c' z
      refine ⟨v, y1, ?_⟩
      have ow : ∀ o', c'.mo = some o' → (∃ p' h, v = .ref p' ∧ F p' = none ∧ H p' = some h ∧ ObjR K F h o') → ∃ p' h, v = .ref p' ∧ F p' = none ∧ (upd H p h2) p' = some h ∧ ObjR K F h o' := fun o' em ⟨p', h', x1, x2, x3, x4⟩ => by
        refine ⟨p', h', x1, x2, ?_, x4⟩
        have ne : p' ≠ p := fun q => hj (R.sep i j p h (by rw [z]; exact ⟨o', em⟩) hs (by rw [y1, x1, q]))
        rw [upd_ne ne]; exact x3
      cases c' with
      | val d => exact y2
      | own o' => exact ow o' rfl y2
      | ref o' => exact ow o' rfl y2
      | raw w => exact y2
  · by_cases hp : a = p
    · subst hp; rw [upd_same] at z; cases z
    · rw [upd_ne hp] at z; exact z
  · have ne : a ≠ p := fun q => n (by rw [q]; exact ownp)
    rw [upd_ne ne]; exact z
  · by_cases hj : i = j
    · subst hj; rw [putMO_self hl]; exact putC_own.2 z
    · rw [putMO_ne hj]; exact z
end
/-- the list that slot i owns -/
def lstS (ρ : En) (i : Nat) : Option (List DL.D) := match ρ[i]? with
  | some (some (.own (.lst ds))) => some ds
  | some (some (.ref (.lst ds))) => some ds
  | _ => none
theorem lstS_ok {K : PySem.W.Frag} {F H : Hp} {σ : L2.St} {ρ : En} (R : Rp K F H σ ρ) {i : Nat} {ds : List DL.D} (e : lstS ρ i = some ds) : isOwn ρ[i]? ∧ ∃ p vs, σ[i]? = some (some (.ref p)) ∧ F p = none ∧ H p = some (.lst vs) ∧ RepAll K F vs ds := by
  have go : ∀ c, ρ[i]? = some (some c) → c.mo = some (.lst ds) → isOwn ρ[i]? ∧ ∃ p vs, σ[i]? = some (some (.ref p)) ∧ F p = none ∧ H p = some (.lst vs) ∧ RepAll K F vs ds := fun c h m => by
    have ow : isOwn ρ[i]? := by rw [h]; exact ⟨_, m⟩
    obtain ⟨c', o, p, hh, e1, e2, e3, f, e4, e5⟩ := R.own ow
    rw [h] at e1; cases e1
    rw [m] at e2; cases e2
    cases hh with
    | lst vs => exact ⟨ow, p, vs, e3, f, e4, e5⟩
    | _ => exact e5.elim
  unfold lstS at e
  split at e
  · rename_i ds' h; cases e; exact go _ h rfl
  · rename_i ds' h; cases e; exact go _ h rfl
  · cases e
def eAppend (i : Nat) (fe : EM) : EM := fun ρ => (lstS ρ i).bind fun _ => (fe ρ).bind fun p => (fz p.2 p.1).bind fun q => (lstS q.2 i).bind fun ds => if ds.length < sizeLine then some (.val .none, putMO i (.lst (ds ++ [q.1])) q.2) else none
def eExtend (i : Nat) (fe : EM) : EM := fun ρ => (lstS ρ i).bind fun _ => (fe ρ).bind fun p => (rd p.2 p.1).bind fun d => (lstS p.2 i).bind fun ds => match d with
  | .list es => if ds.length + es.length ≤ sizeLine then some (.val .none, putMO i (.lst (ds ++ es)) p.2) else none
  | _ => none
def ePop (i : Nat) : EM := fun ρ => (lstS ρ i).bind fun ds => (ds[ds.length - 1]?).bind fun d => some (.val d, putMO i (.lst ds.dropLast) ρ)
def ePopAt (i : Nat) (fe : EM) : EM := fun ρ => (lstS ρ i).bind fun _ => (fe ρ).bind fun p => (rd p.2 p.1).bind fun d => (lstS p.2 i).bind fun ds => match d with
  | .int k => if 0 ≤ k ∧ k < ds.length ∧ k < 2 ^ 63 then (ds[k.toNat]?).bind fun d => some (.val d, putMO i (.lst (ds.eraseIdx k.toNat)) p.2) else none
  | _ => none
/-- x[k] = e -/
def setAt (i : Nat) (d k : DL.D) (ρ : En) : Option En := (lstS ρ i).bind fun ds => match k with
  | .int k => (ixN ds.length k).bind fun j => some (putMO i (.lst (ds.set j d)) ρ)
  | _ => none
section
variable {K : PySem.W.Frag} {te : TE} {fe : EM}
theorem ty_list {H : Hp} {p : Addr} {vs : List V} (h : H p = some (.lst vs)) : tyV K "list" (.ref p) H := .inl ⟨rfl, vs, SqL.of h⟩
theorem ev_append {i : Nat} (he : EvE K te fe) : EvE K (tBM K "list" rAppend (tVar i) (tCons te tNil)) (eAppend i fe) := by
  intro F H σ ρ r ρ' R e Q q
  obtain ⟨ds0, e0, e⟩ := bind_some e
  obtain ⟨⟨ra, ρ1⟩, e1, e⟩ := bind_some e
  obtain ⟨⟨d, ρ2⟩, e2, e⟩ := bind_some e
  obtain ⟨ds, e3, e⟩ := bind_some e
  split at e
  case isFalse => cases e
  rename_i hlen
  cases e
  obtain ⟨_, p, vs, s0, f0, h0, _⟩ := lstS_ok R e0
  refine ⟨_, s0, ty_list h0, ?_⟩
  refine he F H σ ρ ra ρ1 R e1 _ fun v F1 H1 A hv => ?_
  obtain ⟨F2, s2, A2, rv⟩ := fz_ok R A hv e2
  obtain ⟨ow, p', vs', s1, f1, h1, r1⟩ := lstS_ok A2.rp e3
  rw [s0] at s1; cases s1
  refine ⟨p, vs', v, rfl, rfl, h1, by rw [r1.length]; exact hlen, ?_⟩
  refine q _ F2 _ (BStep.trans A2 (EStep.put (hh := .lst vs') A2.rp s0 ow ?_)) .non
  exact r1.append (.cons rv .nil)
theorem ev_extend {i : Nat} (he : EvE K te fe) : EvE K (tBM K "list" rExtend (tVar i) (tCons te tNil)) (eExtend i fe) := by
  intro F H σ ρ r ρ' R e Q q
  obtain ⟨ds0, e0, e⟩ := bind_some e
  obtain ⟨⟨ra, ρ1⟩, e1, e⟩ := bind_some e
  obtain ⟨d, e2, e⟩ := bind_some e
  obtain ⟨ds, e3, e⟩ := bind_some e
  split at e
  case h_2 => cases e
  rename_i es
  split at e
  case isFalse => cases e
  rename_i hlen
  cases e
  obtain ⟨_, p, vs, s0, f0, h0, _⟩ := lstS_ok R e0
  refine ⟨_, s0, ty_list h0, ?_⟩
  refine he F H σ ρ ra ρ1 R e1 _ fun v F1 H1 A hv => ?_
  obtain ⟨b, ws, rfl, hb, rb⟩ := rd_ok A.rp hv e2
  obtain ⟨ow, p', vs', s1, f1, h1, r1⟩ := lstS_ok A.rp e3
  rw [s0] at s1; cases s1
  refine ⟨p, b, vs', ws, rfl, rfl, h1, hb, by rw [r1.length, rb.length]; exact hlen, ?_⟩
  exact q _ F1 _ (BStep.trans A (EStep.put (hh := .lst vs') A.rp s0 ow (r1.append rb))) .non
theorem ev_pop {i : Nat} : EvE K (tBM0 K "list" rPop (tVar i)) (ePop i) := by
  intro F H σ ρ r ρ' R e Q q
  obtain ⟨ds, e0, e⟩ := bind_some e
  obtain ⟨d, e1, e⟩ := bind_some e
  cases e
  obtain ⟨ow, p, vs, s0, f0, h0, r0⟩ := lstS_ok R e0
  obtain ⟨y, e2, ry⟩ := r0.get e1
  refine ⟨_, s0, ty_list h0, p, vs, y, rfl, rfl, h0, by rw [r0.length]; exact e2, ?_⟩
  exact q y F _ (EStep.put (hh := .lst vs) R s0 ow r0.dropLast) ry
theorem ev_popAt {i : Nat} (he : EvE K te fe) : EvE K (tBM K "list" rPopAt (tVar i) (tCons te tNil)) (ePopAt i fe) := by
  intro F H σ ρ r ρ' R e Q q
  obtain ⟨ds0, e0, e⟩ := bind_some e
  obtain ⟨⟨ra, ρ1⟩, e1, e⟩ := bind_some e
  obtain ⟨d, e2, e⟩ := bind_some e
  obtain ⟨ds, e3, e⟩ := bind_some e
  cases d with
  | int k => ?_
  | _ => cases e
  have e : (if 0 ≤ k ∧ k < ds.length ∧ k < 2 ^ 63 then (ds[k.toNat]?).bind fun d => some (RV.val d, putMO i (.lst (ds.eraseIdx k.toNat)) ρ1) else none) = some (r, ρ') := e
  split at e
  case isFalse => cases e
  rename_i hk
  obtain ⟨y, e4, e⟩ := bind_some e
  cases e
  obtain ⟨_, p, vs, s0, f0, h0, _⟩ := lstS_ok R e0
  refine ⟨_, s0, ty_list h0, ?_⟩
  refine he F H σ ρ ra ρ1 R e1 _ fun v F1 H1 A hv => ?_
  have hx : Rep K F1 v (.int k) := rd_ok A.rp hv e2
  cases hx
  obtain ⟨ow, p', vs', s1, f1, h1, r1⟩ := lstS_ok A.rp e3
  rw [s0] at s1; cases s1
  obtain ⟨w, e5, rw'⟩ := r1.get e4
  refine ⟨p, vs', k, k.toNat, w, rfl, rfl, h1, by omega, hk.2.2, ?_, e5, ?_⟩
  · exact seqIndex_of hk.1 (by rw [r1.length]; exact hk.2.1)
  · exact q w F1 _ (BStep.trans A (EStep.put (hh := .lst vs') A.rp s0 ow (r1.eraseIdx _))) rw'
end
end DL

namespace DL
open PySem PySem.Spec PyProof.Rows L2

/-! ### targets that may change objects -/
def EvX (K : PySem.W.Frag) (g : TG) (f : GM) : Prop := ∀ (F H : Hp) (σ : L2.St) (ρ : En) (x : V) (d : DL.D) (ρ' : En), Rp K F H σ ρ → Rep K F x d → f d ρ = some ρ' →
  ∀ Q : L2.St → Hp → Prop, (∀ σ' F' H', Step K F H σ ρ F' H' σ' ρ' → Q σ' H') → g x σ H Q
def EvXs (K : PySem.W.Frag) (g : TGs) (f : List DL.D → En → Option En) : Prop := ∀ (F H : Hp) (σ : L2.St) (ρ : En) (xs : List V) (ds : List DL.D) (ρ' : En), Rp K F H σ ρ → RepAll K F xs ds → f ds ρ = some ρ' →
  ∀ Q : L2.St → Hp → Prop, (∀ σ' F' H', Step K F H σ ρ F' H' σ' ρ' → Q σ' H') → g xs σ H Q
def gmSub (i : Nat) (fk : EM) : GM := fun d ρ => (lstS ρ i).bind fun _ => (fk ρ).bind fun p => (rd p.2 p.1).bind fun k => setAt i d k p.2
section
variable {K : PySem.W.Frag}
theorem EvG.x {g : TG} {f : GM} {vs : List Nat} (h : EvG K g f vs) : EvX K g f := fun F H σ ρ x d ρ' R hx e Q q => h F H σ ρ x d ρ' R hx e Q fun σ' B => q σ' F H B.toStep
theorem ev_xnil : EvXs K gNil gmNil := by
  intro F H σ ρ xs ds ρ' R hx e Q q
  cases hx with
  | nil => cases e; exact ⟨rfl, q _ F H (Step.refl R)⟩
  | cons a b => cases e
theorem ev_xcons {t : TG} {u : TGs} {f : GM} {g : List DL.D → En → Option En} (h1 : EvX K t f) (h2 : EvXs K u g) : EvXs K (gCons t u) (gmCons f g) := by
  intro F H σ ρ xs ds ρ' R hx e Q q
  cases hx with
  | nil => cases e
  | cons a b =>
    obtain ⟨ρ1, e1, e⟩ := bind_some e
    refine ⟨_, _, rfl, h1 F H σ ρ _ _ ρ1 R a e1 _ fun σ1 F1 H1 A => h2 F1 H1 σ1 ρ1 _ _ ρ' A.rp (b.up A.sub) e Q fun σ2 F2 H2 B => q σ2 F2 H2 (A.trans B)⟩
theorem ev_xtup {t : TGs} {f : List DL.D → En → Option En} {n : Nat} (h : EvXs K t f) : EvX K (gTup K n t) (gmTup f n) := by
  intro F H σ ρ x d ρ' R hx e Q q
  cases hx with
  | tup h1 h2 =>
    simp only [gmTup] at e
    split at e
    · rename_i hn
      exact ⟨_, _, rfl, R.sub.sqT h1, by rw [h2.length]; exact hn, h F H σ ρ _ _ ρ' R h2 e Q q⟩
    · cases e
  | _ => cases e
theorem ev_xsub {i : Nat} {tk : TE} {fk : EM} (hk : EvE K tk fk) : EvX K (gSub (tVar i) tk rSetL) (gmSub i fk) := by
  intro F H σ ρ x d ρ' R hx e Q q
  obtain ⟨ds0, e0, e⟩ := bind_some e
  obtain ⟨⟨rk, ρ1⟩, e1, e⟩ := bind_some e
  obtain ⟨k, e2, e⟩ := bind_some e
  obtain ⟨ds, e3, e⟩ := bind_some e
  obtain ⟨_, p, vs, s0, f0, h0, _⟩ := lstS_ok R e0
  refine ⟨_, s0, hk F H σ ρ rk ρ1 R e1 _ fun v F1 H1 A hv => ?_⟩
  cases k with
  | int k => ?_
  | _ => cases e
  obtain ⟨j, e4, e⟩ := bind_some e
  cases e
  have hx' : Rep K F1 v (.int k) := rd_ok A.rp hv e2
  cases hx'
  obtain ⟨ow, p', vs', s1, f1, h1, r1⟩ := lstS_ok A.rp e3
  rw [s0] at s1; cases s1
  refine ⟨p, vs', k, j, rfl, rfl, h1, by rw [r1.length]; exact e4, ?_⟩
  exact q σ F1 _ (A.toStep.trans (EStep.put (hh := .lst vs') (h2 := .lst (vs'.set j x)) (o2 := .lst (ds.set j d)) A.rp s0 ow (RepAll.set (Rep.up hx A.sub) j r1)).toStep)
end
/-- an assignment to any target -/
def sAsgX (fe : EM) (g : GM) : SM := fun ρ => (fe ρ).bind fun p => (fz p.2 p.1).bind fun q => (g q.1 q.2).bind fun ρ' => some (.nx ρ')
theorem ev_sasgx {K : PySem.W.Frag} {te : TE} {fe : EM} {g : TG} {f : GM} (he : EvE K te fe) (hg : EvX K g f) : EvS K (tAsg te g) (sAsgX fe f) := by
  intro F H σ ρ o R e D q
  obtain ⟨⟨r, ρ1⟩, e1, e⟩ := bind_some e
  obtain ⟨⟨d, ρ2⟩, e2, e⟩ := bind_some e
  obtain ⟨ρ3, e3, e⟩ := bind_some e
  cases e
  refine he F H σ ρ r ρ1 R e1 _ fun v F1 H1 A hv => ?_
  obtain ⟨F2, s2, A2, rv⟩ := fz_ok R A hv e2
  exact hg F2 H1 σ ρ2 v d ρ3 A2.rp rv e3 _ fun σ' F' H' B => q _ F' H' (A2.toStep.trans B)

/-- a, b = e1, e2 at two names -/
def sPar (i j : Nat) (fa : AM) : SM := fun ρ => (fa ρ).bind fun p => match p.1 with
  | [.d d, .d e] => if isRefB p.2[i]? || isRefB p.2[j]? then none else some (.nx ((p.2.set i (some (.val d))).set j (some (.val e))))
  | _ => none
theorem ev_spar {K : PySem.W.Frag} {i j : Nat} (hij : i ≠ j) {ta : TA} {fa : AM} (ha : EvA K ta fa) : EvS K (tPar i j ta) (sPar i j fa) := by
  intro F H σ ρ o R e D q
  obtain ⟨⟨as, ρ1⟩, e1, e⟩ := bind_some e
  split at e
  case h_2 => cases e
  rename_i d e' has
  split at e
  · cases e
  rename_i hr
  cases e
  simp only [Bool.or_eq_true, not_or, Bool.not_eq_true] at hr
  refine ha F H σ ρ as ρ1 R e1 _ fun vs F1 H1 A hvs => ?_
  have has : as = [.d d, .d e'] := has
  subst has
  cases hvs with
  | cons r1 t1 =>
    cases t1 with
    | cons r2 t2 =>
      cases t2
      refine ⟨_, _, rfl, ?_⟩
      have S1 := (Step.setVal A.rp (isRefB_false hr.1) r1).toStep
      have nr : ¬ isRef (ρ1.set i (some (.val d)))[j]? := by
        rw [List.getElem?_set, if_neg hij]; exact isRefB_false hr.2
      have S2 := (Step.setVal S1.rp nr r2).toStep
      exact q _ F1 H1 ((A.toStep.trans S1).trans S2)
/-- x op= e at a name, of data -/
def sAug (i : Nat) (g : DL.D → DL.D → Option RV) (fe : EM) : SM := fun ρ => (rdS ρ i).bind fun _ => (fe ρ).bind fun p => (rdS p.2 i).bind fun d => (rd p.2 p.1).bind fun e => (g d e).bind fun z => (asg i z p.2).bind fun ρ' => some (.nx ρ')
theorem ev_saug {K : PySem.W.Frag} {i : Nat} {te : TE} {fe : EM} {g : DL.D → DL.D → Option RV} {r : TIp} (he : EvE K te fe) (ho : Op2 K r g) : EvS K (tAug i te r) (sAug i g fe) := by
  intro F H σ ρ o R e D q
  obtain ⟨d0, e0, e⟩ := bind_some e
  obtain ⟨⟨ra, ρ1⟩, e1, e⟩ := bind_some e
  obtain ⟨d, e2, e⟩ := bind_some e
  obtain ⟨x, e3, e⟩ := bind_some e
  obtain ⟨z, e4, e⟩ := bind_some e
  obtain ⟨ρ2, e5, e⟩ := bind_some e
  cases e
  have slot : ∃ v, σ[i]? = some (some v) := by
    unfold rdS at e0
    split at e0
    · rename_i c h
      obtain ⟨v, h1, _⟩ := R.cell i c h
      exact ⟨v, h1⟩
    · cases e0
  obtain ⟨v, hs⟩ := slot
  refine ⟨v, hs, he F H σ ρ ra ρ1 R e1 _ fun u F1 H1 A hu => ?_⟩
  have hv : RVR K F1 H1 H σ v (.slot i) := hs
  refine ho F1 H1 v u d x z A.rp.sub (rd_ok A.rp hv e2) (rd_ok A.rp hu e3) e4 _ fun w F2 H2 gr hz => ?_
  have A2 := BStep.trans A (gr.estep A.rp)
  obtain ⟨F3, S⟩ := asg_ok R A2 (hz.rvr A.dom) e5
  exact q _ F3 H2 S

/-! ### what is walked -/
def itemsD : DL.D → Option (List DL.D)
  | .list ds => some ds
  | .tuple ds => some ds
  | _ => none
/-- a list or a tuple (frozen) -/
def srcList (fe : EM) : IM := fun ρ => (fe ρ).bind fun p => (fz p.2 p.1).bind fun q => match q.1 with
  | .list ds => some (ds, q.2)
  | _ => none
def srcScr (fe : EM) : IM := fun ρ => (fe ρ).bind fun p => (fz p.2 p.1).bind fun q => match q.1 with
  | .dict kvs => some (kvs.map (·.1), q.2)
  | _ => none
def srcAny (fe : EM) : IM := fun ρ => (fe ρ).bind fun p => (fz p.2 p.1).bind fun q => match q.1 with
  | .list ds => some (ds, q.2)
  | .tuple ds => some (ds, q.2)
  | .dict kvs => some (kvs.map (·.1), q.2)
  | _ => none
def srcTup (fe : EM) : IM := fun ρ => (fe ρ).bind fun p => (fz p.2 p.1).bind fun q => match q.1 with
  | .tuple ds => some (ds, q.2)
  | _ => none
def upto (lo : Int) (n : Nat) : List DL.D := (List.range n).map fun (i : Nat) => PyData.int (lo + (i : Int))
def stepto (lo c : Int) (n : Nat) : List DL.D := (List.range n).map fun (i : Nat) => PyData.int (lo + (i : Int) * c)
def srcRng1 (fa : AM) : IM := fun ρ => (fa ρ).bind fun p => match p.1 with
  | [.d (.int j)] => if -(2 ^ 62) ≤ j ∧ j < 2 ^ 62 then some (upto 0 j.toNat, p.2) else none
  | _ => none
def srcRng2 (fa : AM) : IM := fun ρ => (fa ρ).bind fun p => match p.1 with
  | [.d (.int i), .d (.int j)] => if -(2 ^ 62) ≤ i ∧ i < 2 ^ 62 ∧ -(2 ^ 62) ≤ j ∧ j < 2 ^ 62 then some (upto i (j - i).toNat, p.2) else none
  | _ => none
/-- range(i, j, -1) and other steps -/
def srcRng3 (fa : AM) : IM := fun ρ => (fa ρ).bind fun p => match p.1 with
  | [.d (.int i), .d (.int j), .d (.int c)] => if c ≠ 0 ∧ c.natAbs < 1073741824 ∧ Builtin.Range.small i j c = true ∧ 0 ≤ Builtin.Range.rangeSize i j c then some (stepto i c (Builtin.Range.rangeSize i j c).toNat, p.2) else none
  | _ => none
def srcRev (fa : AM) : IM := fun ρ => (fa ρ).bind fun p => match p.1 with
  | [.d (.list ds)] => some (ds.reverse, p.2)
  | _ => none
/-- enumerate(list) -/
def srcEnum (fa : AM) : IM := fun ρ => (fa ρ).bind fun p => match p.1 with
  | [.d (.list ds)] => some (ds.zipIdx.map fun q => PyData.tuple [.int (q.2 : Nat), q.1], p.2)
  | _ => none
def srcZip (fa : AM) : IM := fun ρ => (fa ρ).bind fun p => match p.1 with
  | [.d (.list xs), .d (.list ys)] => some ((xs.zip ys).map fun q => PyData.tuple [q.1, q.2], p.2)
  | _ => none
section
variable {K : PySem.W.Frag} {te : TE} {fe : EM} {ta : TA} {fa : AM}
theorem ev_srcList (he : EvE K te fe) : EvI K (iList K te) (srcList fe) := by
  intro F H σ ρ ds ρ' R e Q q
  obtain ⟨⟨r, ρ1⟩, e1, e⟩ := bind_some e
  obtain ⟨⟨d, ρ2⟩, e2, e⟩ := bind_some e
  refine he F H σ ρ r ρ1 R e1 _ fun v F1 H1 A hv => ?_
  obtain ⟨F2, s2, A2, rv⟩ := fz_ok R A hv e2
  cases rv with
  | @lst a xs ds h1 h2 =>
    cases e
    refine ⟨a, rfl, ⟨xs, SqL.of (A2.rp.sub _ _ h1)⟩, q _ F2 H1 A2 ?_⟩
    have at' : ∀ F3 H3 : Hp, Sub F2 F3 → Sub F3 H3 → SqL K H3 a xs := fun F3 H3 s t => SqL.of (t _ _ (s _ _ h1))
    refine ⟨fun F3 H3 i s t hl => ⟨xs, at' F3 H3 s t, by rw [h2.length]; exact hl⟩, fun F3 H3 i d s t hd => ?_, fun F3 H3 i d s t hd x H4 hy => ?_⟩
    · obtain ⟨v, e3, _⟩ := h2.get hd
      exact ⟨xs, v, at' F3 H3 s t, e3⟩
    · obtain ⟨e4, hy⟩ := hy
      subst e4
      obtain ⟨v, e3, rv⟩ := h2.get hd
      have := hy xs (at' F3 _ s t)
      rw [e3] at this; cases this
      exact ⟨F3, Grow.refl t, rv.up s⟩
  | _ => cases e
theorem ev_srcScr (he : EvE K te fe) : EvI K (iList K te) (srcScr fe) := by
  intro F H σ ρ ds ρ' R e Q q
  obtain ⟨⟨r, ρ1⟩, e1, e⟩ := bind_some e
  obtain ⟨⟨d, ρ2⟩, e2, e⟩ := bind_some e
  refine he F H σ ρ r ρ1 R e1 _ fun v F1 H1 A hv => ?_
  obtain ⟨F2, s2, A2, rv⟩ := fz_ok R A hv e2
  cases rv with
  | @scr a ns h1 =>
    cases e
    refine ⟨a, rfl, ⟨ns.map V.int, A2.rp.sub.sqL h1⟩, q _ F2 H1 A2 ?_⟩
    have at' : ∀ F3 H3 : Hp, Sub F2 F3 → Sub F3 H3 → SqL K H3 a (ns.map V.int) := fun F3 H3 s t => t.sqL (s.sqL h1)
    have lg : ∀ (i : Nat) d, ((ns.map fun n => ((PyData.int n, PyData.none) : DL.D × DL.D)).map (·.1))[i]? = some d → ∃ n, (ns.map V.int)[i]? = some (.int n) ∧ d = .int n := fun i d h => by
      rw [List.map_map, List.getElem?_map] at h
      rw [List.getElem?_map]
      cases z : ns[i]? with
      | none => rw [z] at h; cases h
      | some n => rw [z] at h; cases h; exact ⟨n, rfl, rfl⟩
    refine ⟨fun F3 H3 i s t hl => ⟨_, at' F3 H3 s t, by simpa using hl⟩, fun F3 H3 i d s t hd => ?_, fun F3 H3 i d s t hd x H4 hy => ?_⟩
    · obtain ⟨n, e3, _⟩ := lg i d hd
      exact ⟨_, _, at' F3 H3 s t, e3⟩
    · obtain ⟨e4, hy⟩ := hy
      subst e4
      obtain ⟨n, e3, rfl⟩ := lg i d hd
      have := hy _ (at' F3 _ s t)
      rw [e3] at this; cases this
      exact ⟨F3, Grow.refl t, .int n⟩
  | _ => cases e
theorem ev_srcTup (he : EvE K te fe) : EvI K (iTup K te) (srcTup fe) := by
  intro F H σ ρ ds ρ' R e Q q
  obtain ⟨⟨r, ρ1⟩, e1, e⟩ := bind_some e
  obtain ⟨⟨d, ρ2⟩, e2, e⟩ := bind_some e
  refine he F H σ ρ r ρ1 R e1 _ fun v F1 H1 A hv => ?_
  obtain ⟨F2, s2, A2, rv⟩ := fz_ok R A hv e2
  cases rv with
  | @tup a xs ds h1 h2 =>
    cases e
    refine ⟨a, rfl, ⟨xs, A2.rp.sub.sqT h1⟩, q _ F2 H1 A2 ?_⟩
    have at' : ∀ F3 H3 : Hp, Sub F2 F3 → Sub F3 H3 → SqT K H3 a xs := fun F3 H3 s t => t.sqT (s.sqT h1)
    refine ⟨fun F3 H3 i s t hl => ⟨xs, at' F3 H3 s t, by rw [h2.length]; exact hl⟩, fun F3 H3 i d s t hd => ?_, fun F3 H3 i d s t hd x H4 hy => ?_⟩
    · obtain ⟨v, e3, _⟩ := h2.get hd
      exact ⟨xs, v, at' F3 H3 s t, e3⟩
    · obtain ⟨e4, hy⟩ := hy
      subst e4
      obtain ⟨v, e3, rv⟩ := h2.get hd
      have := hy xs (at' F3 _ s t)
      rw [e3] at this; cases this
      exact ⟨F3, Grow.refl t, rv.up s⟩
  | _ => cases e
theorem ev_srcAny (he : EvE K te fe) : EvI K (fun σ H R => iList K te σ H R ∨ iTup K te σ H R) (srcAny fe) := by
  intro F H σ ρ ds ρ' R e Q q
  obtain ⟨⟨r, ρ1⟩, e1, e⟩ := bind_some e
  obtain ⟨⟨d, ρ2⟩, e2, e⟩ := bind_some e
  cases d with
  | list xs =>
    refine .inl (ev_srcList he F H σ ρ ds ρ' R ?_ Q q)
    unfold srcList
    rw [e1]
    show (fz ρ1 r).bind _ = _
    rw [e2]
    exact e
  | tuple xs =>
    refine .inr (ev_srcTup he F H σ ρ ds ρ' R ?_ Q q)
    unfold srcTup
    rw [e1]
    show (fz ρ1 r).bind _ = _
    rw [e2]
    exact e
  | dict kvs =>
    refine .inl (ev_srcScr he F H σ ρ ds ρ' R ?_ Q q)
    unfold srcScr
    rw [e1]
    show (fz ρ1 r).bind _ = _
    rw [e2]
    exact e
  | _ => cases e
theorem runs_rng {F : Hp} {lo : Int} {n : Nat} : Runs K F (Itr lo n) (upto lo n) := by
  have hl : (upto lo n).length = n := by unfold upto; rw [List.length_map, List.length_range]
  have hg : ∀ (i : Nat) d, (upto lo n)[i]? = some d → i < n ∧ d = .int (lo + i) := fun i d h => by
    unfold upto at h
    rw [List.getElem?_map] at h
    by_cases hi : i < n
    · rw [List.getElem?_range hi] at h
      exact ⟨hi, (Option.some.inj h).symm⟩
    · rw [List.getElem?_eq_none (by rw [List.length_range]; omega)] at h
      cases h
  refine ⟨fun F3 H3 i s t h => by rw [hl] at h; exact h, fun F3 H3 i d s t hd => (hg i d hd).1, fun F3 H3 i d s t hd x H4 hy => ?_⟩
  obtain ⟨e, rfl⟩ := hy
  subst e
  rw [(hg i d hd).2]
  exact ⟨F3, Grow.refl t, .int _⟩
theorem runs_rngc {F : Hp} {lo c : Int} {n : Nat} : Runs K F (Itc lo c n) (stepto lo c n) := by
  have hl : (stepto lo c n).length = n := by unfold stepto; rw [List.length_map, List.length_range]
  have hg : ∀ (i : Nat) d, (stepto lo c n)[i]? = some d → i < n ∧ d = .int (lo + i * c) := fun i d h => by
    unfold stepto at h
    rw [List.getElem?_map] at h
    by_cases hi : i < n
    · rw [List.getElem?_range hi] at h
      exact ⟨hi, (Option.some.inj h).symm⟩
    · rw [List.getElem?_eq_none (by rw [List.length_range]; omega)] at h
      cases h
  refine ⟨fun F3 H3 i s t h => by rw [hl] at h; exact h, fun F3 H3 i d s t hd => (hg i d hd).1, fun F3 H3 i d s t hd x H4 hy => ?_⟩
  obtain ⟨e, rfl⟩ := hy
  subst e
  rw [(hg i d hd).2]
  exact ⟨F3, Grow.refl t, .int _⟩
theorem ev_srcRng1 (ha : EvA K ta fa) : EvI K (iRng1 ta) (srcRng1 fa) := by
  intro F H σ ρ ds ρ' R e Q q
  obtain ⟨⟨as, ρ1⟩, e1, e⟩ := bind_some e
  split at e
  case h_2 => cases e
  rename_i j has
  have has : as = [.d (.int j)] := has
  subst has
  split at e
  case isFalse => cases e
  rename_i hb
  cases e
  refine ha F H σ ρ _ _ R e1 _ fun vs F1 H1 A hvs => ?_
  cases hvs with
  | cons r1 t1 =>
    cases t1
    cases (r1 : Rep K F1 _ (.int j))
    exact ⟨j, rfl, hb.1, hb.2, q _ F1 H1 A runs_rng⟩
theorem ev_srcRng2 (ha : EvA K ta fa) : EvI K (iRng2 ta) (srcRng2 fa) := by
  intro F H σ ρ ds ρ' R e Q q
  obtain ⟨⟨as, ρ1⟩, e1, e⟩ := bind_some e
  split at e
  case h_2 => cases e
  rename_i i j has
  have has : as = [.d (.int i), .d (.int j)] := has
  subst has
  split at e
  case isFalse => cases e
  rename_i hb
  cases e
  refine ha F H σ ρ _ _ R e1 _ fun vs F1 H1 A hvs => ?_
  cases hvs with
  | cons r1 t1 =>
    cases t1 with
    | cons r2 t2 =>
      cases t2
      cases (r1 : Rep K F1 _ (.int i))
      cases (r2 : Rep K F1 _ (.int j))
      exact ⟨i, j, rfl, hb, q _ F1 H1 A runs_rng⟩
theorem ev_srcRng3 (ha : EvA K ta fa) : EvI K (iRng3 ta) (srcRng3 fa) := by
  intro F H σ ρ ds ρ' R e Q q
  obtain ⟨⟨as, ρ1⟩, e1, e⟩ := bind_some e
  split at e
  case h_2 => cases e
  rename_i i j c has
  have has : as = [.d (.int i), .d (.int j), .d (.int c)] := has
  subst has
  split at e
  case isFalse => cases e
  rename_i hb
  cases e
  refine ha F H σ ρ _ _ R e1 _ fun vs F1 H1 A hvs => ?_
  cases hvs with
  | cons r1 t1 =>
    cases t1 with
    | cons r2 t2 =>
      cases t2 with
      | cons r3 t3 =>
        cases t3
        cases (r1 : Rep K F1 _ (.int i))
        cases (r2 : Rep K F1 _ (.int j))
        cases (r3 : Rep K F1 _ (.int c))
        exact ⟨i, j, c, _, rfl, ⟨hb.1, hb.2.1, hb.2.2.1, (Int.toNat_of_nonneg hb.2.2.2).symm⟩, q _ F1 H1 A runs_rngc⟩
theorem ev_srcRev (ha : EvA K ta fa) : EvI K (iRev K ta) (srcRev fa) := by
  intro F H σ ρ ds ρ' R e Q q
  obtain ⟨⟨as, ρ1⟩, e1, e⟩ := bind_some e
  split at e
  case h_2 => cases e
  rename_i ds has
  have has : as = [.d (.list ds)] := has
  subst has
  cases e
  refine ha F H σ ρ _ _ R e1 _ fun vs F1 H1 A hvs => ?_
  cases hvs with
  | cons r1 t1 =>
    cases t1
    cases (r1 : Rep K F1 _ (.list ds)) with
    | @lst a xs _ h1 h2 =>
      have at' : ∀ F3 H3 : Hp, Sub F1 F3 → Sub F3 H3 → SqL K H3 a xs := fun F3 H3 s t => SqL.of (t _ _ (s _ _ h1))
      refine ⟨a, xs, rfl, at' F1 H1 (Sub.refl _) A.rp.sub, q _ F1 H1 A ?_⟩
      have rg : ∀ (i : Nat) d, ds.reverse[i]? = some d → i < xs.length ∧ ds[xs.length - 1 - i]? = some d := fun i d h => by
        have hi : i < ds.length := by
          have := (List.getElem?_eq_some_iff.mp h).1
          rwa [List.length_reverse] at this
        rw [List.getElem?_reverse hi] at h
        rw [h2.length]
        exact ⟨hi, h⟩
      refine ⟨fun F3 H3 i s t hl => by rw [List.length_reverse] at hl; show xs.length ≤ i; rw [h2.length]; exact hl, fun F3 H3 i d s t hd => ?_, fun F3 H3 i d s t hd x H4 hy => ?_⟩
      · obtain ⟨hi, hd⟩ := rg i d hd
        obtain ⟨v, e3, _⟩ := h2.get hd
        exact ⟨hi, xs, v, at' F3 H3 s t, e3⟩
      · obtain ⟨hi, hd⟩ := rg i d hd
        obtain ⟨e4, hy⟩ := hy
        subst e4
        obtain ⟨v, e3, rv⟩ := h2.get hd
        have := hy xs (at' F3 _ s t)
        rw [e3] at this; cases this
        exact ⟨F3, Grow.refl t, rv.up s⟩
end
end DL

namespace DL
open PySem PySem.Spec PyProof.Rows L2

/-! ### operators -/
def addD : DL.D → DL.D → Option RV
  | .int i, .int j => some (.val (.int (i + j)))
  | .str x, .str y => if x.length + y.length ≤ sizeLine then some (.val (.str (x ++ y))) else none
  | .tuple xs, .tuple ys => if xs.length + ys.length ≤ sizeLine then some (.val (.tuple (xs ++ ys))) else none
  | .list xs, .list ys => if xs.length + ys.length ≤ sizeLine then some (.own (.lst (xs ++ ys))) else none
  | _, _ => none
def intOp (C : Int → Int → Bool) (g : Int → Int → Int) : DL.D → DL.D → Option RV
  | .int i, .int j => if C i j = true then some (.val (.int (g i j))) else none
  | _, _ => none
def intCmp (p : Int → Int → Bool) : DL.D → DL.D → Option RV
  | .int i, .int j => some (.val (.bool (p i j)))
  | _, _ => none
def allB : Int → Int → Bool := fun _ _ => true
def subD := intOp allB fun i j => i - j
def mulB (i j : Int) : Bool := decide ((-(2 ^ 64) < i ∧ i < 2 ^ 64) ∨ (-(2 ^ 64) < j ∧ j < 2 ^ 64))
def mulI := intOp mulB fun i j => i * j
def fdivB (_ j : Int) : Bool := decide (0 < j ∧ j.natAbs.log2 < 9000)
def fdivD := intOp fdivB fun i j => i / j
def modB (_ j : Int) : Bool := decide (0 < j)
def modD := intOp modB fun i j => i % j
def shlB (i j : Int) : Bool := decide (0 ≤ j ∧ j ≤ 1000000 ∧ i.natAbs < 2 ^ 64)
def shlD := intOp shlB fun i j => i * 2 ^ j.toNat
def shrB (_ j : Int) : Bool := decide (0 ≤ j)
def shrD := intOp shrB fun i j => i / 2 ^ j.toNat
def andD := intOp allB fun i j => Builtin.bitAnd i j
def orD := intOp allB fun i j => Builtin.bitOr i j
def xorD := intOp allB fun i j => Builtin.bitXor i j
def negD : DL.D → Option RV
  | .int i => some (.val (.int (-i)))
  | _ => none
def ltD := intCmp fun i j => decide (i < j)
def leD := intCmp fun i j => decide (i ≤ j)
def gtD := intCmp fun i j => decide (j < i)
def geD := intCmp fun i j => decide (j ≤ i)
def eqD (d e : DL.D) : Option RV := if SeqAt.shaped d = true ∧ SeqAt.shaped e = true then some (.val (.bool (PyData.eqv d e))) else none
def neD (d e : DL.D) : Option RV := if SeqAt.shaped d = true ∧ SeqAt.shaped e = true then some (.val (.bool (!PyData.eqv d e))) else none
def isNoneD : DL.D → Bool
  | .none => true
  | _ => false
/-- is: None, or two bools -/
def isD (d e : DL.D) : Option RV := match e with
  | .none => some (.val (.bool (isNoneD d)))
  | .bool b => match d with
    | .bool a => some (.val (.bool (decide (a = b))))
    | _ => none
  | _ => none
def isntD (d e : DL.D) : Option RV := match e with
  | .none => some (.val (.bool (!isNoneD d)))
  | .bool b => match d with
    | .bool a => some (.val (.bool (!decide (a = b))))
    | _ => none
  | _ => none
def flatD : DL.D → Bool
  | .none => true
  | .bool _ => true
  | .int _ => true
  | .str _ => true
  | _ => false
def inD (d e : DL.D) : Option RV := match itemsD e with
  | some ds => if flatD d = true ∧ ds.all flatD = true then some (.val (.bool (ds.any fun y => PyData.eqv y d))) else none
  | none => none
def notInD (d e : DL.D) : Option RV := match itemsD e with
  | some ds => if flatD d = true ∧ ds.all flatD = true then some (.val (.bool (!ds.any fun y => PyData.eqv y d))) else none
  | none => none

section
variable {K : PySem.W.Frag}
theorem op2_int {C : Int → Int → Prop} {B : Int → Int → Bool} {g : Int → Int → Int} (h : ∀ i j, B i j = true → C i j) : Op2 K (rI C fun i j => .int (g i j)) (intOp B g) := by
  intro F H x y d e z s hx hy hz Q q
  cases d <;> cases e <;> first | (cases hz; done) | skip
  rename_i i j
  have hz : (if B i j = true then some (RV.val (.int (g i j))) else none) = some z := hz
  split at hz
  · rename_i hb
    cases hz; cases hx; cases hy
    exact ⟨i, j, rfl, rfl, h i j hb, q _ F H (Grow.refl s) (.int _)⟩
  · cases hz
theorem op2_int0 {g : Int → Int → Int} : Op2 K (rI0 fun i j => .int (g i j)) (intOp allB g) := by
  intro F H x y d e z s hx hy hz Q q
  cases d <;> cases e <;> first | (cases hz; done) | skip
  rename_i i j
  cases hz; cases hx; cases hy
  exact ⟨i, j, rfl, rfl, q _ F H (Grow.refl s) (.int _)⟩
theorem op2_cmp {p : Int → Int → Bool} : Op2 K (rI0 fun i j => .bl (p i j)) (intCmp p) := by
  intro F H x y d e z s hx hy hz Q q
  cases d <;> cases e <;> first | (cases hz; done) | skip
  rename_i i j
  cases hz; cases hx; cases hy
  exact ⟨i, j, rfl, rfl, q _ F H (Grow.refl s) (.bl _)⟩
theorem o_sub : Op2 K (rI0 fun i j => .int (i - j)) subD := op2_int0
theorem o_mul : Op2 K (rI CMul fun i j => .int (i * j)) mulI := op2_int fun i j h => by simpa only [mulB, CMul, decide_eq_true_eq] using h
theorem o_fdiv : Op2 K (rI CDivW fun i j => .int (i / j)) fdivD := op2_int fun i j h => by simpa only [fdivB, CDivW, decide_eq_true_eq] using h
theorem o_mod : Op2 K (rI (fun _ j => 0 < j) fun i j => .int (i % j)) modD := op2_int fun i j h => by simpa only [modB, decide_eq_true_eq] using h
theorem o_shl : Op2 K (rI CPow fun i j => .int (i * 2 ^ j.toNat)) shlD := op2_int fun i j h => by simpa only [shlB, CPow, decide_eq_true_eq] using h
theorem o_shr : Op2 K (rI (fun _ j => 0 ≤ j) fun i j => .int (i / 2 ^ j.toNat)) shrD := op2_int fun i j h => by simpa only [shrB, decide_eq_true_eq] using h
theorem o_and : Op2 K (rI0 fun i j => .int (Builtin.bitAnd i j)) andD := op2_int0
theorem o_or : Op2 K (rI0 fun i j => .int (Builtin.bitOr i j)) orD := op2_int0
theorem o_xor : Op2 K (rI0 fun i j => .int (Builtin.bitXor i j)) xorD := op2_int0
theorem o_lt : Op2 K (rI0 fun i j => .bl (decide (i < j))) ltD := op2_cmp
theorem o_le : Op2 K (rI0 fun i j => .bl (decide (i ≤ j))) leD := op2_cmp
theorem o_gt : Op2 K (rI0 fun i j => .bl (decide (j < i))) gtD := op2_cmp
theorem o_ge : Op2 K (rI0 fun i j => .bl (decide (j ≤ i))) geD := op2_cmp
theorem o_neg : Op1 K (rU fun i => .int (-i)) negD := by
  intro F H x d z s hx hz Q q
  cases d <;> first | (cases hz; done) | skip
  rename_i i
  cases hz; cases hx
  exact ⟨i, rfl, q _ F H (Grow.refl s) (.int _)⟩
def rStrAdd : R2 := fun x y H Q => ∃ i j, x = .str i ∧ y = .str j ∧ i.length + j.length ≤ sizeLine ∧ Q (.str (i ++ j)) H
def rAddAll (K : PySem.W.Frag) : R2 := fun x y H Q => rI0 (fun i j => .int (i + j)) x y H Q ∨ (rStrAdd x y H Q ∨ (rCatA K x y H Q ∨ rCat x y H Q))
theorem op_addAll {X : Cx} : OpR X (binaryOp .Add) (rAddAll X.K) := OpR.or op_add (OpR.or op_add_str (OpR.or op_catA op_cat))
def addAD : DL.D → DL.D → Option RV
  | .int i, .int j => some (.val (.int (i + j)))
  | .str x, .str y => if x.length + y.length ≤ sizeLine then some (.val (.str (x ++ y))) else none
  | _, _ => none
def rAddA : R2 := fun x y H Q => rI0 (fun i j => .int (i + j)) x y H Q ∨ rStrAdd x y H Q
theorem iop_addA {X : Cx} : OpR X (inplaceOp .Add) rAddA := OpR.or iop_add iop_add_str
theorem o_addA : Op2 K rAddA addAD := by
  intro F H x y d e z s hx hy hz Q q
  cases d <;> cases e <;> first | (cases hz; done) | skip
  · rename_i i j
    cases hz; cases hx; cases hy
    exact .inl ⟨i, j, rfl, rfl, q _ F H (Grow.refl s) (.int _)⟩
  · rename_i i j
    have hz : (if i.length + j.length ≤ sizeLine then some (RV.val (.str (i ++ j))) else none) = some z := hz
    split at hz
    · rename_i hl
      cases hz; cases hx; cases hy
      exact .inr ⟨i, j, rfl, rfl, hl, q _ F H (Grow.refl s) (.str _)⟩
    · cases hz
theorem repAll_nil {F : Hp} {vs : List V} {ds : List DL.D} (r : RepAll K F vs ds) : vs = [] ↔ ds = [] := by
  cases r <;> simp
theorem o_add : Op2 K (rAddAll K) addD := by
  intro F H x y d e z s hx hy hz Q q
  cases d <;> cases e <;> first | (cases hz; done) | skip
  · rename_i i j
    cases hz; cases hx; cases hy
    exact .inl ⟨i, j, rfl, rfl, q _ F H (Grow.refl s) (.int _)⟩
  · rename_i i j
    have hz : (if i.length + j.length ≤ sizeLine then some (RV.val (.str (i ++ j))) else none) = some z := hz
    split at hz
    · rename_i hl
      cases hz; cases hx; cases hy
      exact .inr (.inl ⟨i, j, rfl, rfl, hl, q _ F H (Grow.refl s) (.str _)⟩)
    · cases hz
  · rename_i xs ys
    have hz : (if xs.length + ys.length ≤ sizeLine then some (RV.own (.lst (xs ++ ys))) else none) = some z := hz
    split at hz
    · rename_i hl
      cases hz
      obtain ⟨a, vs, rfl, ha, ra⟩ := hx
      obtain ⟨b, ws, rfl, hb, rb⟩ := hy
      exact .inr (.inr (.inr ⟨a, b, vs, ws, rfl, rfl, ha, hb, by rw [ra.length, rb.length]; exact hl, fun p n => q _ F _ (Grow.own s n) ⟨p, .lst (vs ++ ws), rfl, n, s.no n, upd_same, ra.append rb⟩⟩))
    · cases hz
  · rename_i xs ys
    have hz : (if xs.length + ys.length ≤ sizeLine then some (RV.val (.tuple (xs ++ ys))) else none) = some z := hz
    split at hz
    · rename_i hl
      cases hz
      cases hx with
      | @tup a vs _ ha ra =>
        cases hy with
        | @tup b ws _ hb rb =>
          refine .inr (.inr (.inl ⟨a, b, vs, ws, rfl, rfl, s.sqT ha, s.sqT hb, by rw [ra.length, rb.length]; exact hl, fun h0 => ?_, fun _ h0 => ?_, fun _ _ p n => ?_⟩))
          · subst h0
            cases ra
            exact q _ F H (Grow.refl s) (.tup hb rb)
          · subst h0
            cases rb
            rw [List.append_nil] at q
            exact q _ F H (Grow.refl s) (.tup ha ra)
          · exact q _ _ _ (Grow.tup s n) (.tup (SqT.of upd_same) ((ra.append rb).up (Sub.new (s.no n))))
    · cases hz
/-! equality -/
mutual
theorem Rep.dp {F H : Hp} (s : Sub F H) : ∀ (d : DL.D) (v : V), d.canLay0 = true → Rep K F v d → Dp K H v d
  | .none, _, _, .non => .non
  | .bool _, _, _, .bl b => .bl b
  | .int _, _, _, .int i => .int i
  | .str _, _, _, .str x => .str x
  | .list ds, _, c, .lst h r => .lst (SqL.of (s _ _ h)) (RepAll.dp s ds _ (by simpa [PyData.canLay0] using c) r)
  | .tuple ds, _, c, .tup h r => .tup (s.sqT h) (RepAll.dp s ds _ (by simpa [PyData.canLay0] using c) r)
  | .dict _, _, c, _ => nomatch c
theorem RepAll.dp {F H : Hp} (s : Sub F H) : ∀ (ds : List DL.D) (vs : List V), PyData.canLayAll0 ds = true → RepAll K F vs ds → DpAll K H vs ds
  | [], _, _, .nil => .nil
  | d :: ds, _, c, .cons r t => by
    have c' : d.canLay0 = true ∧ PyData.canLayAll0 ds = true := by simpa [PyData.canLayAll0] using c
    exact .cons (Rep.dp s d _ c'.1 r) (RepAll.dp s ds _ c'.2 t)
end
theorem RdR.dp {F H : Hp} (s : Sub F H) {v : V} {d : DL.D} (hs : SeqAt.shaped d = true) (h : RdR K F H v d) : Dp K H v d := by
  have c := SeqAt.canLay_of_shaped hs
  cases d with
  | list ds =>
    obtain ⟨a, vs, rfl, h1, h2⟩ := h
    exact .lst (SqL.of h1) (RepAll.dp s ds vs (by simpa [PyData.canLay0] using c) h2)
  | none => exact Rep.dp s _ _ c h
  | bool b => exact Rep.dp s _ _ c h
  | int i => exact Rep.dp s _ _ c h
  | str x => exact Rep.dp s _ _ c h
  | tuple ds => exact Rep.dp s _ _ c h
  | dict ds => cases c
theorem o_eq : Op2 K (rEqD K) eqD := by
  intro F H x y d e z s hx hy hz Q q
  unfold eqD at hz
  split at hz
  · rename_i hs
    cases hz
    exact ⟨d, e, hx.dp s hs.1, hy.dp s hs.2, hs.1, hs.2, q _ F H (Grow.refl s) (.bl _)⟩
  · cases hz
theorem o_ne : Op2 K (rNeD K) neD := by
  intro F H x y d e z s hx hy hz Q q
  unfold neD at hz
  split at hz
  · rename_i hs
    cases hz
    exact ⟨d, e, hx.dp s hs.1, hy.dp s hs.2, hs.1, hs.2, q _ F H (Grow.refl s) (.bl _)⟩
  · cases hz
def rIsB (neg : Bool) : R2 := fun x y H Q => (y = .non ∧ Q (.bl (if neg then !decide (x = .non) else decide (x = .non))) H) ∨ ∃ a b, x = .bl a ∧ y = .bl b ∧ Q (.bl (if neg then !decide (a = b) else decide (a = b))) H
theorem op_isA {X : Cx} : OpR X (compareOp .Is) (rIsB false) := OpR.or op_isN op_is_bl
theorem op_isntA {X : Cx} : OpR X (compareOp .IsNot) (rIsB true) := OpR.or op_notN op_isnot_bl
theorem none_iff {F H : Hp} {v : V} {d : DL.D} (h : RdR K F H v d) : decide (v = .non) = isNoneD d := by
  cases d with
  | list ds => obtain ⟨a, vs, rfl, _⟩ := h; rfl
  | none => cases h; rfl
  | bool b => cases h; rfl
  | int i => cases h; rfl
  | str x => cases h; rfl
  | tuple ds => cases h; rfl
  | dict ds => cases h; rfl
theorem o_is : Op2 K (rIsB false) isD := by
  intro F H x y d e z s hx hy hz Q q
  cases e <;> first | (cases hz; done) | skip
  · cases hz
    cases hy
    refine .inl ⟨rfl, ?_⟩
    rw [if_neg Bool.false_ne_true, none_iff hx]
    exact q _ F H (Grow.refl s) (.bl _)
  · rename_i b
    cases d <;> first | (cases hz; done) | skip
    rename_i a
    cases hz
    cases hx
    cases hy
    refine .inr ⟨a, b, rfl, rfl, ?_⟩
    rw [if_neg Bool.false_ne_true]
    exact q _ F H (Grow.refl s) (.bl _)
theorem o_isnt : Op2 K (rIsB true) isntD := by
  intro F H x y d e z s hx hy hz Q q
  cases e <;> first | (cases hz; done) | skip
  · cases hz
    cases hy
    refine .inl ⟨rfl, ?_⟩
    rw [if_pos rfl, none_iff hx]
    exact q _ F H (Grow.refl s) (.bl _)
  · rename_i b
    cases d <;> first | (cases hz; done) | skip
    rename_i a
    cases hz
    cases hx
    cases hy
    refine .inr ⟨a, b, rfl, rfl, ?_⟩
    rw [if_pos rfl]
    exact q _ F H (Grow.refl s) (.bl _)
/-! in -/
theorem flatR {F : Hp} {v : V} {d : DL.D} (h : Rep K F v d) (f : flatD d = true) : flatV v = true := by
  cases h <;> first | rfl | cases f
theorem flatAll {F : Hp} : ∀ {vs : List V} {ds : List DL.D}, RepAll K F vs ds → ds.all flatD = true → vs.all flatV = true
  | _, _, .nil, _ => rfl
  | _, _, .cons r t, f => by
    rw [List.all_cons, Bool.and_eq_true] at f
    rw [List.all_cons, flatR r f.1, flatAll t f.2]; rfl
theorem eqV_ok {F : Hp} {v u : V} {d e : DL.D} (h : Rep K F v d) (k : Rep K F u e) (f : flatD d = true) (g : flatD e = true) : eqV v u = PyData.eqv d e := by
  cases h <;> first | (cases f; done) | skip
  all_goals (cases k <;> first | (cases g; done) | skip)
  all_goals first
    | rfl
    | (unfold eqV PyData.eqv; rfl)
    | (simp [eqV, PyData.eqv])
theorem inV_ok {F : Hp} {u : V} {e : DL.D} (k : Rep K F u e) (g : flatD e = true) : ∀ {vs : List V} {ds : List DL.D}, RepAll K F vs ds → ds.all flatD = true → inV u vs = ds.any fun y => PyData.eqv y e
  | _, _, .nil, _ => rfl
  | _, _, .cons r t, f => by
    rw [List.all_cons, Bool.and_eq_true] at f
    unfold inV
    rw [List.any_cons, List.any_cons, eqV_ok r k f.1 g]
    have := inV_ok k g t f.2
    unfold inV at this
    rw [this]
theorem items_sq {F H : Hp} (s : Sub F H) {v : V} {d : DL.D} {ds : List DL.D} (h : RdR K F H v d) (e : itemsD d = some ds) : ∃ p xs, v = .ref p ∧ (SqL K H p xs ∨ SqT K H p xs) ∧ RepAll K F xs ds := by
  cases d <;> first | (cases e; done) | skip
  · cases e
    obtain ⟨a, vs, rfl, h1, h2⟩ := h
    exact ⟨a, vs, rfl, .inl (SqL.of h1), h2⟩
  · cases e
    cases h with
    | tup h1 h2 => exact ⟨_, _, rfl, .inr (s.sqT h1), h2⟩
theorem o_in : Op2 K (rIn K false) inD := by
  intro F H x y d e z s hx hy hz Q q
  unfold inD at hz
  split at hz
  case h_2 => cases hz
  rename_i ds he
  split at hz
  case isFalse => cases hz
  rename_i hf
  cases hz
  obtain ⟨p, xs, rfl, hs, ra⟩ := items_sq s hy he
  have rx : Rep K F x d := by cases d <;> first | exact hx | cases hf.1
  refine ⟨p, xs, rfl, hs, flatR rx hf.1, flatAll ra hf.2, ?_⟩
  rw [if_neg Bool.false_ne_true, inV_ok rx hf.1 ra hf.2]
  exact q _ F H (Grow.refl s) (.bl _)
theorem o_notIn : Op2 K (rIn K true) notInD := by
  intro F H x y d e z s hx hy hz Q q
  unfold notInD at hz
  split at hz
  case h_2 => cases hz
  rename_i ds he
  split at hz
  case isFalse => cases hz
  rename_i hf
  cases hz
  obtain ⟨p, xs, rfl, hs, ra⟩ := items_sq s hy he
  have rx : Rep K F x d := by cases d <;> first | exact hx | cases hf.1
  refine ⟨p, xs, rfl, hs, flatR rx hf.1, flatAll ra hf.2, ?_⟩
  rw [if_pos rfl, inV_ok rx hf.1 ra hf.2]
  exact q _ F H (Grow.refl s) (.bl _)
end

/-! ### subscripts -/
def idxD (d k : DL.D) : Option RV := match k with
  | .int i => match d with
    | .list ds => (atI ds i).bind fun x => some (.val x)
    | .tuple ds => (atI ds i).bind fun x => some (.val x)
    | .str x => if x.length ≤ sizeLine then (atI x.cps.toList i).bind fun c => some (.val (.str ⟨#[c]⟩)) else none
    | _ => none
  | _ => none
theorem atI_rep {K : PySem.W.Frag} {F : Hp} {vs : List V} {ds : List DL.D} {i : Int} {d : DL.D} (r : RepAll K F vs ds) (h : atI ds i = some d) : ∃ v, atI vs i = some v ∧ Rep K F v d := by
  unfold atI at h ⊢
  rw [r.length]
  cases e : ixN ds.length i with
  | none => rw [e] at h; cases h
  | some j =>
    rw [e] at h
    obtain ⟨v, h1, h2⟩ := r.get (i := j) h
    exact ⟨v, h1, h2⟩
theorem o_idx {K : PySem.W.Frag} : Op2 K (rIx K) idxD := by
  intro F H x y d e z s hx hy hz Q q
  cases e <;> first | (cases hz; done) | skip
  rename_i i
  cases hy
  cases d <;> first | (cases hz; done) | skip
  · rename_i w
    have hz : (if w.length ≤ sizeLine then (atI w.cps.toList i).bind fun c => some (RV.val (.str ⟨#[c]⟩)) else none) = some z := hz
    split at hz
    · rename_i hl
      obtain ⟨c, e1, hz⟩ := bind_some hz
      cases hz; cases hx
      exact .inr (.inr ⟨w, i, c, rfl, rfl, hl, e1, q _ F H (Grow.refl s) (.str _)⟩)
    · cases hz
  · obtain ⟨u, e1, hz⟩ := bind_some hz
    cases hz
    obtain ⟨a, vs, rfl, h1, h2⟩ := hx
    obtain ⟨v, e2, r⟩ := atI_rep h2 e1
    exact .inl ⟨a, vs, i, v, rfl, rfl, SqL.of h1, e2, q _ F H (Grow.refl s) r⟩
  · obtain ⟨u, e1, hz⟩ := bind_some hz
    cases hz
    cases hx with
    | @tup a vs _ h1 h2 =>
      obtain ⟨v, e2, r⟩ := atI_rep h2 e1
      exact .inr (.inl ⟨a, vs, i, v, rfl, rfl, s.sqT h1, e2, q _ F H (Grow.refl s) r⟩)
/-- the items of xs[lo:hi] -/
def cutD {α : Type} (xs : List α) (lo hi : Option Int) : List α := (xs.drop (HT.sIx xs.length 0 lo)).take (HT.sIx xs.length xs.length hi - HT.sIx xs.length 0 lo)
def slD (d : DL.D) (lo hi : Option Int) : Option RV := match d with
  | .list ds => some (.own (.lst (cutD ds lo hi)))
  | .tuple ds => some (.val (.tuple (cutD ds lo hi)))
  | .str z => if z.length ≤ sizeLine then some (.val (.str (cutS z lo hi))) else none
  | _ => none
abbrev PM := En → Option (Option Int × En)
def EvO (K : PySem.W.Frag) (to : TO) (f : PM) : Prop := ∀ (F H : Hp) (σ : L2.St) (ρ : En) (o : Option Int) (ρ' : En), Rp K F H σ ρ → f ρ = some (o, ρ') →
  ∀ Q : Option Int → Hp → Prop, (∀ F' H', EStep K σ F H ρ F' H' ρ' → Q o H') → to σ H Q
structure QO (X : Cx) (e : Option Expr) (to : TO) (f : PM) : Prop where
  po : PO X e to
  ev : EvO X.K to f
def pNo : PM := fun ρ => some (none, ρ)
def intD : DL.D → Option Int
  | .int i => some i
  | _ => none
def pSome (fe : EM) : PM := fun ρ => (fe ρ).bind fun p => (rd p.2 p.1).bind fun d => (intD d).bind fun i => some (some i, p.2)
def eSlice (fa : EM) (fl fh : PM) : EM := fun ρ => (fa ρ).bind fun p => (fl p.2).bind fun l => (fh l.2).bind fun h => (rd h.2 p.1).bind fun d => (slD d l.1 h.1).bind fun z => some (z, h.2)
def rSlAll (K : PySem.W.Frag) : V → Option Int → Option Int → Hp → VK → Prop := fun x lo hi H Q => rSlL K x lo hi H Q ∨ (rSlA K x lo hi H Q ∨ rSlS x lo hi H Q)
theorem sl_all {X : Cx} : SlR X (rSlAll X.K) := SlR.or sl_list (SlR.or sl_tupA sl_str)
section
variable {K : PySem.W.Frag} {te : TE} {fe : EM}
theorem ev_pno : EvO K tNoPart pNo := by
  intro F H σ ρ o ρ' R e Q q
  cases e
  exact q F H (BStep.refl R)
theorem ev_psome (he : EvE K te fe) : EvO K (tPart te) (pSome fe) := by
  intro F H σ ρ o ρ' R e Q q
  obtain ⟨⟨r, ρ1⟩, e1, e⟩ := bind_some e
  obtain ⟨d, e2, e⟩ := bind_some e
  obtain ⟨i, e3, e⟩ := bind_some e
  cases e
  refine he F H σ ρ r _ R e1 _ fun v F1 H1 A hv => ?_
  have h := rd_ok A.rp hv e2
  cases d <;> first | (cases e3; done) | skip
  cases e3
  cases h
  exact ⟨_, rfl, q F1 H1 A⟩
theorem RepAll.cut {F : Hp} {vs : List V} {ds : List DL.D} (r : RepAll K F vs ds) (lo hi : Option Int) : RepAll K F (cutV vs lo hi) (cutD ds lo hi) := by
  unfold cutV cutD
  rw [r.length]
  exact (r.drop _).take _
theorem cutD_whole {α : Type} {xs : List α} {lo hi : Option Int} (h : HT.sIx xs.length 0 lo = 0 ∧ HT.sIx xs.length xs.length hi = xs.length) : cutD xs lo hi = xs := by
  unfold cutD
  rw [h.1, h.2]
  simp
theorem ev_slice {tl th : TO} {fl fh : PM} (he : EvE K te fe) (hl : EvO K tl fl) (hh : EvO K th fh) : EvE K (tSl (rSlAll K) te tl th) (eSlice fe fl fh) := by
  intro F H σ ρ r ρ' R e Q q
  obtain ⟨⟨ra, ρ1⟩, e1, e⟩ := bind_some e
  obtain ⟨⟨lo, ρ2⟩, e2, e⟩ := bind_some e
  obtain ⟨⟨hi, ρ3⟩, e3, e⟩ := bind_some e
  obtain ⟨d, e4, e⟩ := bind_some e
  obtain ⟨z, e5, e⟩ := bind_some e
  cases e
  refine he F H σ ρ ra ρ1 R e1 _ fun v F1 H1 A hv => ?_
  refine hl F1 H1 σ ρ1 lo ρ2 A.rp e2 _ fun F2 H2 B => ?_
  refine hh F2 H2 σ ρ2 hi ρ3 B.rp e3 _ fun F3 H3 C => ?_
  have hv3 := RVR.step R A hv (BStep.trans B C)
  have hd := rd_ok C.rp hv3 e4
  have AC := BStep.trans A (BStep.trans B C)
  have fin : ∀ v F' H', Grow F3 H3 F' H' → NewR K F' H' H3 v r → Q v H' := fun v F' H' g hz => q v F' H' (BStep.trans AC (g.estep C.rp)) (hz.rvr AC.dom)
  have s := C.rp.sub
  cases d <;> first | (cases e5; done) | skip
  · rename_i w
    have e5 : (if w.length ≤ sizeLine then some (RV.val (.str (cutS w lo hi))) else none) = some r := e5
    split at e5
    · rename_i hl
      cases e5; cases hd
      exact .inr (.inr ⟨w, rfl, hl, fin _ F3 H3 (Grow.refl s) (.str _)⟩)
    · cases e5
  · cases e5
    obtain ⟨a, vs, rfl, h1, h2⟩ := hd
    exact .inl ⟨a, vs, rfl, SqL.of h1, fun p n => fin _ _ _ (Grow.own s n) ⟨p, .lst (cutV vs lo hi), rfl, n, s.no n, upd_same, h2.cut lo hi⟩⟩
  · cases e5
    cases hd with
    | @tup a vs ds0 h1 h2 =>
      refine .inr (.inl ⟨a, vs, rfl, s.sqT h1, fun hw => ?_, fun _ p n => ?_⟩)
      · refine fin _ F3 H3 (Grow.refl s) ?_
        show Rep K F3 (.ref a) (.tuple (cutD _ lo hi))
        rw [cutD_whole (by rw [← h2.length]; exact hw)]
        exact .tup h1 h2
      · exact fin _ _ _ (Grow.tup s n) (.tup (SqT.of upd_same) ((h2.cut lo hi).up (Sub.new (s.no n))))
end

/-! ### calls of built-ins -/
def lenD : DL.D → Option RV
  | .list ds => some (.val (.int (ds.length : Nat)))
  | .tuple ds => some (.val (.int (ds.length : Nat)))
  | .str x => if x.length ≤ sizeLine then some (.val (.int (x.length : Nat))) else none
  | _ => none
def intsD : List DL.D → Option (List Int)
  | [] => some []
  | .int i :: r => (intsD r).bind fun is => some (i :: is)
  | _ => none
def boolsD : List DL.D → Option (List Bool)
  | [] => some []
  | .bool b :: r => (boolsD r).bind fun is => some (b :: is)
  | _ => none
def sumD : DL.D → Option RV
  | .list ds => (intsD ds).bind fun ns => some (.val (.int ns.sum))
  | _ => none
def maxD : DL.D → Option RV
  | .list ds => (intsD ds).bind fun ns => ns.max?.bind fun m => some (.val (.int m))
  | _ => none
def minD : DL.D → Option RV
  | .list ds => (intsD ds).bind fun ns => ns.min?.bind fun m => some (.val (.int m))
  | _ => none
def max2D : DL.D → DL.D → Option RV
  | .int i, .int j => some (.val (.int (if j > i then j else i)))
  | _, _ => none
def min2D : DL.D → DL.D → Option RV
  | .int i, .int j => some (.val (.int (if j < i then j else i)))
  | _, _ => none
def absD : DL.D → Option RV
  | .int i => some (.val (.int (if i < 0 then -i else i)))
  | _ => none
def intOfD : DL.D → Option RV
  | .int i => some (.val (.int i))
  | .bool b => some (.val (.int (if b then 1 else 0)))
  | _ => none
def listD (d : DL.D) : Option RV := (itemsD d).bind fun ds => some (.own (.lst ds))
def tupleD : DL.D → Option RV
  | .list ds => some (.val (.tuple ds))
  | .tuple ds => some (.val (.tuple ds))
  | _ => none
def allD : DL.D → Option RV
  | .list ds => (boolsD ds).bind fun bs => some (.val (.bool (bs.all id)))
  | _ => none
def anyD : DL.D → Option RV
  | .list ds => (boolsD ds).bind fun bs => some (.val (.bool (bs.any id)))
  | _ => none
def sortI (ns : List Int) : List Int := ns.mergeSort fun a b => decide (a ≤ b)
def sortedD : DL.D → Option RV
  | .list ds => (intsD ds).bind fun ns => some (.own (.lst ((sortI ns).map .int)))
  | _ => none
def tyN : DL.D → Option String
  | .none => some "NoneType"
  | .bool _ => some "bool"
  | .int _ => some "int"
  | .str _ => some "str"
  | .list _ => some "list"
  | .tuple _ => some "tuple"
  | _ => none
def isiD (T : String) (d : DL.D) : Option RV := (tyN d).bind fun a => (kitB a T).bind fun b => some (.val (.bool b))
def eIsi (T : String) (fa : EM) : EM := fun ρ => (fa ρ).bind fun p => (rd p.2 p.1).bind fun d => (isiD T d).bind fun z => some (z, p.2)
section
variable {K : PySem.W.Frag} {ta tb : TE} {fa fb : EM}
theorem ev_cb1 {r : List V → Hp → VK → Prop} {g : DL.D → Option RV} (ha : EvE K ta fa) (ho : Op1 K (fun x H Q => r [x] H Q) g) : EvE K (tCB r (tCons ta tNil)) (eOp1 g fa) := ev_op1 ha ho
theorem ev_cb2 {r : List V → Hp → VK → Prop} {g : DL.D → DL.D → Option RV} (ha : EvE K ta fa) (hb : EvE K tb fb) (ho : Op2 K (fun x y H Q => r [x, y] H Q) g) : EvE K (tCB r (tCons ta (tCons tb tNil))) (eOp2 g fa fb) := ev_op2 ha hb ho
theorem o_len : Op1 K (fun x H Q => ∃ y n, [x] = [y] ∧ LenV K y H n ∧ Q (.int n) H) lenD := by
  intro F H x d z s hx hz Q q
  cases d <;> first | (cases hz; done) | skip
  · rename_i w
    have hz : (if w.length ≤ sizeLine then some (RV.val (.int (w.length : Nat))) else none) = some z := hz
    split at hz
    · rename_i hl
      cases hz; cases hx
      exact ⟨_, _, rfl, ⟨hl, rfl⟩, q _ F H (Grow.refl s) (.int _)⟩
    · cases hz
  · cases hz
    obtain ⟨a, vs, rfl, h1, h2⟩ := hx
    refine ⟨_, vs.length, rfl, .inl ⟨vs, SqL.of h1, rfl⟩, ?_⟩
    rw [h2.length]
    exact q _ F H (Grow.refl s) (.int _)
  · cases hz
    cases hx with
    | @tup a vs _ h1 h2 =>
      refine ⟨_, vs.length, rfl, .inr ⟨vs, s.sqT h1, rfl⟩, ?_⟩
      rw [h2.length]
      exact q _ F H (Grow.refl s) (.int _)
theorem ints_rep {F : Hp} : ∀ {vs : List V} {ds : List DL.D} {ns : List Int}, RepAll K F vs ds → intsD ds = some ns → vs = ns.map V.int ∧ ds = ns.map PyData.int
  | _, _, _, .nil, e => by cases e; exact ⟨rfl, rfl⟩
  | _, d :: ds, _, .cons r t, e => by
    cases d <;> first | (cases e; done) | skip
    obtain ⟨is, e1, e⟩ := bind_some e
    cases e
    cases r
    obtain ⟨h1, h2⟩ := ints_rep t e1
    exact ⟨by rw [h1]; rfl, by rw [h2]; rfl⟩
theorem bools_rep {F : Hp} : ∀ {vs : List V} {ds : List DL.D} {ns : List Bool}, RepAll K F vs ds → boolsD ds = some ns → vs = ns.map V.bl
  | _, _, _, .nil, e => by cases e; rfl
  | _, d :: ds, _, .cons r t, e => by
    cases d <;> first | (cases e; done) | skip
    obtain ⟨is, e1, e⟩ := bind_some e
    cases e
    cases r
    rw [bools_rep t e1]; rfl
theorem rep_ints {F : Hp} : ∀ ns : List Int, RepAll K F (ns.map V.int) (ns.map PyData.int)
  | [] => .nil
  | n :: ns => .cons (.int n) (rep_ints ns)
theorem o_sum : Op1 K (fun x H Q => rSum K [x] H Q) sumD := by
  intro F H x d z s hx hz Q q
  cases d <;> first | (cases hz; done) | skip
  obtain ⟨ns, e1, hz⟩ := bind_some hz
  cases hz
  obtain ⟨a, vs, rfl, h1, h2⟩ := hx
  obtain ⟨rfl, _⟩ := ints_rep h2 e1
  exact ⟨a, ns, rfl, SqL.of h1, q _ F H (Grow.refl s) (.int _)⟩
theorem o_max : Op1 K (fun x H Q => rMax K [x] H Q) maxD := by
  intro F H x d z s hx hz Q q
  cases d <;> first | (cases hz; done) | skip
  obtain ⟨ns, e1, hz⟩ := bind_some hz
  obtain ⟨m, e2, hz⟩ := bind_some hz
  cases hz
  obtain ⟨a, vs, rfl, h1, h2⟩ := hx
  obtain ⟨rfl, _⟩ := ints_rep h2 e1
  refine ⟨a, ns, rfl, SqL.of h1, ?_, fun m' hm hle => ?_⟩
  · cases ns with
    | nil => cases e2
    | cons n r => simp
  · have := List.max?_eq_some_iff.mp e2
    have e : m' = m := Int.le_antisymm (this.2 m' hm) (hle m this.1)
    rw [e]
    exact q _ F H (Grow.refl s) (.int _)
theorem o_min : Op1 K (fun x H Q => rMin K [x] H Q) minD := by
  intro F H x d z s hx hz Q q
  cases d <;> first | (cases hz; done) | skip
  obtain ⟨ns, e1, hz⟩ := bind_some hz
  obtain ⟨m, e2, hz⟩ := bind_some hz
  cases hz
  obtain ⟨a, vs, rfl, h1, h2⟩ := hx
  obtain ⟨rfl, _⟩ := ints_rep h2 e1
  refine ⟨a, ns, rfl, SqL.of h1, ?_, fun m' hm hle => ?_⟩
  · cases ns with
    | nil => cases e2
    | cons n r => simp
  · have := List.min?_eq_some_iff.mp e2
    have e : m' = m := Int.le_antisymm (hle m this.1) (this.2 m' hm)
    rw [e]
    exact q _ F H (Grow.refl s) (.int _)
theorem o_max2 : Op2 K (fun x y H Q => ∃ i j, [x, y] = [V.int i, V.int j] ∧ Q (.int (if j > i then j else i)) H) max2D := by
  intro F H x y d e z s hx hy hz Q q
  cases d <;> cases e <;> first | (cases hz; done) | skip
  cases hz; cases hx; cases hy
  exact ⟨_, _, rfl, q _ F H (Grow.refl s) (.int _)⟩
theorem o_min2 : Op2 K (fun x y H Q => ∃ i j, [x, y] = [V.int i, V.int j] ∧ Q (.int (if j < i then j else i)) H) min2D := by
  intro F H x y d e z s hx hy hz Q q
  cases d <;> cases e <;> first | (cases hz; done) | skip
  cases hz; cases hx; cases hy
  exact ⟨_, _, rfl, q _ F H (Grow.refl s) (.int _)⟩
theorem o_abs : Op1 K (fun x H Q => ∃ i, [x] = [V.int i] ∧ Q (.int (if i < 0 then -i else i)) H) absD := by
  intro F H x d z s hx hz Q q
  cases d <;> first | (cases hz; done) | skip
  cases hz; cases hx
  exact ⟨_, rfl, q _ F H (Grow.refl s) (.int _)⟩
theorem o_intOf : Op1 K (fun x H Q => (∃ i, [x] = [V.int i] ∧ Q (.int i) H) ∨ ∃ k, [x] = [V.bl k] ∧ Q (.int (if k then 1 else 0)) H) intOfD := by
  intro F H x d z s hx hz Q q
  cases d <;> first | (cases hz; done) | skip
  · cases hz; cases hx
    exact .inr ⟨_, rfl, q _ F H (Grow.refl s) (.int _)⟩
  · cases hz; cases hx
    exact .inl ⟨_, rfl, q _ F H (Grow.refl s) (.int _)⟩
theorem o_list : Op1 K (fun x H Q => ∃ p ys, [x] = [V.ref p] ∧ (SqL K H p ys ∨ SqT K H p ys) ∧ ∀ l, H l = none → Q (.ref l) (upd H l (.lst ys))) listD := by
  intro F H x d z s hx hz Q q
  obtain ⟨ds, e1, hz⟩ := bind_some hz
  cases hz
  obtain ⟨p, xs, rfl, hs, ra⟩ := items_sq s hx e1
  exact ⟨p, xs, rfl, hs, fun l n => q _ _ _ (Grow.own s n) ⟨l, .lst xs, rfl, n, s.no n, upd_same, ra⟩⟩
theorem o_tuple : Op1 K (fun x H Q => ∃ p ys, [x] = [V.ref p] ∧ ((SqL K H p ys ∧ ∀ l, H l = none → Q (.ref l) (upd H l (.tup ys))) ∨ (SqT K H p ys ∧ Q (.ref p) H))) tupleD := by
  intro F H x d z s hx hz Q q
  cases d <;> first | (cases hz; done) | skip
  · cases hz
    obtain ⟨a, vs, rfl, h1, h2⟩ := hx
    exact ⟨a, vs, rfl, .inl ⟨SqL.of h1, fun l n => q _ _ _ (Grow.tup s n) (.tup (SqT.of upd_same) (h2.up (Sub.new (s.no n))))⟩⟩
  · cases hz
    cases hx with
    | @tup a vs _ h1 h2 => exact ⟨a, vs, rfl, .inr ⟨s.sqT h1, q _ F H (Grow.refl s) (.tup h1 h2)⟩⟩
theorem o_all : Op1 K (fun x H Q => rAll K [x] H Q) allD := by
  intro F H x d z s hx hz Q q
  cases d <;> first | (cases hz; done) | skip
  obtain ⟨ns, e1, hz⟩ := bind_some hz
  cases hz
  obtain ⟨a, vs, rfl, h1, h2⟩ := hx
  cases bools_rep h2 e1
  exact ⟨a, ns, rfl, SqL.of h1, q _ F H (Grow.refl s) (.bl _)⟩
theorem o_any : Op1 K (fun x H Q => rAny K [x] H Q) anyD := by
  intro F H x d z s hx hz Q q
  cases d <;> first | (cases hz; done) | skip
  obtain ⟨ns, e1, hz⟩ := bind_some hz
  cases hz
  obtain ⟨a, vs, rfl, h1, h2⟩ := hx
  cases bools_rep h2 e1
  exact ⟨a, ns, rfl, SqL.of h1, q _ F H (Grow.refl s) (.bl _)⟩
theorem sortI_perm (ns : List Int) : (sortI ns).Perm ns := List.mergeSort_perm ..
theorem sortI_pw (ns : List Int) : (sortI ns).Pairwise (· ≤ ·) := by
  have := List.pairwise_mergeSort (le := fun a b : Int => decide (a ≤ b)) (fun a b c h1 h2 => by simp at *; omega) (fun a b => by simp; omega) ns
  exact this.imp fun h => of_decide_eq_true h
theorem sorted_unique : ∀ {xs ys : List Int}, xs.Perm ys → xs.Pairwise (· ≤ ·) → ys.Pairwise (· ≤ ·) → xs = ys
  | [], ys, p, _, _ => by
    have := p.length_eq
    cases ys with
    | nil => rfl
    | cons a r => simp at this
  | x :: xs, [], p, _, _ => by have := p.length_eq; simp at this
  | x :: xs, y :: ys, p, h1, h2 => by
    have a1 := List.pairwise_cons.mp h1
    have a2 := List.pairwise_cons.mp h2
    have hy : y ∈ x :: xs := p.symm.subset List.mem_cons_self
    have hx : x ∈ y :: ys := p.subset List.mem_cons_self
    have e : x = y := by
      rcases List.mem_cons.mp hx with e | e
      · exact e
      · rcases List.mem_cons.mp hy with e' | e'
        · exact e'.symm
        · exact Int.le_antisymm (a1.1 y e') (a2.1 x e)
    subst e
    rw [sorted_unique ((List.perm_cons x).mp p) a1.2 a2.2]
theorem o_sorted : Op1 K (fun x H Q => rSortedI K [x] H Q) sortedD := by
  intro F H x d z s hx hz Q q
  cases d <;> first | (cases hz; done) | skip
  obtain ⟨ns, e1, hz⟩ := bind_some hz
  cases hz
  obtain ⟨a, vs, rfl, h1, h2⟩ := hx
  obtain ⟨rfl, _⟩ := ints_rep h2 e1
  refine ⟨a, ns, rfl, SqL.of h1, fun ns' p hp hs n => ?_⟩
  have e : ns' = sortI ns := sorted_unique (hp.trans (sortI_perm ns).symm) hs (sortI_pw ns)
  rw [e]
  exact q _ F _ (Grow.own s n) ⟨p, .lst ((sortI ns).map V.int), rfl, n, s.no n, upd_same, rep_ints _⟩
theorem ty_ok {F H : Hp} (s : Sub F H) {v : V} {d : DL.D} {a : String} (h : RdR K F H v d) (e : tyN d = some a) : TyX K H v (.type a) := by
  cases d <;> first | (cases e; done) | skip
  · cases e; cases h; exact .base .non
  · cases e; cases h; exact .base (.bl _)
  · cases e; cases h; exact .base (.int _)
  · cases e; cases h; exact .base (.str _)
  · cases e
    obtain ⟨p, vs, rfl, h1, _⟩ := h
    exact .base (.lst h1)
  · cases e
    cases h with
    | tup h1 _ =>
      rcases s.sqT h1 with (h | ⟨o, h⟩) | ⟨o, its, n, h2, h3, _⟩
      · exact .base (.tup h)
      · exact .fTuple h
      · exact .kTuple h2 h3
theorem ev_isi {T : String} (ha : EvE K ta fa) : EvE K (tCB (rIsi K) (tCons ta (tCons (tC (.ty T)) tNil))) (eIsi T fa) := by
  intro F H σ ρ r ρ' R e Q q
  obtain ⟨⟨ra, ρ1⟩, e1, e⟩ := bind_some e
  obtain ⟨d, e2, e⟩ := bind_some e
  obtain ⟨z, e3, e⟩ := bind_some e
  obtain ⟨a, e4, e3⟩ := bind_some e3
  obtain ⟨b, e5, e3⟩ := bind_some e3
  cases e
  cases e3
  refine ha F H σ ρ ra _ R e1 _ fun v F1 H1 A hv => ?_
  have h := rd_ok A.rp hv e2
  exact ⟨v, .ty T, .type a, .type T, b, rfl, .ty T, ty_ok A.rp.sub h e4, kit_ty e5, q _ F1 H1 A (.bl b)⟩
end
end DL

namespace DL
open PySem PySem.Spec PyProof.Rows L2

/-! ### the rules that the printed derivations use -/
section
variable {X : Cx} {e a b c o : Expr} {es : List Expr} {te ta tb tc : TE} {fe fa fb fc : EM} {tA tAr : TA} {fA fAr : AM} {pos p : Pos}
theorem qv (i : Nat) {x : Str} (hN : X.N[i]? = some x := by rfl) (hv : Vis X.env.scope x := by first | exact Or.inl rfl | exact Or.inr (Or.inl rfl) | exact Or.inr (Or.inr rfl)) (hd : (x == ("__debug__" : Str)) = false := by decide)
    (hcd : (x == ("__classdict__" : Str)) = false := by decide) : QE X (.Name x pos) (tVar i) (eName i) := ⟨pe_var hN hv hd hcd, ev_name⟩
theorem qint {i : Int} {j} : QE X (.Constant (.int i) j pos) (tC (.int i)) (eC (.int i)) := ⟨pe_int, ev_c fun _ => .int i⟩
theorem qbl {i : Bool} {j} : QE X (.Constant (.bool i) j pos) (tC (.bl i)) (eC (.bool i)) := ⟨pe_bl, ev_c fun _ => .bl i⟩
theorem qstr {i : Str} {j} : QE X (.Constant (.str i) j pos) (tC (.str i)) (eC (.str i)) := ⟨pe_str, ev_c fun _ => .str i⟩
theorem qnon {j} : QE X (.Constant .none j pos) (tC .non) (eC .none) := ⟨pe_non, ev_c fun _ => .non⟩
theorem qa_nil : QA X [] tNil aNil := ⟨pa_nil, ev_anil⟩
theorem qa_v (h : QE X e te fe) (hr : QA X es tA fA) (hs : starEach (e :: es) X.env = (false, eval e X.env) :: starEach es X.env := by rfl) : QA X (e :: es) (tCons te tA) (aVal fe fA) := ⟨pa_cons h.pe hr.pa hs, ev_aval h.ev hr.ev⟩
theorem qa_r (i : Nat) {x : Str} (hr : QA X es tA fA) (hN : X.N[i]? = some x := by rfl) (hv : Vis X.env.scope x := by first | exact Or.inl rfl | exact Or.inr (Or.inl rfl) | exact Or.inr (Or.inr rfl)) (hd : (x == ("__debug__" : Str)) = false := by decide)
    (hcd : (x == ("__classdict__" : Str)) = false := by decide) (hs : starEach (.Name x p :: es) X.env = (false, eval (.Name x p) X.env) :: starEach es X.env := by rfl) : QA X (.Name x p :: es) (tCons (tVar i) tA) (aRef i fA) := ⟨pa_cons (pe_var hN hv hd hcd) hr.pa hs, ev_aref hr.ev⟩
theorem qa_w (i : Nat) {x : Str} (hr : QA X es tA fA) (hN : X.N[i]? = some x := by rfl) (hv : Vis X.env.scope x := by first | exact Or.inl rfl | exact Or.inr (Or.inl rfl) | exact Or.inr (Or.inr rfl)) (hd : (x == ("__debug__" : Str)) = false := by decide)
    (hcd : (x == ("__classdict__" : Str)) = false := by decide) (hs : starEach (.Name x p :: es) X.env = (false, eval (.Name x p) X.env) :: starEach es X.env := by rfl) : QA X (.Name x p :: es) (tCons (tVar i) tA) (aRaw i fA) := ⟨pa_cons (pe_var hN hv hd hcd) hr.pa hs, ev_araw hr.ev⟩
theorem qtup {x1} (h : QA X es tA fA) : QE X (.Tuple es x1 pos) (tTup tA) (eTup fA) := ⟨pe_tup h.pa, ev_tup h.ev⟩
theorem qlst (h : QA X es tA fA) : QE X (.List es pos) (tLst tA) (eLst fA) := ⟨pe_lst h.pa, ev_lst h.ev⟩
theorem qbin {op : Operator} {r : R2} {g : DL.D → DL.D → Option RV} (ho : OpR X (binaryOp op) r) (hd : Op2 X.K r g) (ha : QE X a ta fa) (hb : QE X b tb fb) : QE X (.BinOp a op b pos) (tOp r ta tb) (eOp2 g fa fb) := ⟨pe_op ho ha.pe hb.pe, ev_op2 ha.ev hb.ev hd⟩
theorem qadd (ha : QE X a ta fa) (hb : QE X b tb fb) : QE X (.BinOp a .Add b pos) (tOp (rAddAll X.K) ta tb) (eOp2 addD fa fb) := qbin op_addAll o_add ha hb
theorem qsub (ha : QE X a ta fa) (hb : QE X b tb fb) : QE X (.BinOp a .Sub b pos) (tOp (rI0 fun i j => .int (i - j)) ta tb) (eOp2 subD fa fb) := qbin op_sub o_sub ha hb
theorem qmul (ha : QE X a ta fa) (hb : QE X b tb fb) : QE X (.BinOp a .Mult b pos) (tOp (rI CMul fun i j => .int (i * j)) ta tb) (eOp2 mulI fa fb) := qbin op_mul o_mul ha hb
theorem qfdiv (ha : QE X a ta fa) (hb : QE X b tb fb) : QE X (.BinOp a .FloorDiv b pos) (tOp (rI CDivW fun i j => .int (i / j)) ta tb) (eOp2 fdivD fa fb) := qbin op_fdivW o_fdiv ha hb
theorem qmod (ha : QE X a ta fa) (hb : QE X b tb fb) : QE X (.BinOp a .Mod b pos) (tOp (rI (fun _ j => 0 < j) fun i j => .int (i % j)) ta tb) (eOp2 modD fa fb) := qbin op_mod o_mod ha hb
theorem qshl (ha : QE X a ta fa) (hb : QE X b tb fb) : QE X (.BinOp a .LShift b pos) (tOp (rI CPow fun i j => .int (i * 2 ^ j.toNat)) ta tb) (eOp2 shlD fa fb) := qbin op_shl o_shl ha hb
theorem qshr (ha : QE X a ta fa) (hb : QE X b tb fb) : QE X (.BinOp a .RShift b pos) (tOp (rI (fun _ j => 0 ≤ j) fun i j => .int (i / 2 ^ j.toNat)) ta tb) (eOp2 shrD fa fb) := qbin op_shr o_shr ha hb
theorem qband (ha : QE X a ta fa) (hb : QE X b tb fb) : QE X (.BinOp a .BitAnd b pos) (tOp (rI0 fun i j => .int (Builtin.bitAnd i j)) ta tb) (eOp2 andD fa fb) := qbin op_and o_and ha hb
theorem qbor (ha : QE X a ta fa) (hb : QE X b tb fb) : QE X (.BinOp a .BitOr b pos) (tOp (rI0 fun i j => .int (Builtin.bitOr i j)) ta tb) (eOp2 orD fa fb) := qbin op_or o_or ha hb
theorem qbxor (ha : QE X a ta fa) (hb : QE X b tb fb) : QE X (.BinOp a .BitXor b pos) (tOp (rI0 fun i j => .int (Builtin.bitXor i j)) ta tb) (eOp2 xorD fa fb) := qbin op_xor o_xor ha hb
theorem qneg (ha : QE X a ta fa) : QE X (.UnaryOp .USub a pos) (tUn (rU fun i => .int (-i)) ta) (eOp1 negD fa) := ⟨pe_un un_neg ha.pe, ev_op1 ha.ev o_neg⟩
theorem qcmp {op : CmpOp} {r : R2} {g : DL.D → DL.D → Option RV} (ho : OpR X (compareOp op) r) (hd : Op2 X.K r g) (hm : behindInMarks op b = false) (ha : QE X a ta fa) (hb : QE X b tb fb) : QE X (.Compare a [op] [b] pos) (tOp r ta tb) (eOp2 g fa fb) := ⟨pe_cmpR ho ha.pe hb.pe hm, ev_op2 ha.ev hb.ev hd⟩
theorem tcmp {op : CmpOp} {r : R2} {g : DL.D → DL.D → Option RV} (ho : OpR X (compareOp op) r) (hd : Op2 X.K r g) (hm : behindInMarks op b = false) (ha : QE X a ta fa) (hb : QE X b tb fb) : QT X (.Compare a [op] [b] pos) (tTest (tOp r ta tb)) (tmB (eOp2 g fa fb)) := ⟨pt_cmpR ho ha.pe hb.pe hm, ev_tb (ev_op2 ha.ev hb.ev hd)⟩
theorem qchain {op op' : CmpOp} {r r' : R2} {g g' : DL.D → DL.D → Option RV} (ho : OpR X (compareOp op) r) (hd : Op2 X.K r g) (ho' : OpR X (compareOp op') r') (hd' : Op2 X.K r' g') (ha : QE X a ta fa) (hb : QE X b tb fb) (hc : QE X c tc fc)
    (hm : lastMarks [op, op'] [b, c] = false := by with_unfolding_all rfl) : QE X (.Compare a [op, op'] [b, c] pos) (tChain r r' ta tb tc) (eChain g g' fa fb fc) := ⟨pe_chain ho ho' ha.pe hb.pe hc.pe hm, ev_chain ha.ev hb.ev hc.ev hd hd'⟩
theorem tchain {op op' : CmpOp} {r r' : R2} {g g' : DL.D → DL.D → Option RV} (ho : OpR X (compareOp op) r) (hd : Op2 X.K r g) (ho' : OpR X (compareOp op') r') (hd' : Op2 X.K r' g') (ha : QE X a ta fa) (hb : QE X b tb fb) (hc : QE X c tc fc)
    (hm : lastMarks [op, op'] [b, c] = false := by with_unfolding_all rfl) : QT X (.Compare a [op, op'] [b, c] pos) (tTest (tChain r r' ta tb tc)) (tmB (eChain g g' fa fb fc)) := ⟨pt_chain ho ho' ha.pe hb.pe hc.pe hm, ev_tb (ev_chain ha.ev hb.ev hc.ev hd hd')⟩
theorem qidx (ha : QE X a ta fa) (hb : QE X b tb fb) (hs : PlainIx b := by intro _ _; rfl) : QE X (.Subscript a b pos) (tOp (rIx X.K) ta tb) (eOp2 idxD fa fb) := ⟨pe_ix ix_seq ha.pe hb.pe hs, ev_op2 ha.ev hb.ev o_idx⟩
theorem qo_no : QO X none tNoPart pNo := ⟨po_none, ev_pno⟩
theorem qo_some (h : QE X e te fe) : QO X (some e) (tPart te) (pSome fe) := ⟨po_some h.pe, ev_psome h.ev⟩
theorem qslice {lo hi : Option Expr} {tl th : TO} {fl fh : PM} {p2 : Pos} (he : QE X e te fe) (hl : QO X lo tl fl) (hu : QO X hi th fh) : QE X (.Subscript e (.Slice lo hi none p2) pos) (tSl (rSlAll X.K) te tl th) (eSlice fe fl fh) := ⟨pe_slice sl_all he.pe hl.po hu.po, ev_slice he.ev hl.ev hu.ev⟩
/-! tests -/
variable {t u : TT} {f g : TM} {rest : List Expr}
theorem tval (h : QE X e te fe) (he : ∀ whole, isTrue e X.env whole = (do let v ← whole; standAt e.pos; holding [v] (truthy v)) := by intro _; rfl) : QT X e (tB te) (tmB fe) := ⟨pt_val h.pe he, ev_tb2 h.ev⟩
theorem ttru (h : QE X e te fe) (he : ∀ whole, isTrue e X.env whole = (do let v ← whole; standAt e.pos; holding [v] (truthy v)) := by intro _; rfl) : QT X e (fun σ H Q => te σ H fun x H1 => ∃ k, TruV X.K x H1 k ∧ Q k H1) (tmTru fe) := ⟨pt_truth h.pe he, ev_tru h.ev⟩
theorem tnot (h : QT X e t f) : QT X (.UnaryOp .Not e pos) (tNot t) (tmNot f) := ⟨pt_not h.pt, ev_not h.ev⟩
theorem wand1 (h : QT X a t f) : QW X (.BoolOp .And [a] pos) t f := ⟨pw_and1 h.pt, h.ev⟩
theorem wor1 (h : QT X a t f) : QW X (.BoolOp .Or [a] pos) t f := ⟨pw_or1 h.pt, h.ev⟩
theorem wand (ha : QT X a t f) (hb : QW X (.BoolOp .And (b :: rest) pos) u g) : QW X (.BoolOp .And (a :: b :: rest) pos) (tAnd t u) (tmAnd f g) := ⟨pw_and ha.pt hb.pw, ev_and ha.ev hb.ev⟩
theorem wor (ha : QT X a t f) (hb : QW X (.BoolOp .Or (b :: rest) pos) u g) : QW X (.BoolOp .Or (a :: b :: rest) pos) (tOr t u) (tmOr f g) := ⟨pw_or ha.pt hb.pw, ev_or ha.ev hb.ev⟩
theorem QW.q (h : QW X e t f) : QT X e t f := ⟨h.pw.pt, h.ev⟩
theorem qone {op} (h : QE X a ta fa) : QE X (.BoolOp op [a] pos) ta fa := ⟨pe_one h.pe, h.ev⟩
theorem qand (ha : QE X a ta fa) (hb : QE X (.BoolOp .And (b :: rest) pos) tb fb) : QE X (.BoolOp .And (a :: b :: rest) pos) (tAndV ta tb) (eAnd fa fb) := ⟨pe_and ha.pe hb.pe, ev_eand ha.ev hb.ev⟩
theorem qor (ha : QE X a ta fa) (hb : QE X (.BoolOp .Or (b :: rest) pos) tb fb) : QE X (.BoolOp .Or (a :: b :: rest) pos) (tOrV ta tb) (eOr fa fb) := ⟨pe_or ha.pe hb.pe, ev_eor ha.ev hb.ev⟩
theorem qnot (h : QE X a ta fa) : QE X (.UnaryOp .Not a pos) (tNotT X.K ta) (eNot fa) := ⟨pe_notT h.pe, ev_enot h.ev⟩
theorem qif (hc : QT X c t f) (ha : QE X a ta fa) (hb : QE X b tb fb) : QE X (.IfExp c a b pos) (tIf t ta tb) (eIf f fa fb) := ⟨pe_ifExp hc.pt ha.pe hb.pe, ev_if hc.ev ha.ev hb.ev⟩
/-! calls -/
theorem qb1 {r : List V → Hp → VK → Prop} {g : DL.D → Option RV} {x : Str} {id : String} (hc : CallR X (.builtin id) r) (hd : Op1 X.K (fun x H Q => r [x] H Q) g) (hv : bootBuiltins x = some (.builtin id)) (hm : X.mg x = none) (ha : QE X a ta fa) (hg : Gl X x := by rfl)
    (hn : x ≠ "__name__" := by decide) (hdb : (x == ("__debug__" : Str)) = false := by decide) (hs : starEach [a] X.env = (false, eval a X.env) :: starEach [] X.env := by rfl) (hpl : (backTo pos (starEach [] X.env)).any (·.1) = false := by rfl) :
    QE X (.Call (.Name x p) [a] [] pos) (tCB r (tCons ta tNil)) (eOp1 g fa) := ⟨pe_callB hc hg hm hv (pa_cons ha.pe pa_nil hs) hn hdb hs hpl, ev_cb1 ha.ev hd⟩
theorem qt1 {r : List V → Hp → VK → Prop} {g : DL.D → Option RV} {x : Str} {T : String} (hc : CallR X (.type T) r) (hd : Op1 X.K (fun x H Q => r [x] H Q) g) (hv : bootBuiltins x = some (.type T)) (hm : X.mg x = none) (ha : QE X a ta fa) (hg : Gl X x := by rfl)
    (hn : x ≠ "__name__" := by decide) (hdb : (x == ("__debug__" : Str)) = false := by decide) (hs : starEach [a] X.env = (false, eval a X.env) :: starEach [] X.env := by rfl) (hpl : (backTo pos (starEach [] X.env)).any (·.1) = false := by rfl) :
    QE X (.Call (.Name x p) [a] [] pos) (tCB r (tCons ta tNil)) (eOp1 g fa) := ⟨pe_callTy hc hg hm hv (pa_cons ha.pe pa_nil hs) hn hdb hs hpl, ev_cb1 ha.ev hd⟩
theorem qb2 {r : List V → Hp → VK → Prop} {g : DL.D → DL.D → Option RV} {x : Str} {id : String} (hc : CallR X (.builtin id) r) (hd : Op2 X.K (fun x y H Q => r [x, y] H Q) g) (hv : bootBuiltins x = some (.builtin id)) (hm : X.mg x = none) (ha : QE X a ta fa) (hb : QE X b tb fb) (hg : Gl X x := by rfl)
    (hn : x ≠ "__name__" := by decide) (hdb : (x == ("__debug__" : Str)) = false := by decide) (hs : starEach [a, b] X.env = (false, eval a X.env) :: starEach [b] X.env := by rfl) (hs2 : starEach [b] X.env = (false, eval b X.env) :: starEach [] X.env := by rfl) (hpl : (backTo pos (starEach [b] X.env)).any (·.1) = false := by rfl) :
    QE X (.Call (.Name x p) [a, b] [] pos) (tCB r (tCons ta (tCons tb tNil))) (eOp2 g fa fb) := ⟨pe_callB hc hg hm hv (pa_cons ha.pe (pa_cons hb.pe pa_nil hs2) hs) hn hdb hs hpl, ev_cb2 ha.ev hb.ev hd⟩
theorem qisi {T : String} {x2 : Str} {p2 : Pos} (hv2 : bootBuiltins x2 = some (.type T)) (hm : X.mg "isinstance" = none) (hm2 : X.mg x2 = none) (ha : QE X a ta fa) (hg : Gl X "isinstance" := by rfl) (hg2 : Gl X x2 := by rfl) (hn2 : x2 ≠ "__name__" := by decide) (hdb2 : (x2 == ("__debug__" : Str)) = false := by decide)
    (hs : starEach [a, .Name x2 p2] X.env = (false, eval a X.env) :: starEach [.Name x2 p2] X.env := by rfl) (hs2 : starEach [.Name x2 p2] X.env = (false, eval (.Name x2 p2) X.env) :: starEach [] X.env := by rfl) (hpl : (backTo pos (starEach [.Name x2 p2] X.env)).any (·.1) = false := by rfl) :
    QE X (.Call (.Name "isinstance" p) [a, .Name x2 p2] [] pos) (tCB (rIsi X.K) (tCons ta (tCons (tC (.ty T)) tNil))) (eIsi T fa) :=
  ⟨pe_callB call_isi hg hm boot_isinstance (pa_cons ha.pe (pa_cons (pe_bltn (v := .ty T) hg2 hm2 hv2 rfl hn2 hdb2) pa_nil hs2) hs) (by decide) (by decide) hs hpl, ev_isi ha.ev⟩
/-- what is known of a def behind the top -/
structure Fd (P : Program) (w : World) (K : PySem.W.Frag) (mg : Str → Option Value) (base : Heap) (x : Str) (k : Nat) (ps : List Str) (sem : Sem1) : Prop where
  ex : ∃ f fd, FnOk P w K mg base CX0 k f fd ps (spD K sem) ∧ mg x = some (.ref f) ∧ PySem.W.keepIn K (.ref f) = true ∧ Binds K fd ps []
theorem qcall {x : Str} {j k : Nat} {ps : List Str} {sem : Sem1} (F : Fd X.prog X.w X.K X.mg X.base x j ps sem) (hr : Room k X.A) (hk : j ≤ k) (ha : QA X (e :: es) tA fA) (hg : Gl X x := by rfl)
    (hdb : (x == ("__debug__" : Str)) = false := by decide) (he : starEach (e :: es) X.env = (false, eval e X.env) :: starEach es X.env := by rfl) (hpl : (backTo pos (starEach es X.env)).any (·.1) = false := by rfl) :
    QE X (.Call (.Name x p) (e :: es) [] pos) (tCall (spD X.K sem) [] E0 tA) (eCall sem fA) := by
  obtain ⟨f, fd, F, hm, kp, b⟩ := F.ex
  exact ⟨pe_call F (hr.mono hk) hg hm kp b .nil pass0 ha.pa hdb he hpl, ev_call ha.ev⟩
/-! methods of a list that a name owns -/
theorem qappend (i : Nat) {x : Str} {apos : Pos} (he : QE X e te fe) (hN : X.N[i]? = some x := by rfl) (hv : Vis X.env.scope x := by first | exact Or.inl rfl | exact Or.inr (Or.inl rfl) | exact Or.inr (Or.inr rfl)) (hd : (x == ("__debug__" : Str)) = false := by decide)
    (hcd : (x == ("__classdict__" : Str)) = false := by decide) (hbase : attributeBase (.Name x p) "append" X.env (eval (.Name x p) X.env) = eval (.Name x p) X.env := by rfl)
    (hfew : ((backTo pos (starEach [e] X.env)).all (fun x => !x.1) && (backToKw pos (keywordEach [] X.env)).all (fun x => x.1.isSome) && decide ([e].length + ([] : List Keyword).length + (if ([] : List Keyword).isEmpty then 0 else 1) < 30)) = true := by rfl)
    (hline : (apos.endLine == pos.line) = true := by rfl) (hs : starEach [e] X.env = (false, eval e X.env) :: starEach [] X.env := by rfl) (hplain : (backTo pos (starEach [] X.env)).any (·.1) = false := by rfl) :
    QE X (.Call (.Attribute (.Name x p) "append" apos) [e] [] pos) (tBM X.K "list" rAppend (tVar i) (tCons te tNil)) (eAppend i fe) :=
  ⟨pe_bm PySem.F.plainAttrs_list PySem.F.slot_list_append PySem.F.type_list_append mt_append (pe_var hN hv hd hcd) (pa_cons he.pe pa_nil hs) hbase hfew hline hs hplain, ev_append he.ev⟩
theorem qextend (i : Nat) {x : Str} {apos : Pos} (he : QE X e te fe) (hN : X.N[i]? = some x := by rfl) (hv : Vis X.env.scope x := by first | exact Or.inl rfl | exact Or.inr (Or.inl rfl) | exact Or.inr (Or.inr rfl)) (hd : (x == ("__debug__" : Str)) = false := by decide)
    (hcd : (x == ("__classdict__" : Str)) = false := by decide) (hbase : attributeBase (.Name x p) "extend" X.env (eval (.Name x p) X.env) = eval (.Name x p) X.env := by rfl)
    (hfew : ((backTo pos (starEach [e] X.env)).all (fun x => !x.1) && (backToKw pos (keywordEach [] X.env)).all (fun x => x.1.isSome) && decide ([e].length + ([] : List Keyword).length + (if ([] : List Keyword).isEmpty then 0 else 1) < 30)) = true := by rfl)
    (hline : (apos.endLine == pos.line) = true := by rfl) (hs : starEach [e] X.env = (false, eval e X.env) :: starEach [] X.env := by rfl) (hplain : (backTo pos (starEach [] X.env)).any (·.1) = false := by rfl) :
    QE X (.Call (.Attribute (.Name x p) "extend" apos) [e] [] pos) (tBM X.K "list" rExtend (tVar i) (tCons te tNil)) (eExtend i fe) :=
  ⟨pe_bm PySem.F.plainAttrs_list PySem.F.slot_list_extend PySem.F.type_list_extend mt_extend (pe_var hN hv hd hcd) (pa_cons he.pe pa_nil hs) hbase hfew hline hs hplain, ev_extend he.ev⟩
theorem qpop (i : Nat) {x : Str} {apos : Pos} (hN : X.N[i]? = some x := by rfl) (hv : Vis X.env.scope x := by first | exact Or.inl rfl | exact Or.inr (Or.inl rfl) | exact Or.inr (Or.inr rfl)) (hd : (x == ("__debug__" : Str)) = false := by decide)
    (hcd : (x == ("__classdict__" : Str)) = false := by decide) (hbase : attributeBase (.Name x p) "pop" X.env (eval (.Name x p) X.env) = eval (.Name x p) X.env := by rfl) (hline : (apos.endLine == pos.line) = true := by rfl) :
    QE X (.Call (.Attribute (.Name x p) "pop" apos) [] [] pos) (tBM0 X.K "list" rPop (tVar i)) (ePop i) :=
  ⟨pe_bm0 PySem.F.plainAttrs_list PySem.F.slot_list_pop PySem.F.type_list_pop mt_pop (pe_var hN hv hd hcd) hbase hline, ev_pop⟩
theorem qpopAt (i : Nat) {x : Str} {apos : Pos} (he : QE X e te fe) (hN : X.N[i]? = some x := by rfl) (hv : Vis X.env.scope x := by first | exact Or.inl rfl | exact Or.inr (Or.inl rfl) | exact Or.inr (Or.inr rfl)) (hd : (x == ("__debug__" : Str)) = false := by decide)
    (hcd : (x == ("__classdict__" : Str)) = false := by decide) (hbase : attributeBase (.Name x p) "pop" X.env (eval (.Name x p) X.env) = eval (.Name x p) X.env := by rfl)
    (hfew : ((backTo pos (starEach [e] X.env)).all (fun x => !x.1) && (backToKw pos (keywordEach [] X.env)).all (fun x => x.1.isSome) && decide ([e].length + ([] : List Keyword).length + (if ([] : List Keyword).isEmpty then 0 else 1) < 30)) = true := by rfl)
    (hline : (apos.endLine == pos.line) = true := by rfl) (hs : starEach [e] X.env = (false, eval e X.env) :: starEach [] X.env := by rfl) (hplain : (backTo pos (starEach [] X.env)).any (·.1) = false := by rfl) :
    QE X (.Call (.Attribute (.Name x p) "pop" apos) [e] [] pos) (tBM X.K "list" rPopAt (tVar i) (tCons te tNil)) (ePopAt i fe) :=
  ⟨pe_bm PySem.F.plainAttrs_list PySem.F.slot_list_pop PySem.F.type_list_pop mt_popAt (pe_var hN hv hd hcd) (pa_cons he.pe pa_nil hs) hbase hfew hline hs hplain, ev_popAt he.ev⟩
end

/-! statements -/
section
variable {X : Cx} {st : Stmt} {sts els : List Stmt} {ts us : TS} {f g : SM} {e c it tg : Expr} {te : TE} {fe : EM} {tt : TT} {fc : TM} {pos : Pos}
theorem qs_nil : QSs X [] tNext sPass := ⟨pss_nil, ev_spass⟩
theorem qs_cons (h1 : QS X st ts f) (h2 : QSs X sts us g) : QSs X (st :: sts) (tSeq ts us) (sSeq f g) := ⟨pss_cons h1.ps h2.ps, ev_sseq h1.ev h2.ev⟩
theorem qs_one (h1 : QS X st ts f) : QSs X [st] ts f := ⟨pss_one h1.ps, h1.ev⟩
theorem qpass : QS X (.Pass pos) tNext sPass := ⟨ps_pass, ev_spass⟩
theorem qbreak : QS X (.Break pos) tBreak sBreak := ⟨ps_break, ev_sbreak⟩
theorem qcont : QS X (.Continue pos) tCont sCont := ⟨ps_continue, ev_scont⟩
theorem qexpr (h : QE X e te fe) (hs : swapsWith e none pos.line X.env = pure false := by rfl) : QS X (.Expr e pos) (tDrop te) (sExpr fe) := ⟨ps_expr h.pe hs, ev_sexpr h.ev⟩
theorem qret (h : QE X e te fe) : QS X (.Return (some e) pos) (tRet te) (sRet fe) := ⟨ps_ret h.pe, ev_sret h.ev⟩
theorem qretn : QS X (.Return none pos) tRetN sRetN := ⟨ps_retN, ev_sretn⟩
theorem qsif (hc : QT X c tt fc) (h1 : QSs X sts ts f) (h2 : QSs X els us g) : QS X (.If c sts els pos) (tIfS tt ts us) (sIf fc f g) := ⟨ps_if hc.pt h1.ps h2.ps, ev_sif hc.ev h1.ev h2.ev⟩
theorem qset (i : Nat) {x : Str} {pos' : Pos} (hN : X.N.Nodup) (he : QE X e te fe) (hi : X.N[i]? = some x := by rfl) (hx : Loc X.env.scope x := by first | exact Or.inl rfl | exact Or.inr rfl) (hs : swapsWith e (some (.Name x pos')) pos.line X.env = pure false := by rfl)
    (hf : X.fn x = true ∨ X.env.scope.names.lookup x = some .local := by first | exact .inl rfl | exact .inr rfl) : QS X (.Assign [.Name x pos'] e pos) (tAsg te (gName i)) (sSet i fe) := ⟨ps_set hN hi hx he.pe hs hf, ev_sset he.ev⟩
theorem qasg {tg : Expr} {gt : TG} {gm : GM} {vs : List Nat} (he : QE X e te fe) (hg : QG X tg gt gm vs) (hs : swapsWithSole [tg] e pos.line X.env = pure false := by rfl) (hw : swappedStores [tg] e X.env = pure none := by rfl)
    (h1 : (assignEach [tg] X.env).map (·.2) = [assign tg X.env] := by rfl) : QS X (.Assign [tg] e pos) (tAsg te gt) (sAsg fe gm) := ⟨ps_asg he.pe hg.pg hs hw h1, ev_sasg he.ev hg.ev⟩
structure QX (X : Cx) (e : Expr) (g : TG) (f : GM) : Prop where
  pg : PG X e g
  ev : EvX X.K g f
structure QXs (X : Cx) (es : List Expr) (g : TGs) (f : List DL.D → En → Option En) : Prop where
  pg : PGs X es g
  ev : EvXs X.K g f
theorem qasgx {tg : Expr} {gt : TG} {gm : GM} (he : QE X e te fe) (hg : QX X tg gt gm) (hs : swapsWithSole [tg] e pos.line X.env = pure false := by rfl) (hw : swappedStores [tg] e X.env = pure none := by rfl)
    (h1 : (assignEach [tg] X.env).map (·.2) = [assign tg X.env] := by rfl) : QS X (.Assign [tg] e pos) (tAsg te gt) (sAsgX fe gm) := ⟨ps_asg he.pe hg.pg hs hw h1, ev_sasgx he.ev hg.ev⟩
theorem qaug (i : Nat) {x : Str} {op : Operator} {r : R2} {gd : DL.D → DL.D → Option RV} {pos' : Pos} (hN : X.N.Nodup) (ho : OpR X (inplaceOp op) r) (hd : Op2 X.K r gd) (he : QE X e te fe) (hi : X.N[i]? = some x := by rfl) (hx : Loc X.env.scope x := by first | exact Or.inl rfl | exact Or.inr rfl)
    (hf : X.fn x = true ∨ X.env.scope.names.lookup x = some .local := by first | exact .inl rfl | exact .inr rfl) : QS X (.AugAssign (.Name x pos') op e pos) (tAug i te r) (sAug i gd fe) := ⟨ps_aug hN hi hx he.pe (fun pins s σ H x y v u Q I rx ry q => ho pins s σ H x y v u Q I rx ry q) hf, ev_saug he.ev hd⟩
theorem qfor {wi : TI} {src : IM} {gt : TG} {gm : GM} {vs : List Nat} (hp : PassesOwn (model X.prog X.w) X.A X.env X.xe) (hc : X.calm = true) (hi : QI X tg it wi src) (hg : QG X tg gt gm vs) (hb : QSs X sts ts f) (hs : ∀ x, foldedSetIterable it X.env x = pure x := by intro _; rfl) :
    QS X (.For tg it sts [] pos) (tFor wi gt ts) (sFor src gm f) := ⟨ps_for hp hc hi.pi hg.pg hb.ps hs, ev_sfor hi.ev hg.ev hb.ev⟩
theorem qwhile (hp : PassesOwn (model X.prog X.w) X.A X.env X.xe) (hc : QT X c tt fc) (hb : QSs X sts ts f) : QS X (.While c sts [] pos) (tWhile tt ts) (sWhile fc f) := ⟨ps_while hp hc.pt hb.ps, ev_swhile hc.ev hb.ev⟩
theorem qpar (i j : Nat) {x y : Str} {a b : Expr} {ta : TA} {fa : AM} {px py pt : Pos} {kt k2 pt2} (hc : X.calm = true) (hN : X.N.Nodup) (ha : QA X [a, b] ta fa) (hij : i ≠ j := by decide) (hi : X.N[i]? = some x := by rfl) (hj : X.N[j]? = some y := by rfl)
    (hx : X.env.scope.names.lookup x = some .local := by rfl) (hy : X.env.scope.names.lookup y = some .local := by rfl)
    (h : PS X (.Assign [.Tuple [.Name x px, .Name y py] kt pt] (.Tuple [a, b] k2 pt2) pos) (tPar i j ta)) : QS X (.Assign [.Tuple [.Name x px, .Name y py] kt pt] (.Tuple [a, b] k2 pt2) pos) (tPar i j ta) (sPar i j fa) := ⟨h, ev_spar hij ha.ev⟩
/-! targets -/
theorem gname (i : Nat) {x : Str} (hN : X.N.Nodup) (hi : X.N[i]? = some x := by rfl) (hx : Loc X.env.scope x := by first | exact Or.inl rfl | exact Or.inr rfl) (hf : X.fn x = true ∨ X.env.scope.names.lookup x = some .local := by first | exact .inl rfl | exact .inr rfl) : QG X (.Name x pos) (gName i) (gmName i) [i] := ⟨pg_name hN hi hx hf, ev_gname⟩
theorem gnil : QGs X [] gNil gmNil [] := ⟨pgs_nil, ev_gnil⟩
theorem gcons {e : Expr} {es : List Expr} {t : TG} {u : TGs} {m : GM} {n : List DL.D → En → Option En} {vs ws : List Nat} (h1 : QG X e t m vs) (h2 : QGs X es u n ws)
    (hs : (assignEach (e :: es) X.env).map (·.2) = assign e X.env :: (assignEach es X.env).map (·.2) := by rfl) : QGs X (e :: es) (gCons t u) (gmCons m n) (vs ++ ws) := ⟨pgs_cons h1.pg h2.pg hs, ev_gcons h1.ev h2.ev⟩
theorem gtup {es : List Expr} {k : Nat} {t : TGs} {m : List DL.D → En → Option En} {n : Nat} {vs : List Nat} (hc : X.calm = true) (h : QGs X es t m vs) (hn : (assignEach es X.env).length = n := by rfl) (hst : (assignEach es X.env).findIdx? (·.1) = none := by rfl) :
    QG X (.Tuple es k pos) (gTup X.K n t) (gmTup m n) vs := ⟨pg_tup hc h.pg hn hst, ev_gtup h.ev⟩
theorem xname (i : Nat) {x : Str} (hN : X.N.Nodup) (hi : X.N[i]? = some x := by rfl) (hx : Loc X.env.scope x := by first | exact Or.inl rfl | exact Or.inr rfl) (hf : X.fn x = true ∨ X.env.scope.names.lookup x = some .local := by first | exact .inl rfl | exact .inr rfl) : QX X (.Name x pos) (gName i) (gmName i) := ⟨pg_name hN hi hx hf, ev_gname.x⟩
theorem xsub (i : Nat) {x : Str} {k : Expr} {tk : TE} {fk : EM} {p : Pos} (hk : QE X k tk fk) (hN : X.N[i]? = some x := by rfl) (hv : Vis X.env.scope x := by first | exact Or.inl rfl | exact Or.inr (Or.inl rfl) | exact Or.inr (Or.inr rfl)) (hd : (x == ("__debug__" : Str)) = false := by decide)
    (hcd : (x == ("__classdict__" : Str)) = false := by decide)
    (ha : ∀ v, assign (.Subscript (.Name x p) k pos) X.env v = (do let ov ← holding [v] (eval (.Name x p) X.env); let iv ← holding [v, ov] (eval k X.env); standAt pos; holding [v, ov, iv] (setItem ov iv v); release [v, ov, iv] []) := by intros; rfl) :
    QX X (.Subscript (.Name x p) k pos) (gSub (tVar i) tk rSetL) (gmSub i fk) := ⟨pg_sub (pe_var hN hv hd hcd) hk.pe set_list ha, ev_xsub hk.ev⟩
theorem xnil : QXs X [] gNil gmNil := ⟨pgs_nil, ev_xnil⟩
theorem xcons {e : Expr} {es : List Expr} {t : TG} {u : TGs} {m : GM} {n : List DL.D → En → Option En} (h1 : QX X e t m) (h2 : QXs X es u n)
    (hs : (assignEach (e :: es) X.env).map (·.2) = assign e X.env :: (assignEach es X.env).map (·.2) := by rfl) : QXs X (e :: es) (gCons t u) (gmCons m n) := ⟨pgs_cons h1.pg h2.pg hs, ev_xcons h1.ev h2.ev⟩
theorem xtup {es : List Expr} {k : Nat} {t : TGs} {m : List DL.D → En → Option En} {n : Nat} (hc : X.calm = true) (h : QXs X es t m) (hn : (assignEach es X.env).length = n := by rfl) (hst : (assignEach es X.env).findIdx? (·.1) = none := by rfl) :
    QX X (.Tuple es k pos) (gTup X.K n t) (gmTup m n) := ⟨pg_tup hc h.pg hn hst, ev_xtup h.ev⟩
end

/-! sources and comprehensions -/
section
variable {X : Cx} {tg e a b c : Expr} {te : TE} {fe : EM} {ta : TA} {fa : AM} {p pos : Pos}
theorem ilist (h : QE X e te fe) : QI X tg e (iList X.K te) (srcList fe) := ⟨pi_list h.pe, ev_srcList h.ev⟩
theorem iscr (h : QE X e te fe) : QI X tg e (iList X.K te) (srcScr fe) := ⟨pi_list h.pe, ev_srcScr h.ev⟩
theorem PI.or {tg e : Expr} {w1 w2 : TI} (h1 : PI X tg e w1) (h2 : PI X tg e w2) : PI X tg e (fun σ H R => w1 σ H R ∨ w2 σ H R) := ⟨fun pins s σ H R I h => by
  rcases h with h | h
  · exact h1.run pins s σ H R I h
  · exact h2.run pins s σ H R I h⟩
theorem iany (h : QE X e te fe) : QI X tg e (fun σ H R => iList X.K te σ H R ∨ iTup X.K te σ H R) (srcAny fe) := ⟨PI.or (pi_list h.pe) (pi_tup h.pe), ev_srcAny h.ev⟩
theorem itup (h : QE X e te fe) : QI X tg e (iTup X.K te) (srcTup fe) := ⟨pi_tup h.pe, ev_srcTup h.ev⟩
theorem irng1 (hm : X.mg "range" = none) (h : QA X [a] ta fa) (hg : Gl X "range" := by rfl) (hs : starEach [a] X.env = [(false, eval a X.env)] := by rfl) : QI X tg (.Call (.Name "range" p) [a] [] pos) (iRng1 ta) (srcRng1 fa) := ⟨pi_range1 hg hm h.pa hs, ev_srcRng1 h.ev⟩
theorem irng2 (hm : X.mg "range" = none) (h : QA X [a, b] ta fa) (hg : Gl X "range" := by rfl) (hs : starEach [a, b] X.env = [(false, eval a X.env), (false, eval b X.env)] := by rfl) (hs2 : starEach [b] X.env = [(false, eval b X.env)] := by rfl) : QI X tg (.Call (.Name "range" p) [a, b] [] pos) (iRng2 ta) (srcRng2 fa) := ⟨pi_range2 hg hm h.pa hs hs2, ev_srcRng2 h.ev⟩
theorem irng3 (hm : X.mg "range" = none) (h : QA X [a, b, c] ta fa) (hg : Gl X "range" := by rfl) (hs : starEach [a, b, c] X.env = (false, eval a X.env) :: starEach [b, c] X.env := by rfl) (hpl : (backTo pos (starEach [b, c] X.env)).any (·.1) = false := by rfl) : QI X tg (.Call (.Name "range" p) [a, b, c] [] pos) (iRng3 ta) (srcRng3 fa) := ⟨pi_range3 hg hm h.pa hs hpl, ev_srcRng3 h.ev⟩
theorem irev (hm : X.mg "reversed" = none) (h : QA X [a] ta fa) (hg : Gl X "reversed" := by rfl) (hs : starEach [a] X.env = [(false, eval a X.env)] := by rfl) : QI X tg (.Call (.Name "reversed" p) [a] [] pos) (iRev X.K ta) (srcRev fa) := ⟨pi_reversed hg hm h.pa hs, ev_srcRev h.ev⟩
structure QTs (X : Cx) (ifs : List Expr) (tt : TT) (f : TM) : Prop where
  pt : PTs X ifs tt
  ev : EvT X.K tt f
theorem ts_nil : QTs X [] tYes cYes := ⟨pts_nil, fun F H σ ρ b ρ' R e Q q => by cases e; exact q F H (BStep.refl R)⟩
theorem ts_one {c : Expr} {t : TT} {f : TM} (h : QT X c t f) : QTs X [c] t f := ⟨pts_one h.pt, h.ev⟩
theorem qlc {elt tg iter : Expr} {ifs : List Expr} {scope : Scope} {own : List (Str × Nat)} {pos : Pos} {wi : TI} {src : IM} {g : TG} {gm : GM} {ws : List Nat} {tt : TT} {ft : TM} {te : TE} {fe : EM} (hc : X.calm = true) (hN : X.N.Nodup) (hi : QI X tg iter wi src) (ok : BlkOk X.N X.env.scope scope own)
    (hg : ∀ (s : Shared) (H : Hp) (C : Addr) (cl : List (Str × Addr)) (fp : List Addr), QG (X.blk s H scope (compEnvC scope cl C X.env) fp) tg g gm ws) (ht : ∀ (s : Shared) (H : Hp) (C : Addr) (cl : List (Str × Addr)) (fp : List Addr), QTs (X.blk s H scope (compEnvC scope cl C X.env) fp) ifs tt ft)
    (he : ∀ (s : Shared) (H : Hp) (C : Addr) (cl : List (Str × Addr)) (fp : List Addr), QE (X.blk s H scope (compEnvC scope cl C X.env) fp) elt te fe) (hws : ∀ i ∈ ws, i ∈ own.map (·.2) := by decide) (hs : ∀ x, foldedSetIterable iter X.env x = pure x := by intro _; rfl) :
    QE X (.ListComp elt [⟨tg, iter, ifs, 0⟩] scope pos) (tLc wi g tt te (own.map (·.2))) (eComp src gm ft fe (own.map (·.2))) :=
  ⟨pe_lc hc hN hi.pi ok (fun s H C cl fp => (hg s H C cl fp).pg) (fun s H C cl fp => (ht s H C cl fp).pt) (fun s H C cl fp => (he s H C cl fp).pe) hs,
   ev_comp hi.ev (hg X.s_0 X.H_0 0 [] []).ev hws (ht X.s_0 X.H_0 0 [] []).ev (he X.s_0 X.H_0 0 [] []).ev⟩
theorem qsetlc (i : Nat) {y : Str} {py : Pos} {elt tg iter : Expr} {ifs : List Expr} {scope : Scope} {own : List (Str × Nat)} {pos spos : Pos} {wi : TI} {src : IM} {g : TG} {gm : GM} {ws : List Nat} {tt : TT} {ft : TM} {te : TE} {fe : EM} (hc : X.calm = true) (hN : X.N.Nodup) (hi : QI X tg iter wi src) (ok : BlkOk X.N X.env.scope scope own)
    (hg : ∀ (s : Shared) (H : Hp) (C : Addr) (cl : List (Str × Addr)) (fp : List Addr), QG (X.blk s H scope (compEnvC scope cl C X.env) fp) tg g gm ws) (ht : ∀ (s : Shared) (H : Hp) (C : Addr) (cl : List (Str × Addr)) (fp : List Addr), QTs (X.blk s H scope (compEnvC scope cl C X.env) fp) ifs tt ft)
    (he : ∀ (s : Shared) (H : Hp) (C : Addr) (cl : List (Str × Addr)) (fp : List Addr), QE (X.blk s H scope (compEnvC scope cl C X.env) fp) elt te fe)
    (hsw : swapsWith (.ListComp elt [⟨tg, iter, ifs, 0⟩] scope pos) (some (.Name y py)) spos.line X.env = pure true) (hy : X.N[i]? = some y := by rfl) (hyl : X.env.scope.names.lookup y = some .local := by rfl) (hws : ∀ i ∈ ws, i ∈ own.map (·.2) := by decide) (hs : ∀ x, foldedSetIterable iter X.env x = pure x := by intro _; rfl) :
    QS X (.Assign [.Name y py] (.ListComp elt [⟨tg, iter, ifs, 0⟩] scope pos) spos) (tAsg (tLc wi g tt te (own.map (·.2))) (gName i)) (sSet i (eComp src gm ft fe (own.map (·.2)))) :=
  ⟨ps_setLc hc hN hy hyl hsw hi.pi ok (fun s H C cl fp => (hg s H C cl fp).pg) (fun s H C cl fp => (ht s H C cl fp).pt) (fun s H C cl fp => (he s H C cl fp).pe) hs,
   ev_sset (ev_comp hi.ev (hg X.s_0 X.H_0 0 [] []).ev hws (ht X.s_0 X.H_0 0 [] []).ev (he X.s_0 X.H_0 0 [] []).ev)⟩
end
/-- a constant of the module that is data -/
structure Gc (K : PySem.W.Frag) (mg : Str → Option Value) (x : Str) (d : DL.D) : Prop where
  ex : ∃ v u, mg x = some u ∧ RelV v u ∧ ∀ F, Rep K F v d
noncomputable def Gc.v {K : PySem.W.Frag} {mg : Str → Option Value} {x : Str} {d : DL.D} (G : Gc K mg x d) : V := G.ex.choose
theorem qglob {X : Cx} {x : Str} {d : DL.D} {pos : Pos} (G : Gc X.K X.mg x d) (hg : Gl X x := by rfl) (hd : (x == ("__debug__" : Str)) = false := by decide) : QE X (.Name x pos) (tC G.v) (eC d) := by
  obtain ⟨u, hm, r, h⟩ := G.ex.choose_spec
  exact ⟨pe_glob hg hm r hd, ev_c h⟩
/-- a def's facts by its body -/
theorem fd_mk {P : Program} {w : World} {K : PySem.W.Frag} {mg : Str → Option Value} {base : Heap} {x : Str} {st : Stmt} {f : Addr} {fd : FuncData} {N ps : List Str} {k np nl : Nat} {body : SM} (F : Fun K x x st f fd) (b : Binds K fd ps []) (g : mg x = some (.ref f)) (S : FnScope N ps (defScope st)) (hp : ps.length = np) (hl : N.length = np + nl)
    (h : ∀ (cdv : Value) (A : Around) (outer : List PySem.Env) (s : Shared) (H : Hp) (E : XK), Room k (A.deeper (envOfC x (defScope st) s.heap.objs.size f cdv)) →
      ∃ t, QSs (cxOf CX0 P w K mg base N x (defScope st) f cdv A outer s H E).nox (defBody st) t body) : Fd P w K mg base x (k + 1) ps (fnSem np nl body) :=
  ⟨f, fd, fnD F S hp hl h, g, F.kp, b⟩
end DL

namespace DL
open PySem PySem.Spec PyProof.Rows L2

/-! ### the end of a law -/
def spLaw (K : PySem.W.Frag) : Sp := fun vs H Q _ => ∃ (a : Addr) (ns : List Int), vs = [.ref a] ∧ SqL K H a (ns.map V.int) ∧ ns.length ≤ 63 ∧ ∀ H', Q (.bl true) H'
theorem law_ok {P : Program} {w : World} {K : PySem.W.Frag} {mg : Str → Option Value} {base : Heap} {k : Nat} {f : Addr} {fd : FuncData} {ps : List Str} {sem : Sem1} (F : FnOk P w K mg base CX0 k f fd ps (spD K sem))
    (h : ∀ ns : List Int, ns.length ≤ 63 → ∃ cs', sem [.val (scrD ns)] = some (.val (.bool true), cs')) : FnOk P w K mg base CX0 k f fd ps (spLaw K) := by
  refine F.imp fun vs H Q E hs => ?_
  obtain ⟨a, ns, rfl, hS, hl, q⟩ := hs
  obtain ⟨cs', e⟩ := h ns hl
  refine ⟨H, [.val (scrD ns)], .val (.bool true), cs', ⟨Sub.refl H, .cons (.scr hS) .nil, fun k o z => ?_, fun j k a o o' z => ?_⟩, e, fun v F' H' post => ?_⟩
  · cases k <;> cases z
  · cases j <;> cases z
  · have r : Rep K F' v (.bool true) := post.ret
    cases r
    exact q H'
theorem rel_abs {u : Value} {x : V} (h : absV u = some x) : RelV x u := by
  cases u <;> first | (cases h; done) | (cases h; exact ⟨_, rfl⟩) | (cases h; exact rfl)
theorem vals_abs : ∀ {us : List Value} {xs : List V}, us.map absV = xs.map some → Vals xs us
  | [], [], _ => .nil
  | [], _ :: _, h => by cases h
  | _ :: _, [], h => by cases h
  | u :: us, x :: xs, h => by
    have h1 := List.cons.inj h
    exact .cons (rel_abs h1.1) (vals_abs h1.2)
/-- flat data as a value -/
def flatV? : DL.D → Option V
  | .none => some .non
  | .bool b => some (.bl b)
  | .int i => some (.int i)
  | .str x => some (.str x)
  | _ => none
theorem rep_flat {K : PySem.W.Frag} {F : Hp} : ∀ {ds : List DL.D} {xs : List V}, ds.map flatV? = xs.map some → RepAll K F xs ds
  | [], [], _ => .nil
  | [], _ :: _, h => by cases h
  | _ :: _, [], h => by cases h
  | d :: ds, x :: xs, h => by
    have h1 := List.cons.inj h
    refine .cons ?_ (rep_flat h1.2)
    have h2 : flatV? d = some x := h1.1
    cases d <;> first | (cases h2; done) | skip
    · cases h2; exact .non
    · cases h2; exact .bl _
    · cases h2; exact .int _
    · cases h2; exact .str _
/-- a module's tuple of flat things -/
theorem gc_tup {K : PySem.W.Frag} {h : Heap} {mg : Str → Option Value} {x : Str} {a : Addr} {od : Option Addr} {its : Array Value} {n : Nat} {sl : Array (Option Value)} {ds : List DL.D} {xs : List V} (m : mg x = some (.ref a))
    (l : K.lookup a = some ⟨.type "tuple", od, .seq its n, sl⟩) (hz : its.size ≤ sizeLine) (hv : its.toList.map absV = xs.map some) (hd : ds.map flatV? = xs.map some) : Gc K mg x (.tuple ds) :=
  ⟨.ref a, .ref a, m, rfl, fun F => .tup (.inr ⟨_, its, n, l, rfl, rfl, hz, vals_abs hv⟩) (rep_flat hd)⟩
end DL

namespace DL
open PySem PySem.Spec PyProof.Rows L2

/-! ### running a mirror: it ends, and what holds of its end -/
def Ok {α : Type} (x : Option α) (Q : α → Prop) : Prop := ∃ a, x = some a ∧ Q a
section
variable {α β : Type} {x : Option α} {a : α} {Q Q' : α → Prop}
@[simp ↓] theorem Ok_some : Ok (some a) Q ↔ Q a := ⟨fun ⟨_, e, h⟩ => by cases e; exact h, fun h => ⟨a, rfl, h⟩⟩
@[simp ↓] theorem Ok_none : Ok (none : Option α) Q ↔ False := ⟨fun ⟨_, e, _⟩ => (nomatch e), False.elim⟩
@[simp ↓] theorem Ok_bind {f : α → Option β} {Q : β → Prop} : Ok (x.bind f) Q ↔ Ok x fun a => Ok (f a) Q := by
  cases x with
  | none => exact ⟨fun ⟨_, e, _⟩ => (nomatch e), fun ⟨_, e, _⟩ => (nomatch e)⟩
  | some a => exact ⟨fun h => ⟨a, rfl, h⟩, fun ⟨_, e, h⟩ => by cases e; exact h⟩
theorem Ok.mono (h : Ok x Q) (i : ∀ a, Q a → Q' a) : Ok x Q' := by
  obtain ⟨a, e, q⟩ := h
  exact ⟨a, e, i a q⟩
theorem Ok.of_eq (e : x = some a) (h : Q a) : Ok x Q := ⟨a, e, h⟩
theorem Ok_congr (h : ∀ a, Q a ↔ Q' a) : Ok x Q ↔ Ok x Q' := ⟨fun q => q.mono fun a => (h a).mp, fun q => q.mono fun a => (h a).mpr⟩
@[simp] theorem Ok_guard {c : Prop} [Decidable c] : Ok (if c then x else none) Q ↔ c ∧ Ok x Q := by
  by_cases h : c
  · rw [if_pos h]; exact ⟨fun q => ⟨h, q⟩, fun q => q.2⟩
  · rw [if_neg h, Ok_none]; exact ⟨False.elim, fun q => h q.1⟩
theorem Ok_if {c : Prop} [Decidable c] {y : Option α} (h1 : c → Ok x Q) (h2 : ¬ c → Ok y Q) : Ok (if c then x else y) Q := by
  by_cases h : c
  · rw [if_pos h]; exact h1 h
  · rw [if_neg h]; exact h2 h
end

/-- behind a statement: what is wanted of the rest -/
def seqQ (g : SM) (Q : Out → Prop) : Out → Prop
  | .nx ρ => Ok (g ρ) Q
  | o => Q o
section
variable {f g : SM} {Q : Out → Prop} {ρ : En} {fe fa fb fc : EM} {c d : TM} {i j : Nat} {fA fr : AM} {gd : DL.D → Option RV} {g2 g2' : DL.D → DL.D → Option RV} {QE : RV × En → Prop} {QT : Bool × En → Prop} {QA : List Arg × En → Prop}
@[simp] theorem seqQ_nx : seqQ g Q (.nx ρ) = Ok (g ρ) Q := rfl
@[simp] theorem seqQ_bk : seqQ g Q (.bk ρ) = Q (.bk ρ) := rfl
@[simp] theorem seqQ_ct : seqQ g Q (.ct ρ) = Q (.ct ρ) := rfl
@[simp] theorem seqQ_rt {c : Cell} : seqQ g Q (.rt c ρ) = Q (.rt c ρ) := rfl
@[simp ↓] theorem ok_seq : Ok (sSeq f g ρ) Q ↔ Ok (f ρ) (seqQ g Q) := by
  unfold sSeq
  rw [Ok_bind]
  have h : (fun o => Ok (thenS o g) Q) = seqQ g Q := by
    funext o
    cases o with
    | nx ρ => rfl
    | bk ρ => exact propext Ok_some
    | ct ρ => exact propext Ok_some
    | rt c ρ => exact propext Ok_some
  rw [h]
@[simp ↓] theorem ok_set {Q} : Ok (sSet i fe ρ) Q ↔ Ok (fe ρ) fun p => Ok (asg i p.1 p.2) fun ρ' => Q (.nx ρ') := by simp only [sSet, Ok_bind, Ok_some]
@[simp ↓] theorem ok_expr {Q} : Ok (sExpr fe ρ) Q ↔ Ok (fe ρ) fun p => Q (.nx p.2) := by simp only [sExpr, Ok_bind, Ok_some]
@[simp ↓] theorem ok_ret {Q} : Ok (sRet fe ρ) Q ↔ Ok (fe ρ) fun p => Ok (ret p.1 p.2) Q := by simp only [sRet, Ok_bind]
@[simp ↓] theorem ok_retn {Q} : Ok (sRetN ρ) Q ↔ Q (.rt (.val .none) ρ) := by simp only [sRetN, Ok_some]
@[simp ↓] theorem ok_pass {Q} : Ok (sPass ρ) Q ↔ Q (.nx ρ) := by simp only [sPass, Ok_some]
@[simp ↓] theorem ok_break {Q} : Ok (sBreak ρ) Q ↔ Q (.bk ρ) := by simp only [sBreak, Ok_some]
@[simp ↓] theorem ok_cont {Q} : Ok (sCont ρ) Q ↔ Q (.ct ρ) := by simp only [sCont, Ok_some]
/-- a way by a test's answer -/
def br (b : Bool) (x y : Prop) : Prop := if b = true then x else y
@[simp] theorem br_t {x y : Prop} : br true x y ↔ x := by simp only [br, if_true]
@[simp] theorem br_f {x y : Prop} : br false x y ↔ y := by simp [br]
theorem br_iff {b : Bool} {x y : Prop} : br b x y ↔ (b = true → x) ∧ (b = false → y) := by cases b <;> simp [br]
theorem br_of {b : Bool} {x y : Prop} (h1 : b = true → x) (h2 : b = false → y) : br b x y := br_iff.mpr ⟨h1, h2⟩
theorem Ok_ite {α : Type} {b : Bool} {x y : Option α} {Q : α → Prop} : Ok (if b = true then x else y) Q ↔ br b (Ok x Q) (Ok y Q) := by cases b <;> simp [br]
@[simp ↓] theorem ok_if {Q} : Ok (sIf c f g ρ) Q ↔ Ok (c ρ) fun p => br p.1 (Ok (f p.2) Q) (Ok (g p.2) Q) := by simp only [sIf, Ok_bind, Ok_ite]
@[simp ↓] theorem ok_asgx {gm : GM} {Q} : Ok (sAsgX fe gm ρ) Q ↔ Ok (fe ρ) fun p => Ok (fz p.2 p.1) fun q => Ok (gm q.1 q.2) fun ρ' => Q (.nx ρ') := by simp only [sAsgX, Ok_bind, Ok_some]
@[simp ↓] theorem ok_aug {Q} : Ok (sAug i g2 fe ρ) Q ↔ Ok (rdS ρ i) fun _ => Ok (fe ρ) fun p => Ok (rdS p.2 i) fun d => Ok (rd p.2 p.1) fun e => Ok (g2 d e) fun z => Ok (asg i z p.2) fun ρ' => Q (.nx ρ') := by simp only [sAug, Ok_bind, Ok_some]
/-- two arguments that are data -/
def two : List Arg → Option (DL.D × DL.D)
  | [.d d, .d e] => some (d, e)
  | _ => none
@[simp] theorem two_d {d e : DL.D} : two [.d d, .d e] = some (d, e) := rfl
@[simp ↓] theorem ok_par {Q} : Ok (sPar i j fA ρ) Q ↔ Ok (fA ρ) fun p => Ok (two p.1) fun de => br (isRefB p.2[i]? || isRefB p.2[j]?) False (Q (.nx ((p.2.set i (some (.val de.1))).set j (some (.val de.2))))) := by
  unfold sPar
  rw [Ok_bind]
  have h : ∀ p : List Arg × En, (Ok (match p.1 with
      | [.d d, .d e] => if isRefB p.2[i]? || isRefB p.2[j]? then none else some (Out.nx ((p.2.set i (some (.val d))).set j (some (.val e))))
      | _ => none) Q) ↔ Ok (two p.1) fun de => br (isRefB p.2[i]? || isRefB p.2[j]?) False (Q (.nx ((p.2.set i (some (.val de.1))).set j (some (.val de.2))))) := fun p => by
    unfold two
    split
    · simp only [Ok_some, Ok_ite, Ok_none]
    · simp only [Ok_none]
  exact Ok_congr h
@[simp ↓] theorem ok_sfor {src : IM} {tgt : GM} {Q} : Ok (sFor src tgt f ρ) Q ↔ Ok (src ρ) fun p => Ok (forL tgt f p.1 p.2) Q := by simp only [sFor, Ok_bind]
/-- a name's cell -/
def nameQ (c : Option (Option Cell)) (P : Prop) : Prop := ∃ x, c = some (some x) ∧ P
@[simp] theorem nameQ_some {x : Cell} {P : Prop} : nameQ (some (some x)) P ↔ P := ⟨fun ⟨_, _, h⟩ => h, fun h => ⟨x, rfl, h⟩⟩
@[simp ↓] theorem ok_name {Q} : Ok (eName i ρ) Q ↔ nameQ ρ[i]? (Q (.slot i, ρ)) := by
  unfold eName nameQ
  split
  · rename_i x h; rw [h, Ok_some]; exact ⟨fun h => ⟨x, rfl, h⟩, fun ⟨_, _, h⟩ => h⟩
  · rename_i h
    rw [Ok_none]
    exact ⟨False.elim, fun ⟨x, e, _⟩ => h x e⟩
@[simp ↓] theorem ok_c {d : DL.D} {Q} : Ok (eC d ρ) Q ↔ Q (.val d, ρ) := by simp only [eC, Ok_some]
@[simp ↓] theorem ok_op1 {Q} : Ok (eOp1 gd fa ρ) Q ↔ Ok (fa ρ) fun p => Ok (rd p.2 p.1) fun d => Ok (gd d) fun z => Q (z, p.2) := by simp only [eOp1, Ok_bind, Ok_some]
@[simp ↓] theorem ok_op2 {Q} : Ok (eOp2 g2 fa fb ρ) Q ↔ Ok (fa ρ) fun p => Ok (fb p.2) fun q => Ok (rd q.2 p.1) fun d => Ok (rd q.2 q.1) fun e => Ok (g2 d e) fun z => Q (z, q.2) := by simp only [eOp2, Ok_bind, Ok_some]
@[simp ↓] theorem ok_anil {Q} : Ok (aNil ρ) Q ↔ Q ([], ρ) := by simp only [aNil, Ok_some]
@[simp ↓] theorem ok_aval {Q} : Ok (aVal fe fr ρ) Q ↔ Ok (fe ρ) fun p => Ok (fz p.2 p.1) fun q => Ok (fr q.2) fun s => Q (.d q.1 :: s.1, s.2) := by simp only [aVal, Ok_bind, Ok_some]
@[simp ↓] theorem ok_aref {Q} : Ok (aRef i fr ρ) Q ↔ nameQ ρ[i]? (Ok (fr ρ) fun s => Q (.r i :: s.1, s.2)) := by
  unfold aRef nameQ
  split
  · rename_i x h; rw [h]; simp only [Ok_bind, Ok_some]; exact ⟨fun h => ⟨x, rfl, h⟩, fun ⟨_, _, h⟩ => h⟩
  · rename_i h
    rw [Ok_none]
    exact ⟨False.elim, fun ⟨x, e, _⟩ => h x e⟩
@[simp ↓] theorem ok_tup {Q} : Ok (eTup fA ρ) Q ↔ Ok (fA ρ) fun p => Ok (argsD p.1) fun ds => ds.length ≤ sizeLine ∧ Q (.val (.tuple ds), p.2) := by
  simp only [eTup, Ok_bind]
  have h : ∀ (p : List Arg × En) (ds : List DL.D), (Ok (if ds.length ≤ sizeLine then some (RV.val (.tuple ds), p.2) else none) Q) ↔ (ds.length ≤ sizeLine ∧ Q (.val (.tuple ds), p.2)) := fun p ds => by
    by_cases h : ds.length ≤ sizeLine
    · rw [if_pos h, Ok_some]; exact ⟨fun q => ⟨h, q⟩, fun q => q.2⟩
    · rw [if_neg h, Ok_none]; exact ⟨False.elim, fun q => h q.1⟩
  simp only [h]
@[simp ↓] theorem ok_lst {Q} : Ok (eLst fA ρ) Q ↔ Ok (fA ρ) fun p => Ok (argsD p.1) fun ds => ds.length ≤ sizeLine ∧ Q (.own (.lst ds), p.2) := by
  simp only [eLst, Ok_bind]
  have h : ∀ (p : List Arg × En) (ds : List DL.D), (Ok (if ds.length ≤ sizeLine then some (RV.own (.lst ds), p.2) else none) Q) ↔ (ds.length ≤ sizeLine ∧ Q (.own (.lst ds), p.2)) := fun p ds => by
    by_cases h : ds.length ≤ sizeLine
    · rw [if_pos h, Ok_some]; exact ⟨fun q => ⟨h, q⟩, fun q => q.2⟩
    · rw [if_neg h, Ok_none]; exact ⟨False.elim, fun q => h q.1⟩
  simp only [h]
@[simp ↓] theorem ok_call {sem : Sem1} {Q} : Ok (eCall sem fA ρ) Q ↔ Ok (fA ρ) fun p => Ok (cellsOf p.2 p.1) fun cs => nodupB (refIx p.1) = true ∧ Ok (sem cs) fun q => Q (toRV q.1, back p.1 q.2 p.2) := by
  simp only [eCall, Ok_bind]
  have h : ∀ (p : List Arg × En) (cs : List Cell), (Ok (if nodupB (refIx p.1) = true then (sem cs).bind fun q => some (toRV q.1, back p.1 q.2 p.2) else none) Q) ↔ (nodupB (refIx p.1) = true ∧ Ok (sem cs) fun q => Q (toRV q.1, back p.1 q.2 p.2)) := fun p ds => by
    by_cases h : nodupB (refIx p.1) = true
    · rw [if_pos h]; simp only [Ok_bind, Ok_some]; exact ⟨fun q => ⟨h, q⟩, fun q => q.2⟩
    · rw [if_neg h, Ok_none]; exact ⟨False.elim, fun q => h q.1⟩
  simp only [h]
@[simp ↓] theorem ok_not {Q} : Ok (tmNot c ρ) Q ↔ Ok (c ρ) fun p => Q (!p.1, p.2) := by simp only [tmNot, Ok_bind, Ok_some]
@[simp ↓] theorem ok_and {Q} : Ok (tmAnd c d ρ) Q ↔ Ok (c ρ) fun p => br p.1 (Ok (d p.2) Q) (Q (false, p.2)) := by simp only [tmAnd, Ok_bind, Ok_ite, Ok_some]
@[simp ↓] theorem ok_or {Q} : Ok (tmOr c d ρ) Q ↔ Ok (c ρ) fun p => br p.1 (Q (true, p.2)) (Ok (d p.2) Q) := by simp only [tmOr, Ok_bind, Ok_ite, Ok_some]
@[simp ↓] theorem ok_tmb {Q} : Ok (tmB fe ρ) Q ↔ Ok (fe ρ) fun p => Ok (rd p.2 p.1) fun d => Ok (boolD d) fun b => Q (b, p.2) := by simp only [tmB, Ok_bind, Ok_some]
@[simp ↓] theorem ok_tru {Q} : Ok (tmTru fe ρ) Q ↔ Ok (fe ρ) fun p => Ok (rd p.2 p.1) fun d => Ok (truD d) fun b => Q (b, p.2) := by simp only [tmTru, Ok_bind, Ok_some]
@[simp ↓] theorem ok_eif {Q} : Ok (eIf c fa fb ρ) Q ↔ Ok (c ρ) fun p => br p.1 (Ok (fa p.2) Q) (Ok (fb p.2) Q) := by simp only [eIf, Ok_bind, Ok_ite]
@[simp ↓] theorem ok_eand {Q} : Ok (eAnd fa fb ρ) Q ↔ Ok (fa ρ) fun p => Ok (rd p.2 p.1) fun d => Ok (boolD d) fun b => br b (Ok (fb p.2) Q) (Q (.val (.bool false), p.2)) := by simp only [eAnd, Ok_bind, Ok_ite, Ok_some]
@[simp ↓] theorem ok_eor {Q} : Ok (eOr fa fb ρ) Q ↔ Ok (fa ρ) fun p => Ok (rd p.2 p.1) fun d => Ok (boolD d) fun b => br b (Q (.val (.bool true), p.2)) (Ok (fb p.2) Q) := by simp only [eOr, Ok_bind, Ok_ite, Ok_some]
@[simp ↓] theorem ok_enot {Q} : Ok (eNot fa ρ) Q ↔ Ok (fa ρ) fun p => Ok (rd p.2 p.1) fun d => Ok (truD d) fun b => Q (.val (.bool (!b)), p.2) := by simp only [eNot, Ok_bind, Ok_some]
@[simp ↓] theorem ok_isi {T : String} {Q} : Ok (eIsi T fa ρ) Q ↔ Ok (fa ρ) fun p => Ok (rd p.2 p.1) fun d => Ok (isiD T d) fun z => Q (z, p.2) := by simp only [eIsi, Ok_bind, Ok_some]
@[simp ↓] theorem ok_slice {fl fh : PM} {Q} : Ok (eSlice fa fl fh ρ) Q ↔ Ok (fa ρ) fun p => Ok (fl p.2) fun l => Ok (fh l.2) fun h => Ok (rd h.2 p.1) fun d => Ok (slD d l.1 h.1) fun z => Q (z, h.2) := by simp only [eSlice, Ok_bind, Ok_some]
@[simp ↓] theorem ok_pno {Q} : Ok (pNo ρ) Q ↔ Q (none, ρ) := by simp only [pNo, Ok_some]
@[simp ↓] theorem ok_psome {Q} : Ok (pSome fe ρ) Q ↔ Ok (fe ρ) fun p => Ok (rd p.2 p.1) fun d => Ok (intD d) fun i => Q (some i, p.2) := by simp only [pSome, Ok_bind, Ok_some]
/-- a value that is a bool -/
def rvB : RV → Option Bool
  | .val (.bool b) => some b
  | _ => none
@[simp] theorem rvB_b {b : Bool} : rvB (.val (.bool b)) = some b := rfl
@[simp ↓] theorem ok_chain {Q} : Ok (eChain g2 g2' fa fb fc ρ) Q ↔ Ok (fa ρ) fun p => Ok (fb p.2) fun q => Ok (rd q.2 p.1) fun x => Ok (rd q.2 q.1) fun y => Ok (g2 x y) fun z => Ok (rvB z) fun b => br b (Ok (fc q.2) fun r => Ok (rd r.2 q.1) fun y => Ok (rd r.2 r.1) fun w => Ok (g2' y w) fun z => Q (z, r.2)) (Q (.val (.bool false), q.2)) := by
  unfold eChain
  simp only [Ok_bind]
  have h : ∀ (q : RV × En) (z : RV), (Ok (match z with
      | .val (.bool true) => (fc q.2).bind fun r => (rd r.2 q.1).bind fun y => (rd r.2 r.1).bind fun w => (g2' y w).bind fun z => some (z, r.2)
      | .val (.bool false) => some (.val (.bool false), q.2)
      | _ => none) Q) ↔ Ok (rvB z) fun b => br b (Ok (fc q.2) fun r => Ok (rd r.2 q.1) fun y => Ok (rd r.2 r.1) fun w => Ok (g2' y w) fun z => Q (z, r.2)) (Q (.val (.bool false), q.2)) := fun q z => by
    cases z with
    | val d =>
      cases d with
      | bool b => cases b <;> simp only [rvB, Ok_bind, Ok_some, br_t, br_f]
      | _ => simp only [rvB, Ok_none]
    | _ => simp only [rvB, Ok_none]
  exact Ok_congr fun p => Ok_congr fun q => Ok_congr fun x => Ok_congr fun y => Ok_congr fun z => h q z
/-- the items of what is walked -/
def itemsA : DL.D → Option (List DL.D)
  | .list ds => some ds
  | .tuple ds => some ds
  | .dict kvs => some (kvs.map (·.1))
  | _ => none
@[simp] theorem itemsA_l {ds : List DL.D} : itemsA (.list ds) = some ds := rfl
@[simp] theorem itemsA_t {ds : List DL.D} : itemsA (.tuple ds) = some ds := rfl
@[simp ↓] theorem ok_srcAny {Q} : Ok (srcAny fe ρ) Q ↔ Ok (fe ρ) fun p => Ok (fz p.2 p.1) fun q => Ok (itemsA q.1) fun ds => Q (ds, q.2) := by
  unfold srcAny
  simp only [Ok_bind]
  have h : ∀ q : DL.D × En, (Ok (match q.1 with
      | .list ds => some (ds, q.2)
      | .tuple ds => some (ds, q.2)
      | .dict kvs => some (kvs.map (·.1), q.2)
      | _ => none) Q) ↔ Ok (itemsA q.1) fun ds => Q (ds, q.2) := fun q => by
    obtain ⟨d, ρ⟩ := q
    cases d <;> simp only [itemsA, Ok_some, Ok_none]
  exact Ok_congr fun p => Ok_congr h
def one : List Arg → Option DL.D
  | [.d d] => some d
  | _ => none
@[simp] theorem one_d {d : DL.D} : one [.d d] = some d := rfl
@[simp ↓] theorem ok_rng1 {Q} : Ok (srcRng1 fA ρ) Q ↔ Ok (fA ρ) fun p => Ok (one p.1) fun d => Ok (intD d) fun j => (-(2 ^ 62) ≤ j ∧ j < 2 ^ 62) ∧ Q (upto 0 j.toNat, p.2) := by
  unfold srcRng1
  rw [Ok_bind]
  have h : ∀ p : List Arg × En, (Ok (match p.1 with
      | [.d (.int j)] => if -(2 ^ 62) ≤ j ∧ j < 2 ^ 62 then some (upto 0 j.toNat, p.2) else none
      | _ => none) Q) ↔ Ok (one p.1) fun d => Ok (intD d) fun j => (-(2 ^ 62) ≤ j ∧ j < 2 ^ 62) ∧ Q (upto 0 j.toNat, p.2) := fun p => by
    obtain ⟨as, ρ'⟩ := p
    match as with
    | [] => simp only [one, Ok_none]
    | [.d d] =>
      cases d with
      | int j =>
        simp only [one, intD, Ok_some]
        by_cases hj : -(2 ^ 62) ≤ j ∧ j < 2 ^ 62
        · rw [if_pos hj, Ok_some]; exact ⟨fun q => ⟨hj, q⟩, fun q => q.2⟩
        · rw [if_neg hj, Ok_none]; exact ⟨False.elim, fun q => hj q.1⟩
      | _ => simp only [one, intD, Ok_some, Ok_none]
    | [.r i] => simp only [one, Ok_none]
    | [.raw v] => simp only [one, Ok_none]
    | a :: b :: r =>
      cases a with
      | d d => simp only [one, Ok_none]
      | _ => simp only [one, Ok_none]
  exact Ok_congr h
def twoI : List Arg → Option (Int × Int)
  | [.d (.int i), .d (.int j)] => some (i, j)
  | _ => none
@[simp] theorem twoI_d {i j : Int} : twoI [.d (.int i), .d (.int j)] = some (i, j) := rfl
@[simp ↓] theorem ok_rng2 {Q} : Ok (srcRng2 fA ρ) Q ↔ Ok (fA ρ) fun p => Ok (twoI p.1) fun ij => (-(2 ^ 62) ≤ ij.1 ∧ ij.1 < 2 ^ 62 ∧ -(2 ^ 62) ≤ ij.2 ∧ ij.2 < 2 ^ 62) ∧ Q (upto ij.1 (ij.2 - ij.1).toNat, p.2) := by
  unfold srcRng2
  rw [Ok_bind]
  have h : ∀ p : List Arg × En, (Ok (match p.1 with
      | [.d (.int i), .d (.int j)] => if -(2 ^ 62) ≤ i ∧ i < 2 ^ 62 ∧ -(2 ^ 62) ≤ j ∧ j < 2 ^ 62 then some (upto i (j - i).toNat, p.2) else none
      | _ => none) Q) ↔ Ok (twoI p.1) fun ij => (-(2 ^ 62) ≤ ij.1 ∧ ij.1 < 2 ^ 62 ∧ -(2 ^ 62) ≤ ij.2 ∧ ij.2 < 2 ^ 62) ∧ Q (upto ij.1 (ij.2 - ij.1).toNat, p.2) := fun p => by
    unfold twoI
    split
    · rename_i i j _
      rw [Ok_some]
      by_cases hj : -(2 ^ 62) ≤ i ∧ i < 2 ^ 62 ∧ -(2 ^ 62) ≤ j ∧ j < 2 ^ 62
      · rw [if_pos hj, Ok_some]; exact ⟨fun q => ⟨hj, q⟩, fun q => q.2⟩
      · rw [if_neg hj, Ok_none]; exact ⟨False.elim, fun q => hj q.1⟩
    · simp only [Ok_none]
  exact Ok_congr h
def threeI : List Arg → Option (Int × Int × Int)
  | [.d (.int i), .d (.int j), .d (.int c)] => some (i, j, c)
  | _ => none
@[simp] theorem threeI_d {i j c : Int} : threeI [.d (.int i), .d (.int j), .d (.int c)] = some (i, j, c) := rfl
@[simp ↓] theorem ok_rng3 {Q} : Ok (srcRng3 fA ρ) Q ↔ Ok (fA ρ) fun p => Ok (threeI p.1) fun t => (t.2.2 ≠ 0 ∧ t.2.2.natAbs < 1073741824 ∧ Builtin.Range.small t.1 t.2.1 t.2.2 = true ∧ 0 ≤ Builtin.Range.rangeSize t.1 t.2.1 t.2.2) ∧ Q (stepto t.1 t.2.2 (Builtin.Range.rangeSize t.1 t.2.1 t.2.2).toNat, p.2) := by
  unfold srcRng3
  rw [Ok_bind]
  have h : ∀ p : List Arg × En, (Ok (match p.1 with
      | [.d (.int i), .d (.int j), .d (.int c)] => if c ≠ 0 ∧ c.natAbs < 1073741824 ∧ Builtin.Range.small i j c = true ∧ 0 ≤ Builtin.Range.rangeSize i j c then some (stepto i c (Builtin.Range.rangeSize i j c).toNat, p.2) else none
      | _ => none) Q) ↔ Ok (threeI p.1) fun t => (t.2.2 ≠ 0 ∧ t.2.2.natAbs < 1073741824 ∧ Builtin.Range.small t.1 t.2.1 t.2.2 = true ∧ 0 ≤ Builtin.Range.rangeSize t.1 t.2.1 t.2.2) ∧ Q (stepto t.1 t.2.2 (Builtin.Range.rangeSize t.1 t.2.1 t.2.2).toNat, p.2) := fun p => by
    unfold threeI
    split
    · rename_i i j c _
      rw [Ok_some]
      by_cases hj : c ≠ 0 ∧ c.natAbs < 1073741824 ∧ Builtin.Range.small i j c = true ∧ 0 ≤ Builtin.Range.rangeSize i j c
      · rw [if_pos hj, Ok_some]; exact ⟨fun q => ⟨hj, q⟩, fun q => q.2⟩
      · rw [if_neg hj, Ok_none]; exact ⟨False.elim, fun q => hj q.1⟩
    · simp only [Ok_none]
  exact Ok_congr h
def listA : List Arg → Option (List DL.D)
  | [.d (.list ds)] => some ds
  | _ => none
@[simp] theorem listA_d {ds : List DL.D} : listA [.d (.list ds)] = some ds := rfl
@[simp ↓] theorem ok_rev {Q} : Ok (srcRev fA ρ) Q ↔ Ok (fA ρ) fun p => Ok (listA p.1) fun ds => Q (ds.reverse, p.2) := by
  unfold srcRev
  rw [Ok_bind]
  have h : ∀ p : List Arg × En, (Ok (match p.1 with
      | [.d (.list ds)] => some (ds.reverse, p.2)
      | _ => none) Q) ↔ Ok (listA p.1) fun ds => Q (ds.reverse, p.2) := fun p => by
    unfold listA
    split <;> simp only [Ok_some, Ok_none]
  exact Ok_congr h
@[simp ↓] theorem ok_ecomp {src : IM} {tgt : GM} {vs : List Nat} {Q} : Ok (eComp src tgt c fe vs ρ) Q ↔ Ok (src ρ) fun p => (p.1.length ≤ sizeLine ∧ noRefB p.2 vs = true) ∧ Ok (compL tgt c fe vs p.1 (wipeE p.2 vs)) fun q => Q (.own (.lst q.1), mergeE p.2 q.2 vs) := by
  unfold eComp
  rw [Ok_bind]
  have h : ∀ p : List DL.D × En, (Ok (if p.1.length ≤ sizeLine ∧ noRefB p.2 vs = true then (compL tgt c fe vs p.1 (wipeE p.2 vs)).bind fun q => some (RV.own (.lst q.1), mergeE p.2 q.2 vs) else none) Q) ↔ ((p.1.length ≤ sizeLine ∧ noRefB p.2 vs = true) ∧ Ok (compL tgt c fe vs p.1 (wipeE p.2 vs)) fun q => Q (.own (.lst q.1), mergeE p.2 q.2 vs)) := fun p => by
    by_cases h : p.1.length ≤ sizeLine ∧ noRefB p.2 vs = true
    · rw [if_pos h]; simp only [Ok_bind, Ok_some]; exact ⟨fun q => ⟨h, q⟩, fun q => q.2⟩
    · rw [if_neg h, Ok_none]; exact ⟨False.elim, fun q => h q.1⟩
  simp only [h]
@[simp ↓] theorem ok_append {Q} : Ok (eAppend i fe ρ) Q ↔ Ok (lstS ρ i) fun _ => Ok (fe ρ) fun p => Ok (fz p.2 p.1) fun q => Ok (lstS q.2 i) fun ds => ds.length < sizeLine ∧ Q (.val .none, putMO i (.lst (ds ++ [q.1])) q.2) := by
  simp only [eAppend, Ok_bind]
  have h : ∀ (q : DL.D × En) (ds : List DL.D), (Ok (if ds.length < sizeLine then some (RV.val .none, putMO i (.lst (ds ++ [q.1])) q.2) else none) Q) ↔ (ds.length < sizeLine ∧ Q (.val .none, putMO i (.lst (ds ++ [q.1])) q.2)) := fun q ds => by
    by_cases h : ds.length < sizeLine
    · rw [if_pos h, Ok_some]; exact ⟨fun q => ⟨h, q⟩, fun q => q.2⟩
    · rw [if_neg h, Ok_none]; exact ⟨False.elim, fun q => h q.1⟩
  simp only [h]
def lstD : DL.D → Option (List DL.D)
  | .list ds => some ds
  | _ => none
@[simp] theorem lstD_l {ds : List DL.D} : lstD (.list ds) = some ds := rfl
@[simp ↓] theorem ok_extend {Q} : Ok (eExtend i fe ρ) Q ↔ Ok (lstS ρ i) fun _ => Ok (fe ρ) fun p => Ok (rd p.2 p.1) fun d => Ok (lstS p.2 i) fun ds => Ok (lstD d) fun es => ds.length + es.length ≤ sizeLine ∧ Q (.val .none, putMO i (.lst (ds ++ es)) p.2) := by
  simp only [eExtend, Ok_bind]
  have h : ∀ (p : RV × En) (d : DL.D) (ds : List DL.D), (Ok (match d with
      | .list es => if ds.length + es.length ≤ sizeLine then some (RV.val .none, putMO i (.lst (ds ++ es)) p.2) else none
      | _ => none) Q) ↔ Ok (lstD d) fun es => ds.length + es.length ≤ sizeLine ∧ Q (.val .none, putMO i (.lst (ds ++ es)) p.2) := fun p d ds => by
    cases d with
    | list es =>
      simp only [lstD, Ok_some]
      by_cases h : ds.length + es.length ≤ sizeLine
      · rw [if_pos h, Ok_some]; exact ⟨fun q => ⟨h, q⟩, fun q => q.2⟩
      · rw [if_neg h, Ok_none]; exact ⟨False.elim, fun q => h q.1⟩
    | _ => simp only [lstD, Ok_none]
  exact Ok_congr fun _ => Ok_congr fun p => Ok_congr fun d => Ok_congr fun ds => h p d ds
@[simp ↓] theorem ok_pop {Q} : Ok (ePop i ρ) Q ↔ Ok (lstS ρ i) fun ds => Ok (ds[ds.length - 1]?) fun d => Q (.val d, putMO i (.lst ds.dropLast) ρ) := by simp only [ePop, Ok_bind, Ok_some]
@[simp ↓] theorem ok_popAt {Q} : Ok (ePopAt i fe ρ) Q ↔ Ok (lstS ρ i) fun _ => Ok (fe ρ) fun p => Ok (rd p.2 p.1) fun d => Ok (lstS p.2 i) fun ds => Ok (intD d) fun k => (0 ≤ k ∧ k < ds.length ∧ k < 2 ^ 63) ∧ Ok (ds[k.toNat]?) fun d => Q (.val d, putMO i (.lst (ds.eraseIdx k.toNat)) p.2) := by
  simp only [ePopAt, Ok_bind]
  have h : ∀ (p : RV × En) (d : DL.D) (ds : List DL.D), (Ok (match d with
      | .int k => if 0 ≤ k ∧ k < ds.length ∧ k < 2 ^ 63 then (ds[k.toNat]?).bind fun d => some (RV.val d, putMO i (.lst (ds.eraseIdx k.toNat)) p.2) else none
      | _ => none) Q) ↔ Ok (intD d) fun k => (0 ≤ k ∧ k < ds.length ∧ k < 2 ^ 63) ∧ Ok (ds[k.toNat]?) fun d => Q (.val d, putMO i (.lst (ds.eraseIdx k.toNat)) p.2) := fun p d ds => by
    cases d with
    | int k =>
      simp only [intD, Ok_some]
      by_cases h : 0 ≤ k ∧ k < ds.length ∧ k < 2 ^ 63
      · rw [if_pos h]; simp only [Ok_bind, Ok_some]; exact ⟨fun q => ⟨h, q⟩, fun q => q.2⟩
      · rw [if_neg h, Ok_none]; exact ⟨False.elim, fun q => h q.1⟩
    | _ => simp only [intD, Ok_none]
  exact Ok_congr fun _ => Ok_congr fun p => Ok_congr fun d => Ok_congr fun ds => h p d ds
@[simp ↓] theorem ok_gname {d : DL.D} {Q} : Ok (gmName i d ρ) Q ↔ br (isRefB ρ[i]?) False (Q (ρ.set i (some (.val d)))) := by simp only [gmName, Ok_ite, Ok_some, Ok_none]
@[simp ↓] theorem ok_gtup {m : List DL.D → En → Option En} {n : Nat} {ds : List DL.D} {Q} : Ok (gmTup m n (.tuple ds) ρ) Q ↔ ds.length = n ∧ Ok (m ds ρ) Q := by
  simp only [gmTup]
  by_cases h : ds.length = n
  · rw [if_pos h]; exact ⟨fun q => ⟨h, q⟩, fun q => q.2⟩
  · rw [if_neg h, Ok_none]; exact ⟨False.elim, fun q => h q.1⟩
@[simp ↓] theorem ok_gnil {Q} : Ok (gmNil [] ρ) Q ↔ Q ρ := by simp only [gmNil, Ok_some]
@[simp ↓] theorem ok_gcons {m : GM} {n : List DL.D → En → Option En} {d : DL.D} {ds : List DL.D} {Q} : Ok (gmCons m n (d :: ds) ρ) Q ↔ Ok (m d ρ) fun ρ1 => Ok (n ds ρ1) Q := by simp only [gmCons, Ok_bind]
@[simp ↓] theorem ok_gsub {d : DL.D} {fk : EM} {Q} : Ok (gmSub i fk d ρ) Q ↔ Ok (lstS ρ i) fun _ => Ok (fk ρ) fun p => Ok (rd p.2 p.1) fun k => Ok (setAt i d k p.2) Q := by simp only [gmSub, Ok_bind]
@[simp ↓] theorem ok_cyes {Q} : Ok (cYes ρ) Q ↔ Q (true, ρ) := by simp only [cYes, Ok_some]
end
/-! values -/
section
variable {ρ : En} {d e : DL.D} {o : MO} {i : Nat} {k : Int} {v : V}
@[simp] theorem rd_val : rd ρ (.val d) = some d := rfl
@[simp] theorem rd_own : rd ρ (.own o) = some o.toD := rfl
@[simp] theorem rd_slot : rd ρ (.slot i) = rdS ρ i := rfl
theorem rdS_eq : rdS ρ i = match ρ[i]? with
  | some (some c) => rdC c
  | _ => none := rfl
@[simp] theorem rdC_val : rdC (.val d) = some d := rfl
@[simp] theorem rdC_own : rdC (.own o) = some o.toD := rfl
@[simp] theorem rdC_ref : rdC (.ref o) = some o.toD := rfl
@[simp] theorem toD_lst {ds : List DL.D} : MO.toD (.lst ds) = .list ds := rfl
@[simp] theorem fz_val : fz ρ (.val d) = some (d, ρ) := rfl
@[simp] theorem fz_own : fz ρ (.own o) = some (o.toD, ρ) := rfl
@[simp] theorem fz_slot : fz ρ (.slot i) = fzS ρ i := rfl
theorem fzS_eq : fzS ρ i = match ρ[i]? with
  | some (some (.val d)) => some (d, ρ)
  | some (some (.own o)) => some (o.toD, ρ.set i (some (.val o.toD)))
  | _ => none := rfl
theorem asg_eq {r : RV} : asg i r ρ = if isRefB ρ[i]? then none else match r with
  | .val d => some (ρ.set i (some (.val d)))
  | .own o => some (ρ.set i (some (.own o)))
  | .raw v => some (ρ.set i (some (.raw v)))
  | .slot j => asgS i j ρ := rfl
theorem asgS_eq {j : Nat} : asgS i j ρ = match ρ[j]? with
  | some (some (.val d)) => some (ρ.set i (some (.val d)))
  | some (some (.raw v)) => some (ρ.set i (some (.raw v)))
  | some (some (.own o)) => if i = j then some ρ else some ((ρ.set j (some (.val o.toD))).set i (some (.val o.toD)))
  | _ => none := rfl
@[simp] theorem ret_val : ret (.val d) ρ = some (.rt (.val d) ρ) := rfl
@[simp] theorem ret_own : ret (.own o) ρ = some (.rt (.own o) ρ) := rfl
@[simp] theorem ret_slot : ret (.slot i) ρ = retS i ρ := rfl
theorem retS_eq : retS i ρ = match ρ[i]? with
  | some (some (.val d)) => some (.rt (.val d) ρ)
  | some (some (.own o)) => some (.rt (.own o) ρ)
  | _ => none := rfl
@[simp] theorem isRefB_val : isRefB (some (some (.val d))) = false := rfl
@[simp] theorem isRefB_own : isRefB (some (some (.own o))) = false := rfl
@[simp] theorem isRefB_ref : isRefB (some (some (.ref o))) = true := rfl
@[simp] theorem isRefB_raw : isRefB (some (some (.raw v))) = false := rfl
@[simp] theorem isRefB_no : isRefB (some none) = false := rfl
theorem lstS_eq : lstS ρ i = match ρ[i]? with
  | some (some (.own (.lst ds))) => some ds
  | some (some (.ref (.lst ds))) => some ds
  | _ => none := rfl
theorem setAt_int : setAt i d (.int k) ρ = (lstS ρ i).bind fun ds => (ixN ds.length k).bind fun j => some (putMO i (.lst (ds.set j d)) ρ) := rfl
@[simp] theorem putMO_eq : putMO i o ρ = ρ.set i (putC o ρ[i]?) := rfl
@[simp] theorem putC_o {o' : MO} : putC o (some (some (.own o'))) = some (.own o) := rfl
@[simp] theorem putC_r {o' : MO} : putC o (some (some (.ref o'))) = some (.ref o) := rfl
@[simp] theorem cellsOf_nil : cellsOf ρ [] = some [] := rfl
@[simp] theorem cellsOf_cons {a : Arg} {as : List Arg} : cellsOf ρ (a :: as) = (cellOf ρ a).bind fun c => (cellsOf ρ as).bind fun cs => some (c :: cs) := rfl
@[simp] theorem cellOf_d : cellOf ρ (.d d) = some (.val d) := rfl
@[simp] theorem cellOf_r : cellOf ρ (.r i) = cellS ρ i := rfl
theorem cellS_eq : cellS ρ i = match ρ[i]? with
  | some (some (.own o)) => some (.ref o)
  | some (some (.ref o)) => some (.ref o)
  | _ => none := rfl
@[simp] theorem argsD_nil : argsD [] = some [] := rfl
@[simp] theorem argsD_cons {as : List Arg} : argsD (.d d :: as) = (argsD as).bind fun ds => some (d :: ds) := rfl
@[simp] theorem back_nil {cs : List Cell} : back [] cs ρ = ρ := rfl
@[simp] theorem back_d {as : List Arg} {c : Cell} {cs : List Cell} : back (.d d :: as) (c :: cs) ρ = back as cs ρ := by cases c <;> rfl
@[simp] theorem back_r {as : List Arg} {cs : List Cell} : back (.r i :: as) (.ref o :: cs) ρ = back as cs (putMO i o ρ) := rfl
@[simp] theorem toRV_val : toRV (.val d) = .val d := rfl
@[simp] theorem toRV_own : toRV (.own o) = .own o := rfl
@[simp] theorem nod_nil : nodupB (refIx []) = true := rfl
@[simp] theorem refIx_d {as : List Arg} : refIx (.d d :: as) = refIx as := rfl
@[simp] theorem refIx_r {as : List Arg} : refIx (.r i :: as) = i :: refIx as := rfl
@[simp] theorem refIx_nil : refIx [] = [] := rfl
@[simp] theorem nod_one : nodupB [i] = true := rfl
@[simp] theorem nod_0 : nodupB [] = true := rfl
@[simp] theorem boolD_b {b : Bool} : boolD (.bool b) = some b := rfl
@[simp] theorem truD_b {b : Bool} : truD (.bool b) = some b := rfl
@[simp] theorem truD_i : truD (.int k) = some (k != 0) := rfl
@[simp] theorem truD_l {ds : List DL.D} : truD (.list ds) = some (!ds.isEmpty) := rfl
@[simp] theorem truD_t {ds : List DL.D} : truD (.tuple ds) = some (!ds.isEmpty) := rfl
@[simp] theorem intD_i : intD (.int k) = some k := rfl
@[simp] theorem wipe_nil : wipeE ρ [] = ρ := rfl
@[simp] theorem wipe_cons {vs : List Nat} : wipeE ρ (i :: vs) = (wipeE ρ vs).set i none := rfl
@[simp] theorem merge_nil {ρn : En} : mergeE ρ ρn [] = ρn := rfl
@[simp] theorem merge_cons {ρn : En} {vs : List Nat} : mergeE ρ ρn (i :: vs) = (mergeE ρ ρn vs).set i (keepC ρ[i]?) := rfl
@[simp] theorem keep_no : keepC (some none) = none := rfl
@[simp] theorem keep_val : keepC (some (some (.val d))) = some (.val d) := rfl
@[simp] theorem keep_own : keepC (some (some (.own o))) = none := rfl
@[simp] theorem noRef_nil : noRefB ρ [] = true := rfl
@[simp] theorem noRef_cons {vs : List Nat} : noRefB ρ (i :: vs) = (!isRefB ρ[i]? && noRefB ρ vs) := rfl
end
/-! slots of a written list of cells -/
section
variable {ρ : En} {d : DL.D} {o : MO} {i j : Nat} {v : V} {c : Option Cell} {ds : List DL.D}
@[simp ↓] theorem rdS_s {Q} : Ok (rdS (c :: ρ) (i + 1)) Q ↔ Ok (rdS ρ i) Q := Iff.rfl
@[simp ↓] theorem rdS_v {Q} : Ok (rdS (some (.val d) :: ρ) 0) Q ↔ Q d := Ok_some
@[simp ↓] theorem rdS_o {Q} : Ok (rdS (some (.own o) :: ρ) 0) Q ↔ Q o.toD := Ok_some
@[simp ↓] theorem rdS_r {Q} : Ok (rdS (some (.ref o) :: ρ) 0) Q ↔ Q o.toD := Ok_some
@[simp ↓] theorem lstS_s {Q} : Ok (lstS (c :: ρ) (i + 1)) Q ↔ Ok (lstS ρ i) Q := Iff.rfl
@[simp ↓] theorem lstS_o {Q} : Ok (lstS (some (.own (.lst ds)) :: ρ) 0) Q ↔ Q ds := Ok_some
@[simp ↓] theorem lstS_r {Q} : Ok (lstS (some (.ref (.lst ds)) :: ρ) 0) Q ↔ Q ds := Ok_some
@[simp ↓] theorem cellS_s {Q} : Ok (cellS (c :: ρ) (i + 1)) Q ↔ Ok (cellS ρ i) Q := Iff.rfl
@[simp ↓] theorem cellS_o {Q} : Ok (cellS (some (.own o) :: ρ) 0) Q ↔ Q (.ref o) := Ok_some
@[simp ↓] theorem cellS_r {Q} : Ok (cellS (some (.ref o) :: ρ) 0) Q ↔ Q (.ref o) := Ok_some
/-- the cell that is frozen, for slot i of the whole -/
theorem fzS_v {Q : DL.D × En → Prop} (h : ρ[i]? = some (some (.val d))) : Ok (fzS ρ i) Q ↔ Q (d, ρ) := by unfold fzS; rw [h]; exact Ok_some
def fzQ (ρ : En) (i : Nat) (c : Option (Option Cell)) (Q : DL.D × En → Prop) : Prop := Ok (match c with
  | some (some (.val d)) => some (d, ρ)
  | some (some (.own o)) => some (o.toD, ρ.set i (some (.val o.toD)))
  | _ => none) Q
@[simp ↓] theorem ok_fzS {Q} : Ok (fzS ρ i) Q ↔ fzQ ρ i ρ[i]? Q := Iff.rfl
@[simp] theorem fzQ_v {Q} : fzQ ρ i (some (some (.val d))) Q ↔ Q (d, ρ) := Ok_some
@[simp] theorem fzQ_o {Q} : fzQ ρ i (some (some (.own o))) Q ↔ Q (o.toD, ρ.set i (some (.val o.toD))) := Ok_some
def retQ (ρ : En) (c : Option (Option Cell)) (Q : Out → Prop) : Prop := Ok (match c with
  | some (some (.val d)) => some (Out.rt (.val d) ρ)
  | some (some (.own o)) => some (.rt (.own o) ρ)
  | _ => none) Q
@[simp ↓] theorem ok_retS {Q} : Ok (retS i ρ) Q ↔ retQ ρ ρ[i]? Q := Iff.rfl
@[simp] theorem retQ_v {Q} : retQ ρ (some (some (.val d))) Q ↔ Q (.rt (.val d) ρ) := Ok_some
@[simp] theorem retQ_o {Q} : retQ ρ (some (some (.own o))) Q ↔ Q (.rt (.own o) ρ) := Ok_some
def asgQ (i j : Nat) (ρ : En) (c : Option (Option Cell)) (Q : En → Prop) : Prop := Ok (match c with
  | some (some (.val d)) => some (ρ.set i (some (.val d)))
  | some (some (.raw v)) => some (ρ.set i (some (.raw v)))
  | some (some (.own o)) => if i = j then some ρ else some ((ρ.set j (some (.val o.toD))).set i (some (.val o.toD)))
  | _ => none) Q
@[simp] theorem asgQ_v {Q} : asgQ i j ρ (some (some (.val d))) Q ↔ Q (ρ.set i (some (.val d))) := Ok_some
@[simp] theorem asgQ_o {Q} : asgQ i j ρ (some (some (.own o))) Q ↔ (i = j ∧ Q ρ) ∨ (i ≠ j ∧ Q ((ρ.set j (some (.val o.toD))).set i (some (.val o.toD)))) := by
  unfold asgQ
  by_cases h : i = j
  · simp [h]
  · simp [h]
@[simp ↓] theorem asg_v {Q} : Ok (asg i (.val d) ρ) Q ↔ br (isRefB ρ[i]?) False (Q (ρ.set i (some (.val d)))) := by simp only [asg, Ok_ite, Ok_some, Ok_none]
@[simp ↓] theorem asg_o {Q} : Ok (asg i (.own o) ρ) Q ↔ br (isRefB ρ[i]?) False (Q (ρ.set i (some (.own o)))) := by simp only [asg, Ok_ite, Ok_some, Ok_none]
@[simp ↓] theorem asg_s {Q} : Ok (asg i (.slot j) ρ) Q ↔ br (isRefB ρ[i]?) False (asgQ i j ρ ρ[j]? Q) := by
  simp only [asg, Ok_ite, Ok_none]
  exact Iff.rfl
@[simp ↓] theorem ok_setAt {k : Int} {Q} : Ok (setAt i d (.int k) ρ) Q ↔ Ok (lstS ρ i) fun ds => Ok (ixN ds.length k) fun j => Q (putMO i (.lst (ds.set j d)) ρ) := by simp only [setAt, Ok_bind, Ok_some]
end
/-! operators -/
section
variable {i j : Int} {x y : Str} {b b' : Bool} {xs ys : List DL.D}
@[simp] theorem addD_i : addD (.int i) (.int j) = some (.val (.int (i + j))) := rfl
@[simp] theorem addD_t : addD (.tuple xs) (.tuple ys) = if xs.length + ys.length ≤ sizeLine then some (.val (.tuple (xs ++ ys))) else none := rfl
@[simp] theorem addD_l : addD (.list xs) (.list ys) = if xs.length + ys.length ≤ sizeLine then some (.own (.lst (xs ++ ys))) else none := rfl
@[simp] theorem addAD_i : addAD (.int i) (.int j) = some (.val (.int (i + j))) := rfl
@[simp] theorem subD_i : subD (.int i) (.int j) = some (.val (.int (i - j))) := rfl
@[simp] theorem mulB_iff : mulB i j = true ↔ ((-(2 ^ 64) < i ∧ i < 2 ^ 64) ∨ (-(2 ^ 64) < j ∧ j < 2 ^ 64)) := decide_eq_true_iff
@[simp] theorem fdivB_iff : fdivB i j = true ↔ (0 < j ∧ j.natAbs.log2 < 9000) := decide_eq_true_iff
@[simp] theorem modB_iff : modB i j = true ↔ 0 < j := decide_eq_true_iff
@[simp] theorem shlB_iff : shlB i j = true ↔ (0 ≤ j ∧ j ≤ 1000000 ∧ i.natAbs < 2 ^ 64) := decide_eq_true_iff
@[simp] theorem shrB_iff : shrB i j = true ↔ 0 ≤ j := decide_eq_true_iff
@[simp] theorem mulI_i : mulI (.int i) (.int j) = if mulB i j = true then some (.val (.int (i * j))) else none := rfl
@[simp] theorem fdivD_i : fdivD (.int i) (.int j) = if fdivB i j = true then some (.val (.int (i / j))) else none := rfl
@[simp] theorem modD_i : modD (.int i) (.int j) = if modB i j = true then some (.val (.int (i % j))) else none := rfl
@[simp] theorem shlD_i : shlD (.int i) (.int j) = if shlB i j = true then some (.val (.int (i * 2 ^ j.toNat))) else none := rfl
@[simp] theorem shrD_i : shrD (.int i) (.int j) = if shrB i j = true then some (.val (.int (i / 2 ^ j.toNat))) else none := rfl
@[simp] theorem andD_i : andD (.int i) (.int j) = some (.val (.int (Builtin.bitAnd i j))) := rfl
@[simp] theorem orD_i : orD (.int i) (.int j) = some (.val (.int (Builtin.bitOr i j))) := rfl
@[simp] theorem xorD_i : xorD (.int i) (.int j) = some (.val (.int (Builtin.bitXor i j))) := rfl
@[simp] theorem negD_i : negD (.int i) = some (.val (.int (-i))) := rfl
@[simp] theorem ltD_i : ltD (.int i) (.int j) = some (.val (.bool (decide (i < j)))) := rfl
@[simp] theorem leD_i : leD (.int i) (.int j) = some (.val (.bool (decide (i ≤ j)))) := rfl
@[simp] theorem gtD_i : gtD (.int i) (.int j) = some (.val (.bool (decide (j < i)))) := rfl
@[simp] theorem geD_i : geD (.int i) (.int j) = some (.val (.bool (decide (j ≤ i)))) := rfl
@[simp] theorem eqD_i : eqD (.int i) (.int j) = some (.val (.bool (i == j))) := rfl
@[simp] theorem neD_i : neD (.int i) (.int j) = some (.val (.bool (!(i == j)))) := rfl
@[simp] theorem eqD_b : eqD (.bool b) (.bool b') = some (.val (.bool (b == b'))) := rfl
@[simp] theorem neD_b : neD (.bool b) (.bool b') = some (.val (.bool (!(b == b')))) := rfl
@[simp] theorem isD_n {d : DL.D} : isD d .none = some (.val (.bool (isNoneD d))) := rfl
@[simp] theorem isntD_n {d : DL.D} : isntD d .none = some (.val (.bool (!isNoneD d))) := rfl
@[simp] theorem isD_b : isD (.bool b) (.bool b') = some (.val (.bool (decide (b = b')))) := rfl
@[simp] theorem isntD_b : isntD (.bool b) (.bool b') = some (.val (.bool (!decide (b = b')))) := rfl
@[simp] theorem idxD_l : idxD (.list xs) (.int i) = (atI xs i).bind fun x => some (.val x) := rfl
@[simp] theorem idxD_t : idxD (.tuple xs) (.int i) = (atI xs i).bind fun x => some (.val x) := rfl
@[simp] theorem lenD_l : lenD (.list xs) = some (.val (.int (xs.length : Nat))) := rfl
@[simp] theorem lenD_t : lenD (.tuple xs) = some (.val (.int (xs.length : Nat))) := rfl
@[simp] theorem max2D_i : max2D (.int i) (.int j) = some (.val (.int (if j > i then j else i))) := rfl
@[simp] theorem min2D_i : min2D (.int i) (.int j) = some (.val (.int (if j < i then j else i))) := rfl
@[simp] theorem absD_i : absD (.int i) = some (.val (.int (if i < 0 then -i else i))) := rfl
@[simp] theorem intOfD_i : intOfD (.int i) = some (.val (.int i)) := rfl
@[simp] theorem intOfD_b : intOfD (.bool b) = some (.val (.int (if b then 1 else 0))) := rfl
@[simp] theorem listD_l : listD (.list xs) = some (.own (.lst xs)) := rfl
@[simp] theorem listD_t : listD (.tuple xs) = some (.own (.lst xs)) := rfl
@[simp] theorem tupleD_l : tupleD (.list xs) = some (.val (.tuple xs)) := rfl
@[simp] theorem tupleD_t : tupleD (.tuple xs) = some (.val (.tuple xs)) := rfl
theorem isi_of {T a : String} {d : DL.D} {b : Bool} (e : tyN d = some a) (h : kitB a T = some b) : isiD T d = some (.val (.bool b)) := by
  unfold isiD
  rw [e]
  show (kitB a T).bind _ = _
  rw [h]
  rfl
@[simp] theorem isi_int_i : isiD "int" (.int i) = some (.val (.bool true)) := isi_of rfl (by decide +kernel)
@[simp] theorem isi_int_b : isiD "int" (.bool b) = some (.val (.bool true)) := isi_of rfl (by decide +kernel)
@[simp] theorem isi_int_t : isiD "int" (.tuple xs) = some (.val (.bool false)) := isi_of rfl (by decide +kernel)
@[simp] theorem isi_int_n : isiD "int" .none = some (.val (.bool false)) := isi_of rfl (by decide +kernel)
@[simp] theorem isi_int_s : isiD "int" (.str x) = some (.val (.bool false)) := isi_of rfl (by decide +kernel)
@[simp] theorem isi_bool_i : isiD "bool" (.int i) = some (.val (.bool false)) := isi_of rfl (by decide +kernel)
@[simp] theorem isi_bool_b : isiD "bool" (.bool b) = some (.val (.bool true)) := isi_of rfl (by decide +kernel)
@[simp] theorem isi_bool_t : isiD "bool" (.tuple xs) = some (.val (.bool false)) := isi_of rfl (by decide +kernel)
@[simp] theorem isi_bool_n : isiD "bool" .none = some (.val (.bool false)) := isi_of rfl (by decide +kernel)
@[simp] theorem isi_bool_s : isiD "bool" (.str x) = some (.val (.bool false)) := isi_of rfl (by decide +kernel)
@[simp] theorem isi_tuple_t : isiD "tuple" (.tuple xs) = some (.val (.bool true)) := isi_of rfl (by decide +kernel)
@[simp] theorem isi_tuple_i : isiD "tuple" (.int i) = some (.val (.bool false)) := isi_of rfl (by decide +kernel)
@[simp] theorem isi_tuple_b : isiD "tuple" (.bool b) = some (.val (.bool false)) := isi_of rfl (by decide +kernel)
@[simp] theorem isi_tuple_n : isiD "tuple" .none = some (.val (.bool false)) := isi_of rfl (by decide +kernel)
@[simp] theorem isi_tuple_s : isiD "tuple" (.str x) = some (.val (.bool false)) := isi_of rfl (by decide +kernel)
@[simp] theorem isi_tuple_l : isiD "tuple" (.list xs) = some (.val (.bool false)) := isi_of rfl (by decide +kernel)
@[simp] theorem slD_l {lo hi : Option Int} : slD (.list xs) lo hi = some (.own (.lst (cutD xs lo hi))) := rfl
@[simp] theorem slD_t {lo hi : Option Int} : slD (.tuple xs) lo hi = some (.val (.tuple (cutD xs lo hi))) := rfl
end
theorem atI_lt {α : Type} {xs : List α} {i : Int} {x : α} (h0 : 0 ≤ i) (h : xs[i.toNat]? = some x) : atI xs i = some x := by
  have : ((i.toNat : Nat) : Int) = i := Int.toNat_of_nonneg h0
  rw [← this]
  exact atI_nat h
@[simp] theorem sl_val : sizeLine = 16777216 := sizeLine_eq
theorem sl_pos : (0 : Nat) ≤ sizeLine := Nat.zero_le _
theorem sl_big {n : Nat} (h : n ≤ 16777216) : n ≤ sizeLine := by rw [sizeLine_eq]; exact h
theorem sl_lt {n : Nat} (h : n < 16777216) : n < sizeLine := by rw [sizeLine_eq]; exact h

/-! letters -/
theorem mapNat_inj : ∀ {a b : List Char}, a.map Char.toNat = b.map Char.toNat → a = b
  | [], [], _ => rfl
  | [], _ :: _, h => nomatch h
  | _ :: _, [], h => nomatch h
  | x :: a, y :: b, h => by
    rw [List.map_cons, List.map_cons] at h
    injection h with h1 h2
    rw [mapNat_inj h2, Char.toNat_inj.mp h1]
theorem ofString_inj {a b : String} (h : Str.ofString a = Str.ofString b) : a = b := by
  rw [Str.ofString_eq_toList, Str.ofString_eq_toList] at h
  injection h with h
  have h := congrArg Array.toList h
  exact String.toList_inj.mp (mapNat_inj h)
@[simp] theorem ofString_beq {a b : String} : (Str.ofString a == Str.ofString b) = (a == b) := by
  by_cases h : a = b
  · subst h; simp
  · rw [beq_eq_false_iff_ne.mpr h, beq_eq_false_iff_ne.mpr fun e => h (ofString_inj e)]
@[simp] theorem strOk_lit {a : String} : PyData.strOk (Str.ofString a) = true := by
  rw [Str.ofString_eq_toList]
  unfold PyData.strOk
  rw [Array.all_eq_true]
  intro i h
  simp only [List.getElem_toArray, List.getElem_map, decide_eq_true_eq]
  have := (a.toList[i]'(by simpa using h)).valid
  unfold UInt32.isValidChar Nat.isValidChar at this
  show (a.toList[i]'(by simpa using h)).val.toNat < 1114112
  omega
@[simp] theorem eqD_lit {a b : String} : eqD (.str (Str.ofString a)) (.str (Str.ofString b)) = some (.val (.bool (a == b))) := by
  unfold eqD
  simp [SeqAt.shaped, PyData.eqv, PyData.canLay0, PyData.depth]
@[simp] theorem neD_lit {a b : String} : neD (.str (Str.ofString a)) (.str (Str.ofString b)) = some (.val (.bool (!(a == b)))) := by
  unfold neD
  simp [SeqAt.shaped, PyData.eqv, PyData.canLay0, PyData.depth]
@[simp] theorem inD_l {d : DL.D} {xs : List DL.D} : inD d (.list xs) = if flatD d = true ∧ xs.all flatD = true then some (.val (.bool (xs.any fun y => PyData.eqv y d))) else none := rfl
@[simp] theorem inD_t {d : DL.D} {xs : List DL.D} : inD d (.tuple xs) = if flatD d = true ∧ xs.all flatD = true then some (.val (.bool (xs.any fun y => PyData.eqv y d))) else none := rfl
@[simp] theorem notInD_l {d : DL.D} {xs : List DL.D} : notInD d (.list xs) = if flatD d = true ∧ xs.all flatD = true then some (.val (.bool (!xs.any fun y => PyData.eqv y d))) else none := rfl
@[simp] theorem notInD_t {d : DL.D} {xs : List DL.D} : notInD d (.tuple xs) = if flatD d = true ∧ xs.all flatD = true then some (.val (.bool (!xs.any fun y => PyData.eqv y d))) else none := rfl
@[simp] theorem flat_i {i : Int} : flatD (.int i) = true := rfl
@[simp] theorem flat_b {b : Bool} : flatD (.bool b) = true := rfl
@[simp] theorem flat_s {s : Str} : flatD (.str s) = true := rfl
@[simp] theorem flat_n : flatD .none = true := rfl
@[simp] theorem eqv_ii {i j : Int} : PyData.eqv (.int i) (.int j) = (i == j) := by simp [PyData.eqv]
@[simp] theorem eqv_bb {i j : Bool} : PyData.eqv (.bool i) (.bool j) = (i == j) := by simp [PyData.eqv]
@[simp] theorem eqv_ss {i j : Str} : PyData.eqv (.str i) (.str j) = (i == j) := by simp [PyData.eqv]
theorem Ok.eq {α : Type} {x : Option α} {a : α} (h : Ok x fun r => r = a) : x = some a := by
  obtain ⟨b, e, rfl⟩ := h
  exact e

/-! ### loops -/
theorem ok_forL {tgt : GM} {body : SM} (I : Nat → En → Prop) {Q : Out → Prop} : ∀ (ds : List DL.D) (k : Nat) (ρ : En), I k ρ →
    (∀ i d ρ, ds[i]? = some d → I (k + i) ρ → Ok ((tgt d ρ).bind body) fun o => match o with
      | .nx ρ' => I (k + i + 1) ρ'
      | .ct ρ' => I (k + i + 1) ρ'
      | .bk ρ' => Q (.nx ρ')
      | .rt c ρ' => Q (.rt c ρ')) → (∀ ρ, I (k + ds.length) ρ → Q (.nx ρ)) → Ok (forL tgt body ds ρ) Q
  | [], k, ρ, h0, _, hd => by
    show Ok (some (Out.nx ρ)) Q
    rw [Ok_some]
    exact hd ρ h0
  | d :: ds, k, ρ, h0, hs, hd => by
    show Ok ((tgt d ρ).bind fun ρ1 => (body ρ1).bind fun o => turnO o (forL tgt body ds)) Q
    have h := hs 0 d ρ rfl h0
    rw [Ok_bind] at h ⊢
    refine h.mono fun ρ1 h => ?_
    rw [Ok_bind]
    refine h.mono fun o h => ?_
    have go : ∀ ρ', I (k + 1) ρ' → Ok (forL tgt body ds ρ') Q := fun ρ' hi =>
      ok_forL I ds (k + 1) ρ' hi (fun i d ρ e hI => by
        have := hs (i + 1) d ρ (by simpa using e) (by rw [show k + (i + 1) = k + 1 + i by omega]; exact hI)
        rw [show k + (i + 1) = k + 1 + i by omega] at this
        exact this) (fun ρ h => hd ρ (by rw [show k + (d :: ds).length = k + 1 + ds.length by rw [List.length_cons]; omega]; exact h))
    cases o with
    | nx ρ' => exact go ρ' h
    | ct ρ' => exact go ρ' h
    | bk ρ' => exact Ok_some.mpr h
    | rt c ρ' => exact Ok_some.mpr h
theorem ok_for {tgt : GM} {body : SM} {ds : List DL.D} {ρ : En} {Q : Out → Prop} (I : Nat → En → Prop) (h0 : I 0 ρ)
    (hs : ∀ i d ρ, ds[i]? = some d → I i ρ → Ok ((tgt d ρ).bind body) fun o => match o with
      | .nx ρ' => I (i + 1) ρ'
      | .ct ρ' => I (i + 1) ρ'
      | .bk ρ' => Q (.nx ρ')
      | .rt c ρ' => Q (.rt c ρ')) (hd : ∀ ρ, I ds.length ρ → Q (.nx ρ)) : Ok (forL tgt body ds ρ) Q :=
  ok_forL I ds 0 ρ h0 (fun i d ρ e h => by rw [Nat.zero_add] at h ⊢; exact hs i d ρ e h) (fun ρ h => hd ρ (by rw [Nat.zero_add] at h; exact h))
/-- a comprehension: the items so far, the state -/
theorem ok_compL {tgt : GM} {c : TM} {fe : EM} {vs : List Nat} (I : Nat → List DL.D → En → Prop) {Q : List DL.D × En → Prop} : ∀ (ds : List DL.D) (k : Nat) (acc : List DL.D) (ρ : En), I k acc ρ →
    (∀ i d acc ρ, ds[i]? = some d → I (k + i) acc ρ → Ok ((tgt d ρ).bind c) fun p => if p.1 = true then Ok (fe p.2) fun q => Ok (fz q.2 q.1) fun s => I (k + i + 1) (acc ++ [s.1]) (wipeE s.2 vs) else I (k + i + 1) acc (wipeE p.2 vs)) →
    (∀ rest ρ, I (k + ds.length) (acc ++ rest) ρ → Q (rest, ρ)) → Ok (compL tgt c fe vs ds ρ) Q
  | [], k, acc, ρ, h0, _, hd => by
    show Ok (some (([] : List DL.D), ρ)) Q
    rw [Ok_some]
    exact hd [] ρ (by rw [List.append_nil]; exact h0)
  | d :: ds, k, acc, ρ, h0, hs, hd => by
    have h := hs 0 d acc ρ rfl h0
    unfold compL
    rw [Ok_bind] at h ⊢
    refine h.mono fun ρ1 h => ?_
    rw [Ok_bind]
    refine h.mono fun p h => ?_
    have go : ∀ acc' ρ', I (k + 1) acc' ρ' → ∀ Q', (∀ rest ρ, I (k + 1 + ds.length) (acc' ++ rest) ρ → Q' (rest, ρ)) → Ok (compL tgt c fe vs ds ρ') Q' := fun acc' ρ' hi Q' hq =>
      ok_compL I ds (k + 1) acc' ρ' hi (fun i d acc ρ e hI => by
        have := hs (i + 1) d acc ρ (by simpa using e) (by rw [show k + (i + 1) = k + 1 + i by omega]; exact hI)
        rw [show k + (i + 1) = k + 1 + i by omega] at this
        exact this) hq
    have len : k + (d :: ds).length = k + 1 + ds.length := by rw [List.length_cons]; omega
    by_cases hp : p.1 = true
    · rw [if_pos hp] at h ⊢
      rw [Ok_bind]
      refine h.mono fun q h => ?_
      rw [Ok_bind]
      refine h.mono fun s h => ?_
      rw [Ok_bind]
      refine go _ _ h _ fun rest ρ hr => ?_
      rw [Ok_some]
      refine hd _ ρ ?_
      rw [len]
      rw [List.append_assoc] at hr
      exact hr
    · rw [if_neg hp] at h ⊢
      exact go _ _ h _ fun rest ρ hr => hd rest ρ (by rw [len]; exact hr)
theorem ok_comp {tgt : GM} {c : TM} {fe : EM} {vs : List Nat} {ds : List DL.D} {ρ : En} {Q : List DL.D × En → Prop} (I : Nat → List DL.D → En → Prop) (h0 : I 0 [] ρ)
    (hs : ∀ i d acc ρ, ds[i]? = some d → I i acc ρ → Ok ((tgt d ρ).bind c) fun p => if p.1 = true then Ok (fe p.2) fun q => Ok (fz q.2 q.1) fun s => I (i + 1) (acc ++ [s.1]) (wipeE s.2 vs) else I (i + 1) acc (wipeE p.2 vs))
    (hd : ∀ rest ρ, I ds.length rest ρ → Q (rest, ρ)) : Ok (compL tgt c fe vs ds ρ) Q :=
  ok_compL I ds 0 [] ρ h0 (fun i d acc ρ e h => by rw [Nat.zero_add] at h ⊢; exact hs i d acc ρ e h) (fun rest ρ h => hd rest ρ (by rw [Nat.zero_add, List.nil_append] at h; exact h))
/-- a while by a measure -/
theorem ok_while {c : TM} {body : SM} {Q : Out → Prop} (I : En → Prop) (m : En → Nat) (hs : ∀ ρ, I ρ → Ok (c ρ) fun p => if p.1 = true then Ok (body p.2) fun o => match o with
      | .nx ρ' => I ρ' ∧ m ρ' < m ρ
      | .ct ρ' => I ρ' ∧ m ρ' < m ρ
      | .bk ρ' => Q (.nx ρ')
      | .rt c ρ' => Q (.rt c ρ') else Q (.nx p.2)) : ∀ (n : Nat) (ρ : En), m ρ ≤ n → I ρ → Ok (sWhile c body ρ) Q := by
  intro n
  induction n with
  | zero =>
    intro ρ hm hI
    rw [sWhile_eq, Ok_bind]
    refine (hs ρ hI).mono fun p h => ?_
    by_cases hp : p.1 = true
    · rw [if_pos hp] at h ⊢
      rw [Ok_bind]
      refine h.mono fun o h => ?_
      cases o with
      | nx ρ' => exact absurd h.2 (by omega)
      | ct ρ' => exact absurd h.2 (by omega)
      | bk ρ' => exact Ok_some.mpr h
      | rt c ρ' => exact Ok_some.mpr h
    · rw [if_neg hp] at h ⊢
      exact Ok_some.mpr h
  | succ n ih =>
    intro ρ hm hI
    rw [sWhile_eq, Ok_bind]
    refine (hs ρ hI).mono fun p h => ?_
    by_cases hp : p.1 = true
    · rw [if_pos hp] at h ⊢
      rw [Ok_bind]
      refine h.mono fun o h => ?_
      cases o with
      | nx ρ' => exact ih ρ' (by omega) h.1
      | ct ρ' => exact ih ρ' (by omega) h.1
      | bk ρ' => exact Ok_some.mpr h
      | rt c ρ' => exact Ok_some.mpr h
    · rw [if_neg hp] at h ⊢
      exact Ok_some.mpr h
/-- a def -/
theorem ok_fn {np nl : Nat} {body : SM} {cs : List Cell} {Q : Cell × List Cell → Prop} (hl : cs.length = np) (h : Ok (body (cs.map some ++ List.replicate nl none)) fun o => Ok (finO cs o) Q) : Ok (fnSem np nl body cs) Q := by
  unfold fnSem
  rw [if_pos hl, Ok_bind]
  exact h
@[simp] theorem fin_nx {cs : List Cell} {ρ : En} : finO cs (.nx ρ) = some (.val .none, outs cs ρ) := rfl
@[simp] theorem fin_rt {cs : List Cell} {ρ : En} {c : Cell} : finO cs (.rt c ρ) = some (c, outs cs ρ) := rfl
@[simp] theorem outs_nil {ρ : En} : outs [] ρ = [] := rfl
@[simp] theorem outs_ref {cs : List Cell} {o : MO} {c : Cell} {ρ : En} : outs (.ref o :: cs) (some c :: ρ) = c :: outs cs ρ := rfl
@[simp] theorem outs_val {cs : List Cell} {d : DL.D} {c : Option Cell} {ρ : En} : outs (.val d :: cs) (c :: ρ) = .val d :: outs cs ρ := rfl
end DL

/-! what the laws share: their draw -/
namespace DL
open PySem PySem.Spec PyProof.Rows L2
@[simp] theorem upto_len {lo : Int} {n : Nat} : (upto lo n).length = n := by simp [upto]
@[simp] theorem upto_get {lo : Int} {n i : Nat} {d : DL.D} : (upto lo n)[i]? = some d ↔ i < n ∧ .int (lo + (i : Int)) = d := by
  unfold upto
  rw [List.getElem?_map]
  by_cases h : i < n
  · rw [List.getElem?_range h]; simp [h]
  · rw [List.getElem?_eq_none (by rw [List.length_range]; omega)]; simp [h]
/-- behind a turn: the invariant goes on, or what is wanted at a break or a return -/
def turnQ (I : En → Prop) (Q : Out → Prop) : Out → Prop
  | .nx ρ => I ρ
  | .ct ρ => I ρ
  | .bk ρ => Q (.nx ρ)
  | .rt c ρ => Q (.rt c ρ)
section
variable {I : En → Prop} {Q : Out → Prop} {ρ : En} {c : Cell}
@[simp] theorem turnQ_nx : turnQ I Q (.nx ρ) = I ρ := rfl
@[simp] theorem turnQ_ct : turnQ I Q (.ct ρ) = I ρ := rfl
@[simp] theorem turnQ_bk : turnQ I Q (.bk ρ) = Q (.nx ρ) := rfl
@[simp] theorem turnQ_rt : turnQ I Q (.rt c ρ) = Q (.rt c ρ) := rfl
end
theorem ok_forQ {tgt : GM} {body : SM} {ds : List DL.D} {ρ : En} {Q : Out → Prop} (I : Nat → En → Prop) (h0 : I 0 ρ)
    (hs : ∀ i d ρ, ds[i]? = some d → I i ρ → Ok ((tgt d ρ).bind body) (turnQ (I (i + 1)) Q)) (hd : ∀ ρ, I ds.length ρ → Q (.nx ρ)) : Ok (forL tgt body ds ρ) Q :=
  ok_for I h0 (fun i d ρ e h => (hs i d ρ e h).mono fun o q => by cases o <;> exact q) hd
theorem ok_upto {tgt : GM} {body : SM} {lo : Int} {n : Nat} {ρ : En} {Q : Out → Prop} (I : Nat → En → Prop) (h0 : I 0 ρ)
    (hs : ∀ i ρ, i < n → I i ρ → Ok ((tgt (.int (lo + (i : Int))) ρ).bind body) (turnQ (I (i + 1)) Q)) (hd : ∀ ρ, I n ρ → Q (.nx ρ)) : Ok (forL tgt body (upto lo n) ρ) Q :=
  ok_forQ I h0 (fun i d ρ e h => by
    obtain ⟨hi, rfl⟩ := upto_get.mp e
    exact hs i ρ hi h) (fun ρ h => hd ρ (by rw [upto_len] at h; exact h))
/-- behind an item of a comprehension -/
def itemQ (fe : EM) (vs : List Nat) (acc : List DL.D) (I : List DL.D → En → Prop) (p : Bool × En) : Prop := br p.1 (Ok (fe p.2) fun q => Ok (fz q.2 q.1) fun s => I (acc ++ [s.1]) (wipeE s.2 vs)) (I acc (wipeE p.2 vs))
@[simp] theorem itemQ_eq {fe : EM} {vs : List Nat} {acc : List DL.D} {I : List DL.D → En → Prop} {b : Bool} {ρ : En} : itemQ fe vs acc I (b, ρ) = br b (Ok (fe ρ) fun q => Ok (fz q.2 q.1) fun s => I (acc ++ [s.1]) (wipeE s.2 vs)) (I acc (wipeE ρ vs)) := rfl
theorem ok_compQ {tgt : GM} {c : TM} {fe : EM} {vs : List Nat} {ds : List DL.D} {ρ : En} {Q : List DL.D × En → Prop} (I : Nat → List DL.D → En → Prop) (h0 : I 0 [] ρ)
    (hs : ∀ i d acc ρ, ds[i]? = some d → I i acc ρ → Ok ((tgt d ρ).bind c) (itemQ fe vs acc (I (i + 1))))
    (hd : ∀ rest ρ, I ds.length rest ρ → Q (rest, ρ)) : Ok (compL tgt c fe vs ds ρ) Q :=
  ok_comp I h0 (fun i d acc ρ e h => (hs i d acc ρ e h).mono fun p q => q) hd
theorem ok_compU {tgt : GM} {c : TM} {fe : EM} {vs : List Nat} {lo : Int} {n : Nat} {ρ : En} {Q : List DL.D × En → Prop} (I : Nat → List DL.D → En → Prop) (h0 : I 0 [] ρ)
    (hs : ∀ i acc ρ, i < n → I i acc ρ → Ok ((tgt (.int (lo + (i : Int))) ρ).bind c) (itemQ fe vs acc (I (i + 1))))
    (hd : ∀ rest ρ, I n rest ρ → Q (rest, ρ)) : Ok (compL tgt c fe vs (upto lo n) ρ) Q :=
  ok_compQ I h0 (fun i d acc ρ e h => by
    obtain ⟨hi, rfl⟩ := upto_get.mp e
    exact hs i acc ρ hi h) (fun rest ρ h => hd rest ρ (by rw [upto_len] at h; exact h))
end DL
namespace DL.C
open PySem PySem.Spec PyProof.Rows L2 DL

def m_law_draw_1 : SM := (sSet 1 (eOp2 modD (eOp1 intOfD (eOp2 addD (eOp2 addD (eOp2 mulI (eName 1) (eC (.int 48271))) (eOp2 modD (eOp1 absD (eOp1 intOfD (eName 2))) (eC (.int 65521)))) (eC (.int 1)))) (eC (.int 2147483647))))
def m_law_draw_2 : SM := (sRet (eLst (aVal (eComp (srcAny (eName 0)) (gmName 2) cYes (eOp1 absD (eOp1 intOfD (eName 2))) [2]) (aVal (eOp1 negD (eC (.int 1))) (aVal (eC (.int 0)) (aVal (eName 1) aNil))))))
def m_law_draw_3 : SM := (sSeq (sFor (srcAny (eName 0)) (gmName 2) m_law_draw_1) m_law_draw_2)
def m_law_draw : SM := (sSeq (sSet 1 (eC (.int 7))) m_law_draw_3)
def sem_law_draw : Sem1 := fnSem 1 2 m_law_draw
def m_law_take_1 : SM := (sAsgX (eOp2 idxD (eName 0) (eC (.int 3))) (gmSub 0 (eC (.int 2))))
def m_law_take_2 : SM := (sIf (tmB (eOp2 eqD (eOp2 idxD (eName 0) (eC (.int 2))) (eC (.int 0)))) (sSeq (sAsgX (eOp2 modD (eOp1 intOfD (eOp2 addD (eOp2 mulI (eOp2 idxD (eName 0) (eC (.int 3))) (eC (.int 48271))) (eC (.int 11)))) (eC (.int 2147483647))) (gmSub 0 (eC (.int 3)))) m_law_take_1) sPass)
def m_law_take_3 : SM := (sSeq (sIf (tmB (eOp2 ltD (eOp2 idxD (eName 0) (eC (.int 1))) (eOp1 lenD (eOp2 idxD (eName 0) (eC (.int 0)))))) (sAsgX (eOp2 idxD (eOp2 idxD (eName 0) (eC (.int 0))) (eOp2 idxD (eName 0) (eC (.int 1)))) (gmSub 0 (eC (.int 2)))) sPass) m_law_take_2)
def m_law_take_4 : SM := (sRet (eName 2))
def m_law_take_5 : SM := (sSeq (sAsgX (eOp2 fdivD (eOp2 idxD (eName 0) (eC (.int 2))) (eName 1)) (gmSub 0 (eC (.int 2)))) m_law_take_4)
def m_law_take_6 : SM := (sSeq (sSet 2 (eOp2 modD (eOp1 intOfD (eOp2 idxD (eName 0) (eC (.int 2)))) (eName 1))) m_law_take_5)
def m_law_take : SM := (sSeq (sIf (tmB (eOp2 eqD (eOp2 idxD (eName 0) (eC (.int 2))) (eC (.int 0)))) (sSeq (sAsgX (eOp2 addD (eOp2 idxD (eName 0) (eC (.int 1))) (eC (.int 1))) (gmSub 0 (eC (.int 1)))) m_law_take_3) sPass) m_law_take_6)
def sem_law_take : Sem1 := fnSem 2 1 m_law_take
def m_law_value : SM := (sRet (eOp1 sumD (eComp (srcRng1 (aVal (eOp1 lenD (eName 0)) aNil)) (gmName 1) cYes (eOp2 shlD (eOp2 idxD (eName 0) (eName 1)) (eName 1)) [1])))
def sem_law_value : Sem1 := fnSem 1 1 m_law_value
def m_law_turned_1 : SM := (sIf (tmB (eOp2 eqD (eComp (srcAny (eName 3)) (gmTup (gmCons (gmName 4) (gmCons (gmName 5) gmNil)) 2) (tmB (eOp2 neD (eOp2 idxD (eName 1) (eName 4)) (eName 5))) (eName 4) [4, 5]) (eLst aNil))) (sAsgX (eOp2 subD (eC (.int 1)) (eOp2 idxD (eName 1) (eName 2))) (gmSub 1 (eName 2))) sPass)
def m_law_turned_2 : SM := (sRet (eOp1 tupleD (eName 1)))
def m_law_turned_3 : SM := (sSeq (sFor (srcAny (eName 0)) (gmTup (gmCons (gmName 2) (gmCons (gmName 3) gmNil)) 2) m_law_turned_1) m_law_turned_2)
def m_law_turned : SM := (sSeq (sSet 1 (eOp1 listD (eName 1))) m_law_turned_3)
def sem_law_turned : Sem1 := fnSem 2 4 m_law_turned
def m_law_bits : SM := (sRet (eOp1 tupleD (eComp (srcRng1 (aVal (eName 1) aNil)) (gmName 2) cYes (eOp2 andD (eOp2 shrD (eName 0) (eName 2)) (eC (.int 1))) [2])))
def sem_law_bits : Sem1 := fnSem 2 1 m_law_bits
def m_law_map : SM := (sRet (eComp (srcRng1 (aVal (eOp2 shlD (eC (.int 1)) (eOp2 idxD (eName 0) (eC (.int 0)))) aNil)) (gmName 1) cYes (eCall sem_law_value (aVal (eCall sem_law_turned (aVal (eOp2 idxD (eName 0) (eC (.int 1))) (aVal (eCall sem_law_bits (aVal (eName 1) (aVal (eOp2 idxD (eName 0) (eC (.int 0))) aNil))) aNil))) aNil)) [1]))
def sem_law_map : Sem1 := fnSem 1 1 m_law_map
def m_law_gate_1 : SM := (sIf (tmAnd (tmB (eOp2 neD (eName 5) (eName 3))) (tmAnd (tmB (eOp2 ltD (eOp1 lenD (eName 4)) (eName 2))) (tmB (eOp2 eqD (eCall sem_law_take (aRef 0 (aVal (eC (.int 2)) aNil))) (eC (.int 0)))))) (sExpr (eAppend 4 (eTup (aVal (eName 5) (aVal (eCall sem_law_take (aRef 0 (aVal (eC (.int 2)) aNil))) aNil))))) sPass)
def m_law_gate_2 : SM := (sRet (eTup (aVal (eName 3) (aVal (eOp1 tupleD (eName 4)) aNil))))
def m_law_gate_3 : SM := (sSeq (sFor (srcRng1 (aVal (eName 1) aNil)) (gmName 5) m_law_gate_1) m_law_gate_2)
def m_law_gate_4 : SM := (sSeq (sSet 4 (eLst aNil)) m_law_gate_3)
def m_law_gate : SM := (sSeq (sSet 3 (eCall sem_law_take (aRef 0 (aVal (eName 1) aNil)))) m_law_gate_4)
def sem_law_gate : Sem1 := fnSem 3 3 m_law_gate
def m_law_circuit : SM := (sRet (eTup (aVal (eName 1) (aVal (eOp1 tupleD (eComp (srcRng1 (aVal (eCall sem_law_take (aRef 0 (aVal (eOp2 addD (eName 2) (eC (.int 1))) aNil))) aNil)) (gmName 3) cYes (eCall sem_law_gate (aRef 0 (aVal (eName 1) (aVal (eOp2 idxD (eLst (aVal (eC (.int 3)) (aVal (eC (.int 1)) (aVal (eC (.int 9)) aNil)))) (eCall sem_law_take (aRef 0 (aVal (eC (.int 3)) aNil)))) aNil)))) [3])) aNil))))
def sem_law_circuit : Sem1 := fnSem 3 1 m_law_circuit
/-! reading a written list -/
@[simp] theorem atI0 {xs : List DL.D} {x : DL.D} : atI (x :: xs) 0 = some x := atI_nat (j := 0) rfl
@[simp] theorem atI1 {xs : List DL.D} {x y : DL.D} : atI (x :: y :: xs) 1 = some y := atI_nat (j := 1) rfl
@[simp] theorem atI2 {xs : List DL.D} {x y z : DL.D} : atI (x :: y :: z :: xs) 2 = some z := atI_nat (j := 2) rfl
@[simp] theorem atI3 {xs : List DL.D} {x y z w : DL.D} : atI (x :: y :: z :: w :: xs) 3 = some w := atI_nat (j := 3) rfl
theorem ixN_nat {n j : Nat} (h : j < n) : ixN n (j : Int) = some j := by
  unfold ixN
  rw [if_pos (by omega), if_pos (by omega)]
  simp
theorem ixN_pos {n : Nat} {i : Int} (h0 : 0 ≤ i) (h : i < n) : ixN n i = some i.toNat := by
  have : ((i.toNat : Nat) : Int) = i := Int.toNat_of_nonneg h0
  rw [← this]
  exact ixN_nat (by omega)
theorem ok_ixN {n : Nat} {i : Int} {Q : Nat → Prop} (h0 : 0 ≤ i) (h : i < n) (q : Q i.toNat) : Ok (ixN n i) Q := ⟨_, ixN_pos h0 h, q⟩
theorem ok_at {xs : List DL.D} {i : Int} {Q : DL.D → Prop} (h0 : 0 ≤ i) (h : i < xs.length) (q : ∀ x, xs[i.toNat]? = some x → Q x) : Ok (atI xs i) Q := by
  have hl : i.toNat < xs.length := by omega
  exact ⟨xs[i.toNat], atI_lt h0 (List.getElem?_eq_getElem hl), q _ (List.getElem?_eq_getElem hl)⟩
@[simp] theorem ixN40 : ixN 4 0 = some 0 := by decide
@[simp] theorem ixN41 : ixN 4 1 = some 1 := by decide
@[simp] theorem ixN42 : ixN 4 2 = some 2 := by decide
@[simp] theorem ixN43 : ixN 4 3 = some 3 := by decide
/-- a draw as data -/
def dr (cells : List Int) (pos cur seed : Int) : List DL.D := [.list (cells.map .int), .int pos, .int cur, .int seed]
/-- a draw that can go on -/
def Dr (o : MO) : Prop := ∃ cells pos cur seed, o = .lst (dr cells pos cur seed) ∧ (∀ c ∈ cells, 0 ≤ c) ∧ -1 ≤ pos ∧ 0 ≤ cur ∧ 0 ≤ seed ∧ seed < 2147483647
theorem take6 (cells : List Int) (pos cur seed many : Int) (hm : 0 < many) (hm2 : many.natAbs.log2 < 9000) :
    Ok (m_law_take_6 [some (.ref (.lst (dr cells pos cur seed))), some (.val (.int many)), none]) fun o => o = .rt (.val (.int (cur % many))) [some (.ref (.lst (dr cells pos (cur / many) seed))), some (.val (.int many)), some (.val (.int (cur % many)))] := by
  unfold m_law_take_6 m_law_take_5 m_law_take_4
  simp [dr, hm, hm2]
def TkO (cells : List Int) (pos : Int) (many : Int) (o : Out) : Prop := ∃ cur seed, 0 ≤ cur ∧ 0 ≤ seed ∧ seed < 2147483647 ∧ o = .nx [some (.ref (.lst (dr cells pos cur seed))), some (.val (.int many)), none]
theorem take2 (cells : List Int) (pos cur seed many : Int) (hc : 0 ≤ cur) (h : 0 ≤ seed) (h2 : seed < 2147483647) :
    Ok (m_law_take_2 [some (.ref (.lst (dr cells pos cur seed))), some (.val (.int many)), none]) (TkO cells pos many) := by
  unfold m_law_take_2 m_law_take_1
  simp [dr, br_iff]
  exact ⟨fun h0 => ⟨(seed * 48271 + 11) % 2147483647, (seed * 48271 + 11) % 2147483647, by omega, by omega, by omega, rfl⟩, fun h0 => ⟨cur, seed, hc, h, h2, rfl⟩⟩
theorem take3 (cells : List Int) (pos cur seed many : Int) (hcs : ∀ c ∈ cells, 0 ≤ c) (hp : 0 ≤ pos) (hc : 0 ≤ cur) (h : 0 ≤ seed) (h2 : seed < 2147483647) :
    Ok (m_law_take_3 [some (.ref (.lst (dr cells pos cur seed))), some (.val (.int many)), none]) (TkO cells pos many) := by
  unfold m_law_take_3
  simp [dr, br_iff]
  refine ⟨fun h0 => ok_at hp (by simpa using h0) fun x hx => ?_, fun h0 => take2 cells pos cur seed many hc h h2⟩
  rw [List.getElem?_map] at hx
  cases hy : cells[pos.toNat]? with
  | none => rw [hy] at hx; exact nomatch hx
  | some y =>
    rw [hy] at hx
    cases hx
    have := take2 cells pos y seed many (hcs y (List.mem_of_getElem? hy)) h h2
    simpa [dr] using this
/-- what a take leaves: a number below many, a draw that can go on -/
def TkR (many : Int) (r : Cell × List Cell) : Prop := ∃ v o', r = (.val (.int v), [.ref o', .val (.int many)]) ∧ 0 ≤ v ∧ v < many ∧ Dr o'
theorem take_ok {o : MO} {many : Int} (h : Dr o) (hm : 0 < many) (hm2 : many.natAbs.log2 < 9000) :
    Ok (sem_law_take [.ref o, .val (.int many)]) (TkR many) := by
  obtain ⟨cells, pos, cur, seed, rfl, hcs, hp, hc, h, h2⟩ := h
  unfold sem_law_take
  refine ok_fn rfl ?_
  have fin : ∀ pos' cur' seed' : Int, -1 ≤ pos' → 0 ≤ cur' → 0 ≤ seed' → seed' < 2147483647 → Ok (m_law_take_6 [some (.ref (.lst (dr cells pos' cur' seed'))), some (.val (.int many)), none]) fun o => Ok (finO [.ref (.lst (dr cells pos cur seed)), .val (.int many)] o) (TkR many) := fun pos' cur' seed' hp hc h h2 => by
    refine (take6 cells pos' cur' seed' many hm hm2).mono fun o ho => ?_
    subst ho
    simp
    exact ⟨_, _, rfl, Int.emod_nonneg _ (by omega), Int.emod_lt_of_pos _ hm, ⟨_, _, _, _, rfl, hcs, hp, Int.ediv_nonneg hc (by omega), h, h2⟩⟩
  unfold m_law_take
  simp [dr, br_iff]
  refine ⟨fun h0 => (take3 cells (pos + 1) cur seed many hcs (by omega) hc h h2).mono fun o ho => ?_, fun h0 => fin pos cur seed hp hc h h2⟩
  obtain ⟨cur', seed', hc', h', h2', rfl⟩ := ho
  exact fin (pos + 1) cur' seed' (by omega) hc' h' h2'
@[simp] theorem itemsA_d {kvs : List (DL.D × DL.D)} : itemsA (.dict kvs) = some (kvs.map (·.1)) := rfl
theorem draw_ok (ns : List Int) (hl : ns.length ≤ 63) : Ok (sem_law_draw [.val (scrD ns)]) fun r => ∃ o, r = (.own o, [.val (scrD ns)]) ∧ Dr o := by
  unfold sem_law_draw
  refine ok_fn rfl ?_
  unfold m_law_draw m_law_draw_3
  simp [scrD]
  refine ok_for (fun i ρ => ∃ seed c, 0 ≤ seed ∧ seed < 2147483647 ∧ ρ = [some (.val (scrD ns)), some (.val (.int seed)), c] ∧ isRefB (some c) = false ∧ noRefB [none, none, c] [2] = true) ⟨7, none, by omega, by omega, rfl, rfl, rfl⟩ ?_ ?_
  · rintro i d ρ hd ⟨seed, c, h1, h2, rfl, hc, _⟩
    simp at hd
    obtain ⟨n, hn, rfl⟩ := hd
    unfold m_law_draw_1
    simp [hc]
    exact ⟨_, by omega, by omega, _, ⟨rfl, rfl⟩, rfl⟩
  · rintro ρ ⟨seed, c, h1, h2, rfl, hc, hc2⟩
    unfold m_law_draw_2
    simp [hc, scrD]
    refine ⟨by omega, ok_comp (fun i acc ρ => ρ = [some (.val (scrD ns)), some (.val (.int seed)), none] ∧ ∃ xs : List Int, acc = xs.map .int ∧ ∀ x ∈ xs, 0 ≤ x) ⟨rfl, [], rfl, fun _ h => nomatch h⟩ ?_ ?_⟩
    · rintro i d acc ρ hd ⟨rfl, xs, rfl, hx⟩
      simp at hd
      obtain ⟨n, hn, rfl⟩ := hd
      simp
      refine ⟨xs ++ [if n < 0 then -n else n], by simp, fun x h => ?_⟩
      rcases List.mem_append.mp h with h | h
      · exact hx x h
      · rw [List.mem_singleton.mp h]
        split <;> omega
    · rintro rest ρ ⟨rfl, xs, rfl, hx⟩
      simp [scrD]
      exact ⟨xs, -1, 0, seed, rfl, hx, by omega, by omega, h1, h2⟩
end DL.C

namespace Lk00
open PySem PySem.Spec PyProof.Rows L2 DL DL.C
def topS (i : Nat) : Stmt := PySem.Challenge.pw_backandon_k00_words_reckoned.main.body.getD i (.Pass ⟨0, 0, 0, 0⟩)
structure Bl (mg : Str → Option Value) : Prop where
  abs_ : mg "abs" = none
  bool_ : mg "bool" = none
  int_ : mg "int" = none
  isinstance : mg "isinstance" = none
  len_ : mg "len" = none
  list_ : mg "list" = none
  min_ : mg "min" = none
  range_ : mg "range" = none
def ds_OPS : List DL.D := [(.str "add"), (.str "sub"), (.str "mul"), (.str "and"), (.str "or"), (.str "xor"), (.str "less"), (.str "equal"), (.str "shl"), (.str "shr")]
def xs_OPS : List V := [V.str "add", V.str "sub", V.str "mul", V.str "and", V.str "or", V.str "xor", V.str "less", V.str "equal", V.str "shl", V.str "shr"]
abbrev c_OPS : DL.D := .tuple ds_OPS
/-! _law_draw -/
abbrev s_law_draw : Stmt := topS 5
theorem sc_law_draw : FnScope ["script", "seed", "cell"] ["script"] (defScope s_law_draw) := ⟨rfl, rfl, rfl, by decide +kernel, rfl, by decide +kernel, by decide +kernel⟩
/-! _law_take -/
abbrev s_law_take : Stmt := topS 6
theorem sc_law_take : FnScope ["draw", "many", "found"] ["draw", "many"] (defScope s_law_take) := ⟨rfl, rfl, rfl, by decide +kernel, rfl, by decide +kernel, by decide +kernel⟩
/-! top -/
abbrev s_top : Stmt := topS 2
theorem sc_top : FnScope ["w"] ["w"] (defScope s_top) := ⟨rfl, rfl, rfl, by decide +kernel, rfl, by decide +kernel, by decide +kernel⟩
def m_top : SM := (sRet (eOp2 subD (eOp2 shlD (eC (.int 1)) (eName 0)) (eC (.int 1))))
def sem_top : Sem1 := fnSem 1 0 m_top
/-! _law_top -/
abbrev s_law_top : Stmt := topS 7
theorem sc_law_top : FnScope ["w"] ["w"] (defScope s_law_top) := ⟨rfl, rfl, rfl, by decide +kernel, rfl, by decide +kernel, by decide +kernel⟩
def m_law_top : SM := (sRet (eOp2 subD (eOp2 shlD (eC (.int 1)) (eName 0)) (eC (.int 1))))
def sem_law_top : Sem1 := fnSem 1 0 m_law_top
/-! compute -/
abbrev s_compute : Stmt := topS 3
theorem sc_compute : FnScope ["op", "w", "x", "y"] ["op", "w", "x", "y"] (defScope s_compute) := ⟨rfl, rfl, rfl, by decide +kernel, rfl, by decide +kernel, by decide +kernel⟩
def m_compute_1 : SM := (sRet (eOp2 shrD (eName 2) (eName 3)))
def m_compute_2 : SM := (sSeq (sIf (tmB (eOp2 eqD (eName 0) (eC (.str "shl")))) (sRet (eOp2 andD (eOp2 shlD (eName 2) (eName 3)) (eCall sem_top (aVal (eName 1) aNil)))) sPass) m_compute_1)
def m_compute_3 : SM := (sSeq (sIf (tmB (eOp2 geD (eName 3) (eName 1))) (sRet (eC (.int 0))) sPass) m_compute_2)
def m_compute_4 : SM := (sSeq (sIf (tmB (eOp2 eqD (eName 0) (eC (.str "equal")))) (sRet (eIf (tmB (eOp2 eqD (eName 2) (eName 3))) (eC (.int 1)) (eC (.int 0)))) sPass) m_compute_3)
def m_compute_5 : SM := (sSeq (sIf (tmB (eOp2 eqD (eName 0) (eC (.str "less")))) (sRet (eIf (tmB (eOp2 ltD (eName 2) (eName 3))) (eC (.int 1)) (eC (.int 0)))) sPass) m_compute_4)
def m_compute_6 : SM := (sSeq (sIf (tmB (eOp2 eqD (eName 0) (eC (.str "xor")))) (sRet (eOp2 xorD (eName 2) (eName 3))) sPass) m_compute_5)
def m_compute_7 : SM := (sSeq (sIf (tmB (eOp2 eqD (eName 0) (eC (.str "or")))) (sRet (eOp2 orD (eName 2) (eName 3))) sPass) m_compute_6)
def m_compute_8 : SM := (sSeq (sIf (tmB (eOp2 eqD (eName 0) (eC (.str "and")))) (sRet (eOp2 andD (eName 2) (eName 3))) sPass) m_compute_7)
def m_compute_9 : SM := (sSeq (sIf (tmB (eOp2 eqD (eName 0) (eC (.str "mul")))) (sRet (eOp2 andD (eOp2 mulI (eName 2) (eName 3)) (eCall sem_top (aVal (eName 1) aNil)))) sPass) m_compute_8)
def m_compute_10 : SM := (sSeq (sIf (tmB (eOp2 eqD (eName 0) (eC (.str "sub")))) (sRet (eOp2 andD (eOp2 subD (eName 2) (eName 3)) (eCall sem_top (aVal (eName 1) aNil)))) sPass) m_compute_9)
def m_compute : SM := (sSeq (sIf (tmB (eOp2 eqD (eName 0) (eC (.str "add")))) (sRet (eOp2 andD (eOp2 addD (eName 2) (eName 3)) (eCall sem_top (aVal (eName 1) aNil)))) sPass) m_compute_10)
def sem_compute : Sem1 := fnSem 4 0 m_compute
/-! _law_word -/
abbrev s_law_word : Stmt := topS 9
theorem sc_law_word : FnScope ["draw", "w", "k"] ["draw", "w"] (defScope s_law_word) := ⟨rfl, rfl, rfl, by decide +kernel, rfl, by decide +kernel, by decide +kernel⟩
def m_law_word_1 : SM := (sRet (eOp2 modD (eOp1 intOfD (eCall sem_law_take (aRef 0 (aVal (eOp2 shlD (eC (.int 1)) (eOp2 min2D (eName 1) (eC (.int 30)))) aNil)))) (eOp2 shlD (eC (.int 1)) (eName 1))))
def m_law_word_2 : SM := (sSeq (sIf (tmB (eOp2 eqD (eName 2) (eC (.int 3)))) (sRet (eCall sem_law_top (aVal (eName 1) aNil))) sPass) m_law_word_1)
def m_law_word_3 : SM := (sSeq (sIf (tmB (eOp2 ltD (eName 2) (eC (.int 3)))) (sRet (eOp2 min2D (eOp2 idxD (eLst (aVal (eC (.int 0)) (aVal (eC (.int 1)) (aVal (eC (.int 3)) aNil)))) (eName 2)) (eCall sem_law_top (aVal (eName 1) aNil)))) sPass) m_law_word_2)
def m_law_word : SM := (sSeq (sSet 2 (eCall sem_law_take (aRef 0 (aVal (eC (.int 6)) aNil)))) m_law_word_3)
def sem_law_word : Sem1 := fnSem 2 1 m_law_word
/-! _law_compute -/
abbrev s_law_compute : Stmt := topS 8
theorem sc_law_compute : FnScope ["op", "w", "x", "y", "size", "found", "k", "both"] ["op", "w", "x", "y"] (defScope s_law_compute) := ⟨rfl, rfl, rfl, by decide +kernel, rfl, by decide +kernel, by decide +kernel⟩
def m_law_compute_1 : SM := (sIf (tmOr (tmAnd (tmB (eOp2 eqD (eName 0) (eC (.str "and")))) (tmB (eOp2 eqD (eName 7) (eC (.int 2))))) (tmOr (tmAnd (tmB (eOp2 eqD (eName 0) (eC (.str "or")))) (tmB (eOp2 gtD (eName 7) (eC (.int 0))))) (tmAnd (tmB (eOp2 eqD (eName 0) (eC (.str "xor")))) (tmB (eOp2 eqD (eName 7) (eC (.int 1))))))) (sSet 5 (eOp2 addD (eName 5) (eOp2 shlD (eC (.int 1)) (eName 6)))) sPass)
def m_law_compute_2 : SM := (sSeq (sSet 7 (eOp2 addD (eOp2 modD (eOp2 fdivD (eName 2) (eOp2 shlD (eC (.int 1)) (eName 6))) (eC (.int 2))) (eOp2 modD (eOp2 fdivD (eName 3) (eOp2 shlD (eC (.int 1)) (eName 6))) (eC (.int 2))))) m_law_compute_1)
def m_law_compute_3 : SM := (sRet (eName 5))
def m_law_compute_4 : SM := (sSeq (sFor (srcRng1 (aVal (eName 1) aNil)) (gmName 6) m_law_compute_2) m_law_compute_3)
def m_law_compute_5 : SM := (sRet (eOp2 subD (eOp2 mulI (eName 2) (eOp2 shlD (eC (.int 1)) (eName 3))) (eOp2 mulI (eOp2 fdivD (eOp2 mulI (eName 2) (eOp2 shlD (eC (.int 1)) (eName 3))) (eName 4)) (eName 4))))
def m_law_compute_6 : SM := (sSeq (sIf (tmB (eOp2 eqD (eName 0) (eC (.str "shr")))) (sRet (eOp2 fdivD (eName 2) (eOp2 shlD (eC (.int 1)) (eName 3)))) sPass) m_law_compute_5)
def m_law_compute_7 : SM := (sSeq (sIf (tmB (eOp2 geD (eName 3) (eName 1))) (sRet (eC (.int 0))) sPass) m_law_compute_6)
def m_law_compute_8 : SM := (sSeq (sIf (tmB (eOp2 eqD (eName 0) (eC (.str "equal")))) (sRet (eIf (tmB (eOp2 eqD (eName 2) (eName 3))) (eC (.int 1)) (eC (.int 0)))) sPass) m_law_compute_7)
def m_law_compute_9 : SM := (sSeq (sIf (tmB (eOp2 eqD (eName 0) (eC (.str "less")))) (sRet (eIf (tmB (eOp2 ltD (eName 2) (eName 3))) (eC (.int 1)) (eC (.int 0)))) sPass) m_law_compute_8)
def m_law_compute_10 : SM := (sSeq (sIf (tmB (eOp2 inD (eName 0) (eLst (aVal (eC (.str "and")) (aVal (eC (.str "or")) (aVal (eC (.str "xor")) aNil)))))) (sSeq (sSet 5 (eC (.int 0))) m_law_compute_4) sPass) m_law_compute_9)
def m_law_compute_11 : SM := (sSeq (sIf (tmB (eOp2 eqD (eName 0) (eC (.str "mul")))) (sRet (eOp2 subD (eOp2 mulI (eName 2) (eName 3)) (eOp2 mulI (eOp2 fdivD (eOp2 mulI (eName 2) (eName 3)) (eName 4)) (eName 4)))) sPass) m_law_compute_10)
def m_law_compute_12 : SM := (sSeq (sIf (tmB (eOp2 eqD (eName 0) (eC (.str "sub")))) (sRet (eIf (tmB (eOp2 geD (eName 2) (eName 3))) (eOp2 subD (eName 2) (eName 3)) (eOp2 addD (eOp2 subD (eName 2) (eName 3)) (eName 4)))) sPass) m_law_compute_11)
def m_law_compute_13 : SM := (sSeq (sIf (tmB (eOp2 eqD (eName 0) (eC (.str "add")))) (sRet (eIf (tmB (eOp2 ltD (eOp2 addD (eName 2) (eName 3)) (eName 4))) (eOp2 addD (eName 2) (eName 3)) (eOp2 subD (eOp2 addD (eName 2) (eName 3)) (eName 4)))) sPass) m_law_compute_12)
def m_law_compute : SM := (sSeq (sSet 4 (eOp2 shlD (eC (.int 1)) (eName 1))) m_law_compute_13)
def sem_law_compute : Sem1 := fnSem 4 4 m_law_compute
/-! law -/
abbrev s_law : Stmt := topS 25
theorem sc_law : FnScope ["script", "draw", "ops", "j", "w", "x", "y", "op", "answer"] ["script"] (defScope s_law) := ⟨rfl, rfl, rfl, by decide +kernel, rfl, by decide +kernel, by decide +kernel⟩
def m_law_1 : SM := (sIf (tmOr (tmNot (tmTru (eIsi "int" (eName 8)))) (tmOr (tmTru (eIsi "bool" (eName 8))) (tmB (eOp2 neD (eName 8) (eCall sem_law_compute (aVal (eName 7) (aVal (eName 4) (aVal (eName 5) (aVal (eName 6) aNil))))))))) (sRet (eC (.bool false))) sPass)
def m_law_2 : SM := (sSeq (sSet 8 (eCall sem_compute (aVal (eName 7) (aVal (eName 4) (aVal (eName 5) (aVal (eName 6) aNil)))))) m_law_1)
def m_law_3 : SM := (sFor (srcAny (eName 2)) (gmName 7) m_law_2)
def m_law_4 : SM := (sSeq (sSet 6 (eOp2 min2D (eName 6) (eCall sem_law_top (aVal (eName 4) aNil)))) m_law_3)
def m_law_5 : SM := (sSeq (sSet 6 (eOp2 idxD (eLst (aVal (eCall sem_law_word (aRef 1 (aVal (eName 4) aNil))) (aVal (eName 5) (aVal (eOp2 min2D (eName 4) (eCall sem_law_top (aVal (eName 4) aNil))) (aVal (eOp2 min2D (eOp2 subD (eName 4) (eC (.int 1))) (eCall sem_law_top (aVal (eName 4) aNil))) (aVal (eCall sem_law_take (aRef 1 (aVal (eName 4) aNil))) aNil)))))) (eCall sem_law_take (aRef 1 (aVal (eC (.int 5)) aNil))))) m_law_4)
def m_law_6 : SM := (sSeq (sSet 5 (eOp2 idxD (eLst (aVal (eCall sem_law_word (aRef 1 (aVal (eName 4) aNil))) (aVal (eOp2 shlD (eC (.int 1)) (eCall sem_law_take (aRef 1 (aVal (eName 4) aNil)))) (aVal (eOp2 subD (eCall sem_law_top (aVal (eName 4) aNil)) (eCall sem_law_word (aRef 1 (aVal (eName 4) aNil)))) aNil)))) (eCall sem_law_take (aRef 1 (aVal (eC (.int 3)) aNil))))) m_law_5)
def m_law_7 : SM := (sSeq (sIf (tmB (eOp2 neD (eCall sem_top (aVal (eName 4) aNil)) (eOp2 subD (eOp2 shlD (eC (.int 1)) (eName 4)) (eC (.int 1))))) (sRet (eC (.bool false))) sPass) m_law_6)
def m_law_8 : SM := (sSeq (sSet 4 (eOp2 idxD (eLst (aVal (eC (.int 1)) (aVal (eC (.int 2)) (aVal (eC (.int 7)) (aVal (eC (.int 8)) (aVal (eC (.int 31)) (aVal (eC (.int 32)) (aVal (eOp2 addD (eC (.int 1)) (eCall sem_law_take (aRef 1 (aVal (eC (.int 32)) aNil)))) aNil)))))))) (eCall sem_law_take (aRef 1 (aVal (eC (.int 7)) aNil))))) m_law_7)
def m_law_9 : SM := (sRet (eC (.bool true)))
def m_law_10 : SM := (sSeq (sFor (srcRng1 (aVal (eC (.int 6)) aNil)) (gmName 3) m_law_8) m_law_9)
def m_law_11 : SM := (sSeq (sIf (tmB (eOp2 neD (eOp1 listD (eC c_OPS)) (eName 2))) (sRet (eC (.bool false))) sPass) m_law_10)
def m_law_12 : SM := (sSeq (sSet 2 (eLst (aVal (eC (.str "add")) (aVal (eC (.str "sub")) (aVal (eC (.str "mul")) (aVal (eC (.str "and")) (aVal (eC (.str "or")) (aVal (eC (.str "xor")) (aVal (eC (.str "less")) (aVal (eC (.str "equal")) (aVal (eC (.str "shl")) (aVal (eC (.str "shr")) aNil)))))))))))) m_law_11)
def m_law : SM := (sSeq (sSet 1 (eCall sem_law_draw (aVal (eName 0) aNil))) m_law_12)
def sem_law : Sem1 := fnSem 1 8 m_law
section
variable {P : Program} {w : World} {K : PySem.W.Frag} {mg : Str → Option Value} {base : Heap}
theorem ok_law_draw {f : Addr} {fd : FuncData} (F : Fun K "_law_draw" "_law_draw" s_law_draw f fd) (b : Binds K fd ["script"] []) (g : mg "_law_draw" = some (.ref f)) (B : Bl mg) : Fd P w K mg base "_law_draw" 1 ["script"] sem_law_draw :=
  fd_mk F b g sc_law_draw rfl rfl fun cdv A outer s H E hr => ⟨_, (qs_cons (qset 1 sc_law_draw.nd qint)
  (qs_cons (qfor PassesOwn.never rfl (iany (qv 0)) (gname 2 sc_law_draw.nd) (qs_one (qset 1 sc_law_draw.nd (qmod (qt1 call_int1 o_intOf PyProof.Rows.boot_int B.int_ (qadd (qadd (qmul (qv 1) qint) (qmod (qb1 call_abs o_abs PyProof.Rows.boot_abs B.abs_ (qt1 call_int1 o_intOf PyProof.Rows.boot_int B.int_ (qv 2))) qint)) qint)) qint))))
  (qs_one (qret (qlst (qa_v (qlc (own := [("cell", 2)]) rfl sc_law_draw.nd (iany (qv 0)) (blkOk_by (own := [("cell", 2)]) (N := ["script", "seed", "cell"]) (sc := defScope s_law_draw) (by decide +kernel)) (fun _ _ _ _ _ => (gname 2 sc_law_draw.nd)) (fun _ _ _ _ _ => ts_nil) (fun _ _ _ _ _ => (qb1 call_abs o_abs PyProof.Rows.boot_abs B.abs_ (qt1 call_int1 o_intOf PyProof.Rows.boot_int B.int_ (qv 2))))) (qa_v (qneg qint) (qa_v qint (qa_v (qv 1) qa_nil)))))))))⟩
theorem ok_law_take {f : Addr} {fd : FuncData} (F : Fun K "_law_take" "_law_take" s_law_take f fd) (b : Binds K fd ["draw", "many"] []) (g : mg "_law_take" = some (.ref f)) (B : Bl mg) : Fd P w K mg base "_law_take" 1 ["draw", "many"] sem_law_take :=
  fd_mk F b g sc_law_take rfl rfl fun cdv A outer s H E hr => ⟨_, (qs_cons (qsif (tcmp (op_eqD hr.units) o_eq (nomark _) (qidx (qv 0) qint) qint) (qs_cons (qasgx (qadd (qidx (qv 0) qint) qint) (xsub 0 qint))
  (qs_cons (qsif (tcmp op_lt o_lt (nomark _) (qidx (qv 0) qint) (qb1 call_len o_len PySem.boot_len B.len_ (qidx (qv 0) qint))) (qs_one (qasgx (qidx (qidx (qv 0) qint) (qidx (qv 0) qint)) (xsub 0 qint))) qs_nil)
  (qs_one (qsif (tcmp (op_eqD hr.units) o_eq (nomark _) (qidx (qv 0) qint) qint) (qs_cons (qasgx (qmod (qt1 call_int1 o_intOf PyProof.Rows.boot_int B.int_ (qadd (qmul (qidx (qv 0) qint) qint) qint)) qint) (xsub 0 qint))
  (qs_one (qasgx (qidx (qv 0) qint) (xsub 0 qint)))) qs_nil)))) qs_nil)
  (qs_cons (qset 2 sc_law_take.nd (qmod (qt1 call_int1 o_intOf PyProof.Rows.boot_int B.int_ (qidx (qv 0) qint)) (qv 1)))
  (qs_cons (qasgx (qfdiv (qidx (qv 0) qint) (qv 1)) (xsub 0 qint))
  (qs_one (qret (qv 2))))))⟩
theorem ok_top {f : Addr} {fd : FuncData} (F : Fun K "top" "top" s_top f fd) (b : Binds K fd ["w"] []) (g : mg "top" = some (.ref f)) (B : Bl mg) : Fd P w K mg base "top" 1 ["w"] sem_top :=
  fd_mk F b g sc_top rfl rfl fun cdv A outer s H E hr => ⟨_, (qs_one (qret (qsub (qshl qint (qv 0)) qint)))⟩
theorem ok_law_top {f : Addr} {fd : FuncData} (F : Fun K "_law_top" "_law_top" s_law_top f fd) (b : Binds K fd ["w"] []) (g : mg "_law_top" = some (.ref f)) (B : Bl mg) : Fd P w K mg base "_law_top" 1 ["w"] sem_law_top :=
  fd_mk F b g sc_law_top rfl rfl fun cdv A outer s H E hr => ⟨_, (qs_one (qret (qsub (qshl qint (qv 0)) qint)))⟩
theorem ok_compute {f : Addr} {fd : FuncData} (F : Fun K "compute" "compute" s_compute f fd) (b : Binds K fd ["op", "w", "x", "y"] []) (g : mg "compute" = some (.ref f)) (B : Bl mg) (C_top : Fd P w K mg base "top" 1 ["w"] sem_top) : Fd P w K mg base "compute" 2 ["op", "w", "x", "y"] sem_compute :=
  fd_mk F b g sc_compute rfl rfl fun cdv A outer s H E hr => ⟨_, (qs_cons (qsif (tcmp (op_eqD hr.units) o_eq (nomark _) (qv 0) qstr) (qs_one (qret (qband (qadd (qv 2) (qv 3)) (qcall C_top hr (by decide) (qa_v (qv 1) qa_nil))))) qs_nil)
  (qs_cons (qsif (tcmp (op_eqD hr.units) o_eq (nomark _) (qv 0) qstr) (qs_one (qret (qband (qsub (qv 2) (qv 3)) (qcall C_top hr (by decide) (qa_v (qv 1) qa_nil))))) qs_nil)
  (qs_cons (qsif (tcmp (op_eqD hr.units) o_eq (nomark _) (qv 0) qstr) (qs_one (qret (qband (qmul (qv 2) (qv 3)) (qcall C_top hr (by decide) (qa_v (qv 1) qa_nil))))) qs_nil)
  (qs_cons (qsif (tcmp (op_eqD hr.units) o_eq (nomark _) (qv 0) qstr) (qs_one (qret (qband (qv 2) (qv 3)))) qs_nil)
  (qs_cons (qsif (tcmp (op_eqD hr.units) o_eq (nomark _) (qv 0) qstr) (qs_one (qret (qbor (qv 2) (qv 3)))) qs_nil)
  (qs_cons (qsif (tcmp (op_eqD hr.units) o_eq (nomark _) (qv 0) qstr) (qs_one (qret (qbxor (qv 2) (qv 3)))) qs_nil)
  (qs_cons (qsif (tcmp (op_eqD hr.units) o_eq (nomark _) (qv 0) qstr) (qs_one (qret (qif (tcmp op_lt o_lt (nomark _) (qv 2) (qv 3)) qint qint))) qs_nil)
  (qs_cons (qsif (tcmp (op_eqD hr.units) o_eq (nomark _) (qv 0) qstr) (qs_one (qret (qif (tcmp (op_eqD hr.units) o_eq (nomark _) (qv 2) (qv 3)) qint qint))) qs_nil)
  (qs_cons (qsif (tcmp op_ge o_ge (nomark _) (qv 3) (qv 1)) (qs_one (qret qint)) qs_nil)
  (qs_cons (qsif (tcmp (op_eqD hr.units) o_eq (nomark _) (qv 0) qstr) (qs_one (qret (qband (qshl (qv 2) (qv 3)) (qcall C_top hr (by decide) (qa_v (qv 1) qa_nil))))) qs_nil)
  (qs_one (qret (qshr (qv 2) (qv 3))))))))))))))⟩
theorem ok_law_word {f : Addr} {fd : FuncData} (F : Fun K "_law_word" "_law_word" s_law_word f fd) (b : Binds K fd ["draw", "w"] []) (g : mg "_law_word" = some (.ref f)) (B : Bl mg) (C__law_take : Fd P w K mg base "_law_take" 1 ["draw", "many"] sem_law_take) (C__law_top : Fd P w K mg base "_law_top" 1 ["w"] sem_law_top) : Fd P w K mg base "_law_word" 2 ["draw", "w"] sem_law_word :=
  fd_mk F b g sc_law_word rfl rfl fun cdv A outer s H E hr => ⟨_, (qs_cons (qset 2 sc_law_word.nd (qcall C__law_take hr (by decide) (qa_r 0 (qa_v qint qa_nil))))
  (qs_cons (qsif (tcmp op_lt o_lt (nomark _) (qv 2) qint) (qs_one (qret (qb2 (call_min2 rfl) o_min2 PyProof.Rows.boot_min B.min_ (qidx (qlst (qa_v qint (qa_v qint (qa_v qint qa_nil)))) (qv 2)) (qcall C__law_top hr (by decide) (qa_v (qv 1) qa_nil))))) qs_nil)
  (qs_cons (qsif (tcmp (op_eqD hr.units) o_eq (nomark _) (qv 2) qint) (qs_one (qret (qcall C__law_top hr (by decide) (qa_v (qv 1) qa_nil)))) qs_nil)
  (qs_one (qret (qmod (qt1 call_int1 o_intOf PyProof.Rows.boot_int B.int_ (qcall C__law_take hr (by decide) (qa_r 0 (qa_v (qshl qint (qb2 (call_min2 rfl) o_min2 PyProof.Rows.boot_min B.min_ (qv 1) qint)) qa_nil)))) (qshl qint (qv 1))))))))⟩
theorem ok_law_compute {f : Addr} {fd : FuncData} (F : Fun K "_law_compute" "_law_compute" s_law_compute f fd) (b : Binds K fd ["op", "w", "x", "y"] []) (g : mg "_law_compute" = some (.ref f)) (B : Bl mg) : Fd P w K mg base "_law_compute" 1 ["op", "w", "x", "y"] sem_law_compute :=
  fd_mk F b g sc_law_compute rfl rfl fun cdv A outer s H E hr => ⟨_, (qs_cons (qset 4 sc_law_compute.nd (qshl qint (qv 1)))
  (qs_cons (qsif (tcmp (op_eqD hr.units) o_eq (nomark _) (qv 0) qstr) (qs_one (qret (qif (tcmp op_lt o_lt (nomark _) (qadd (qv 2) (qv 3)) (qv 4)) (qadd (qv 2) (qv 3)) (qsub (qadd (qv 2) (qv 3)) (qv 4))))) qs_nil)
  (qs_cons (qsif (tcmp (op_eqD hr.units) o_eq (nomark _) (qv 0) qstr) (qs_one (qret (qif (tcmp op_ge o_ge (nomark _) (qv 2) (qv 3)) (qsub (qv 2) (qv 3)) (qadd (qsub (qv 2) (qv 3)) (qv 4))))) qs_nil)
  (qs_cons (qsif (tcmp (op_eqD hr.units) o_eq (nomark _) (qv 0) qstr) (qs_one (qret (qsub (qmul (qv 2) (qv 3)) (qmul (qfdiv (qmul (qv 2) (qv 3)) (qv 4)) (qv 4))))) qs_nil)
  (qs_cons (qsif (tcmp op_in_seq o_in (by rfl) (qv 0) (qlst (qa_v qstr (qa_v qstr (qa_v qstr qa_nil))))) (qs_cons (qset 5 sc_law_compute.nd qint)
  (qs_cons (qfor PassesOwn.never rfl (irng1 B.range_ (qa_v (qv 1) qa_nil)) (gname 6 sc_law_compute.nd) (qs_cons (qset 7 sc_law_compute.nd (qadd (qmod (qfdiv (qv 2) (qshl qint (qv 6))) qint) (qmod (qfdiv (qv 3) (qshl qint (qv 6))) qint)))
  (qs_one (qsif (QW.q (wor (QW.q (wand (tcmp (op_eqD hr.units) o_eq (nomark _) (qv 0) qstr) (wand1 (tcmp (op_eqD hr.units) o_eq (nomark _) (qv 7) qint)))) (wor (QW.q (wand (tcmp (op_eqD hr.units) o_eq (nomark _) (qv 0) qstr) (wand1 (tcmp op_gt o_gt (nomark _) (qv 7) qint)))) (wor1 (QW.q (wand (tcmp (op_eqD hr.units) o_eq (nomark _) (qv 0) qstr) (wand1 (tcmp (op_eqD hr.units) o_eq (nomark _) (qv 7) qint)))))))) (qs_one (qset 5 sc_law_compute.nd (qadd (qv 5) (qshl qint (qv 6))))) qs_nil))))
  (qs_one (qret (qv 5))))) qs_nil)
  (qs_cons (qsif (tcmp (op_eqD hr.units) o_eq (nomark _) (qv 0) qstr) (qs_one (qret (qif (tcmp op_lt o_lt (nomark _) (qv 2) (qv 3)) qint qint))) qs_nil)
  (qs_cons (qsif (tcmp (op_eqD hr.units) o_eq (nomark _) (qv 0) qstr) (qs_one (qret (qif (tcmp (op_eqD hr.units) o_eq (nomark _) (qv 2) (qv 3)) qint qint))) qs_nil)
  (qs_cons (qsif (tcmp op_ge o_ge (nomark _) (qv 3) (qv 1)) (qs_one (qret qint)) qs_nil)
  (qs_cons (qsif (tcmp (op_eqD hr.units) o_eq (nomark _) (qv 0) qstr) (qs_one (qret (qfdiv (qv 2) (qshl qint (qv 3))))) qs_nil)
  (qs_one (qret (qsub (qmul (qv 2) (qshl qint (qv 3))) (qmul (qfdiv (qmul (qv 2) (qshl qint (qv 3))) (qv 4)) (qv 4))))))))))))))⟩
theorem ok_law {f : Addr} {fd : FuncData} (F : Fun K "law" "law" s_law f fd) (b : Binds K fd ["script"] []) (g : mg "law" = some (.ref f)) (B : Bl mg) (C__law_draw : Fd P w K mg base "_law_draw" 1 ["script"] sem_law_draw) (C__law_take : Fd P w K mg base "_law_take" 1 ["draw", "many"] sem_law_take) (C_top : Fd P w K mg base "top" 1 ["w"] sem_top) (C__law_top : Fd P w K mg base "_law_top" 1 ["w"] sem_law_top) (C_compute : Fd P w K mg base "compute" 2 ["op", "w", "x", "y"] sem_compute) (C__law_word : Fd P w K mg base "_law_word" 2 ["draw", "w"] sem_law_word) (C__law_compute : Fd P w K mg base "_law_compute" 1 ["op", "w", "x", "y"] sem_law_compute) (G_OPS : Gc K mg "OPS" c_OPS) : Fd P w K mg base "law" 3 ["script"] sem_law :=
  fd_mk F b g sc_law rfl rfl fun cdv A outer s H E hr => ⟨_, (qs_cons (qset 1 sc_law.nd (qcall C__law_draw hr (by decide) (qa_v (qv 0) qa_nil)))
  (qs_cons (qset 2 sc_law.nd (qlst (qa_v qstr (qa_v qstr (qa_v qstr (qa_v qstr (qa_v qstr (qa_v qstr (qa_v qstr (qa_v qstr (qa_v qstr (qa_v qstr qa_nil))))))))))))
  (qs_cons (qsif (tcmp (op_neD hr.units) o_ne (nomark _) (qt1 call_list_of o_list PyProof.Rows.boot_list B.list_ (qglob G_OPS)) (qv 2)) (qs_one (qret qbl)) qs_nil)
  (qs_cons (qfor PassesOwn.never rfl (irng1 B.range_ (qa_v qint qa_nil)) (gname 3 sc_law.nd) (qs_cons (qset 4 sc_law.nd (qidx (qlst (qa_v qint (qa_v qint (qa_v qint (qa_v qint (qa_v qint (qa_v qint (qa_v (qadd qint (qcall C__law_take hr (by decide) (qa_r 1 (qa_v qint qa_nil)))) qa_nil)))))))) (qcall C__law_take hr (by decide) (qa_r 1 (qa_v qint qa_nil)))))
  (qs_cons (qsif (tcmp (op_neD hr.units) o_ne (nomark _) (qcall C_top hr (by decide) (qa_v (qv 4) qa_nil)) (qsub (qshl qint (qv 4)) qint)) (qs_one (qret qbl)) qs_nil)
  (qs_cons (qset 5 sc_law.nd (qidx (qlst (qa_v (qcall C__law_word hr (by decide) (qa_r 1 (qa_v (qv 4) qa_nil))) (qa_v (qshl qint (qcall C__law_take hr (by decide) (qa_r 1 (qa_v (qv 4) qa_nil)))) (qa_v (qsub (qcall C__law_top hr (by decide) (qa_v (qv 4) qa_nil)) (qcall C__law_word hr (by decide) (qa_r 1 (qa_v (qv 4) qa_nil)))) qa_nil)))) (qcall C__law_take hr (by decide) (qa_r 1 (qa_v qint qa_nil)))))
  (qs_cons (qset 6 sc_law.nd (qidx (qlst (qa_v (qcall C__law_word hr (by decide) (qa_r 1 (qa_v (qv 4) qa_nil))) (qa_v (qv 5) (qa_v (qb2 (call_min2 rfl) o_min2 PyProof.Rows.boot_min B.min_ (qv 4) (qcall C__law_top hr (by decide) (qa_v (qv 4) qa_nil))) (qa_v (qb2 (call_min2 rfl) o_min2 PyProof.Rows.boot_min B.min_ (qsub (qv 4) qint) (qcall C__law_top hr (by decide) (qa_v (qv 4) qa_nil))) (qa_v (qcall C__law_take hr (by decide) (qa_r 1 (qa_v (qv 4) qa_nil))) qa_nil)))))) (qcall C__law_take hr (by decide) (qa_r 1 (qa_v qint qa_nil)))))
  (qs_cons (qset 6 sc_law.nd (qb2 (call_min2 rfl) o_min2 PyProof.Rows.boot_min B.min_ (qv 6) (qcall C__law_top hr (by decide) (qa_v (qv 4) qa_nil))))
  (qs_one (qfor PassesOwn.never rfl (iany (qv 2)) (gname 7 sc_law.nd) (qs_cons (qset 8 sc_law.nd (qcall C_compute hr (by decide) (qa_v (qv 7) (qa_v (qv 4) (qa_v (qv 5) (qa_v (qv 6) qa_nil))))))
  (qs_one (qsif (QW.q (wor (tnot (ttru (qisi PyProof.Rows.boot_int B.isinstance B.int_ (qv 8)))) (wor (ttru (qisi PyProof.Rows.boot_bool B.isinstance B.bool_ (qv 8))) (wor1 (tcmp (op_neD hr.units) o_ne (nomark _) (qv 8) (qcall C__law_compute hr (by decide) (qa_v (qv 7) (qa_v (qv 4) (qa_v (qv 5) (qa_v (qv 6) qa_nil)))))))))) (qs_one (qret qbl)) qs_nil)))))))))))
  (qs_one (qret qbl))))))⟩
theorem okf_law {f : Addr} {fd : FuncData} (F : Fun K "law" "law" s_law f fd) (B : Bl mg) (C__law_draw : Fd P w K mg base "_law_draw" 1 ["script"] sem_law_draw) (C__law_take : Fd P w K mg base "_law_take" 1 ["draw", "many"] sem_law_take) (C_top : Fd P w K mg base "top" 1 ["w"] sem_top) (C__law_top : Fd P w K mg base "_law_top" 1 ["w"] sem_law_top) (C_compute : Fd P w K mg base "compute" 2 ["op", "w", "x", "y"] sem_compute) (C__law_word : Fd P w K mg base "_law_word" 2 ["draw", "w"] sem_law_word) (C__law_compute : Fd P w K mg base "_law_compute" 1 ["op", "w", "x", "y"] sem_law_compute) (G_OPS : Gc K mg "OPS" c_OPS) : FnOk P w K mg base CX0 3 f fd ["script"] (spD K sem_law) :=
  fnD F sc_law rfl rfl fun cdv A outer s H E hr => ⟨_, (qs_cons (qset 1 sc_law.nd (qcall C__law_draw hr (by decide) (qa_v (qv 0) qa_nil)))
  (qs_cons (qset 2 sc_law.nd (qlst (qa_v qstr (qa_v qstr (qa_v qstr (qa_v qstr (qa_v qstr (qa_v qstr (qa_v qstr (qa_v qstr (qa_v qstr (qa_v qstr qa_nil))))))))))))
  (qs_cons (qsif (tcmp (op_neD hr.units) o_ne (nomark _) (qt1 call_list_of o_list PyProof.Rows.boot_list B.list_ (qglob G_OPS)) (qv 2)) (qs_one (qret qbl)) qs_nil)
  (qs_cons (qfor PassesOwn.never rfl (irng1 B.range_ (qa_v qint qa_nil)) (gname 3 sc_law.nd) (qs_cons (qset 4 sc_law.nd (qidx (qlst (qa_v qint (qa_v qint (qa_v qint (qa_v qint (qa_v qint (qa_v qint (qa_v (qadd qint (qcall C__law_take hr (by decide) (qa_r 1 (qa_v qint qa_nil)))) qa_nil)))))))) (qcall C__law_take hr (by decide) (qa_r 1 (qa_v qint qa_nil)))))
  (qs_cons (qsif (tcmp (op_neD hr.units) o_ne (nomark _) (qcall C_top hr (by decide) (qa_v (qv 4) qa_nil)) (qsub (qshl qint (qv 4)) qint)) (qs_one (qret qbl)) qs_nil)
  (qs_cons (qset 5 sc_law.nd (qidx (qlst (qa_v (qcall C__law_word hr (by decide) (qa_r 1 (qa_v (qv 4) qa_nil))) (qa_v (qshl qint (qcall C__law_take hr (by decide) (qa_r 1 (qa_v (qv 4) qa_nil)))) (qa_v (qsub (qcall C__law_top hr (by decide) (qa_v (qv 4) qa_nil)) (qcall C__law_word hr (by decide) (qa_r 1 (qa_v (qv 4) qa_nil)))) qa_nil)))) (qcall C__law_take hr (by decide) (qa_r 1 (qa_v qint qa_nil)))))
  (qs_cons (qset 6 sc_law.nd (qidx (qlst (qa_v (qcall C__law_word hr (by decide) (qa_r 1 (qa_v (qv 4) qa_nil))) (qa_v (qv 5) (qa_v (qb2 (call_min2 rfl) o_min2 PyProof.Rows.boot_min B.min_ (qv 4) (qcall C__law_top hr (by decide) (qa_v (qv 4) qa_nil))) (qa_v (qb2 (call_min2 rfl) o_min2 PyProof.Rows.boot_min B.min_ (qsub (qv 4) qint) (qcall C__law_top hr (by decide) (qa_v (qv 4) qa_nil))) (qa_v (qcall C__law_take hr (by decide) (qa_r 1 (qa_v (qv 4) qa_nil))) qa_nil)))))) (qcall C__law_take hr (by decide) (qa_r 1 (qa_v qint qa_nil)))))
  (qs_cons (qset 6 sc_law.nd (qb2 (call_min2 rfl) o_min2 PyProof.Rows.boot_min B.min_ (qv 6) (qcall C__law_top hr (by decide) (qa_v (qv 4) qa_nil))))
  (qs_one (qfor PassesOwn.never rfl (iany (qv 2)) (gname 7 sc_law.nd) (qs_cons (qset 8 sc_law.nd (qcall C_compute hr (by decide) (qa_v (qv 7) (qa_v (qv 4) (qa_v (qv 5) (qa_v (qv 6) qa_nil))))))
  (qs_one (qsif (QW.q (wor (tnot (ttru (qisi PyProof.Rows.boot_int B.isinstance B.int_ (qv 8)))) (wor (ttru (qisi PyProof.Rows.boot_bool B.isinstance B.bool_ (qv 8))) (wor1 (tcmp (op_neD hr.units) o_ne (nomark _) (qv 8) (qcall C__law_compute hr (by decide) (qa_v (qv 7) (qa_v (qv 4) (qa_v (qv 5) (qa_v (qv 6) qa_nil)))))))))) (qs_one (qret qbl)) qs_nil)))))))))))
  (qs_one (qret qbl))))))⟩
end
theorem all_mk (tl : ∀ ns : List Int, ns.length ≤ 63 → ∃ cs', sem_law [.val (scrD ns)] = some (.val (.bool true), cs')) {l : PySem.W.OpenLaw} {w : World} {K : PySem.W.Frag} {h : Heap} {mg : Str → Option Value} {fa : Addr} (X : K.In h) (G : h.Ns mainGlobals mg) (hfa : mg "law" = some (.ref fa))
    {f0 f1 f2 f3 f4 f5 f6 f7 : Addr} {od0 an0 od1 an1 od2 an2 od3 an3 od4 an4 od5 an5 od6 an6 od7 an7 : Option Addr} {sl0 sl1 sl2 sl3 sl4 sl5 sl6 sl7 : Array (Option Value)} {oc0 kV0 dc0 pm0 cd0 ct0 oc1 kV1 dc1 pm1 cd1 ct1 oc2 kV2 dc2 pm2 cd2 ct2 oc3 kV3 dc3 pm3 cd3 ct3 oc4 kV4 dc4 pm4 cd4 ct4 oc5 kV5 dc5 pm5 cd5 ct5 oc6 kV6 dc6 pm6 cd6 ct6 oc7 kV7 dc7 pm7 cd7 ct7 : Value}
    (a0 : PySem.W.nsIn K mainGlobals "_law_draw" = some (some (.ref f0))) (l0 : K.lookup f0 = some ⟨oc0, od0, .func (PySem.W.fnOf "_law_draw" "_law_draw" (defArgs s_law_draw) (defBody s_law_draw) (defScope s_law_draw) .none kV0 dc0 pm0 an0 cd0 ct0), sl0⟩) (c0 : PySem.W.codeIn K cd0 "_law_draw" = true) (k0 : PySem.W.keepIn K (.ref f0) = true)
    (a1 : PySem.W.nsIn K mainGlobals "_law_take" = some (some (.ref f1))) (l1 : K.lookup f1 = some ⟨oc1, od1, .func (PySem.W.fnOf "_law_take" "_law_take" (defArgs s_law_take) (defBody s_law_take) (defScope s_law_take) .none kV1 dc1 pm1 an1 cd1 ct1), sl1⟩) (c1 : PySem.W.codeIn K cd1 "_law_take" = true) (k1 : PySem.W.keepIn K (.ref f1) = true)
    (a2 : PySem.W.nsIn K mainGlobals "top" = some (some (.ref f2))) (l2 : K.lookup f2 = some ⟨oc2, od2, .func (PySem.W.fnOf "top" "top" (defArgs s_top) (defBody s_top) (defScope s_top) .none kV2 dc2 pm2 an2 cd2 ct2), sl2⟩) (c2 : PySem.W.codeIn K cd2 "top" = true) (k2 : PySem.W.keepIn K (.ref f2) = true)
    (a3 : PySem.W.nsIn K mainGlobals "_law_top" = some (some (.ref f3))) (l3 : K.lookup f3 = some ⟨oc3, od3, .func (PySem.W.fnOf "_law_top" "_law_top" (defArgs s_law_top) (defBody s_law_top) (defScope s_law_top) .none kV3 dc3 pm3 an3 cd3 ct3), sl3⟩) (c3 : PySem.W.codeIn K cd3 "_law_top" = true) (k3 : PySem.W.keepIn K (.ref f3) = true)
    (a4 : PySem.W.nsIn K mainGlobals "compute" = some (some (.ref f4))) (l4 : K.lookup f4 = some ⟨oc4, od4, .func (PySem.W.fnOf "compute" "compute" (defArgs s_compute) (defBody s_compute) (defScope s_compute) .none kV4 dc4 pm4 an4 cd4 ct4), sl4⟩) (c4 : PySem.W.codeIn K cd4 "compute" = true) (k4 : PySem.W.keepIn K (.ref f4) = true)
    (a5 : PySem.W.nsIn K mainGlobals "_law_word" = some (some (.ref f5))) (l5 : K.lookup f5 = some ⟨oc5, od5, .func (PySem.W.fnOf "_law_word" "_law_word" (defArgs s_law_word) (defBody s_law_word) (defScope s_law_word) .none kV5 dc5 pm5 an5 cd5 ct5), sl5⟩) (c5 : PySem.W.codeIn K cd5 "_law_word" = true) (k5 : PySem.W.keepIn K (.ref f5) = true)
    (a6 : PySem.W.nsIn K mainGlobals "_law_compute" = some (some (.ref f6))) (l6 : K.lookup f6 = some ⟨oc6, od6, .func (PySem.W.fnOf "_law_compute" "_law_compute" (defArgs s_law_compute) (defBody s_law_compute) (defScope s_law_compute) .none kV6 dc6 pm6 an6 cd6 ct6), sl6⟩) (c6 : PySem.W.codeIn K cd6 "_law_compute" = true) (k6 : PySem.W.keepIn K (.ref f6) = true)
    (a7 : PySem.W.nsIn K mainGlobals "law" = some (some (.ref f7))) (l7 : K.lookup f7 = some ⟨oc7, od7, .func (PySem.W.fnOf "law" "law" (defArgs s_law) (defBody s_law) (defScope s_law) .none kV7 dc7 pm7 an7 cd7 ct7), sl7⟩) (c7 : PySem.W.codeIn K cd7 "law" = true) (k7 : PySem.W.keepIn K (.ref f7) = true)
    (z_abs : PySem.W.nsIn K mainGlobals "abs" = some none)
    (z_bool : PySem.W.nsIn K mainGlobals "bool" = some none)
    (z_int : PySem.W.nsIn K mainGlobals "int" = some none)
    (z_isinstance : PySem.W.nsIn K mainGlobals "isinstance" = some none)
    (z_len : PySem.W.nsIn K mainGlobals "len" = some none)
    (z_list : PySem.W.nsIn K mainGlobals "list" = some none)
    (z_min : PySem.W.nsIn K mainGlobals "min" = some none)
    (z_range : PySem.W.nsIn K mainGlobals "range" = some none)
    {ga_OPS : Addr} {god_OPS : Option Addr} {gi_OPS : Array Value} {gn_OPS : Nat} {gs_OPS : Array (Option Value)} (gaOPS : PySem.W.nsIn K mainGlobals "OPS" = some (some (.ref ga_OPS))) (glOPS : K.lookup ga_OPS = some ⟨.type "tuple", god_OPS, .seq gi_OPS gn_OPS, gs_OPS⟩) (gzOPS : gi_OPS.size ≤ sizeLine) (gvOPS : gi_OPS.toList.map absV = xs_OPS.map some)
    : ∃ fd : FuncData, (∀ (s : Shared) (v : Value), BindsTo s fd ⟨[v], []⟩ [("script", v)]) ∧ ∀ base : Heap, K.In base → base.Ns mainGlobals mg → FnOk l.prog w K mg base CX0 3 fa fd ["script"] (spLaw K) := by
  have e := hfa.symm.trans (PySem.W.mg_of X G a7)
  cases e
  have B : Bl mg := ⟨PySem.W.mg_none_of X G z_abs, PySem.W.mg_none_of X G z_bool, PySem.W.mg_none_of X G z_int, PySem.W.mg_none_of X G z_isinstance, PySem.W.mg_none_of X G z_len, PySem.W.mg_none_of X G z_list, PySem.W.mg_none_of X G z_min, PySem.W.mg_none_of X G z_range⟩
  have G_OPS : Gc K mg "OPS" c_OPS := gc_tup (h := h) (ds := ds_OPS) (PySem.W.mg_of X G gaOPS) glOPS gzOPS gvOPS (by decide +kernel)
  have F0 := fun_mk (st := s_law_draw) l0 c0 k0
  have b0 := F0.binds (ps := ["script"]) fun _ _ _ _ _ _ us hl => match us, hl with | [_], _ => rfl
  have F1 := fun_mk (st := s_law_take) l1 c1 k1
  have b1 := F1.binds (ps := ["draw", "many"]) fun _ _ _ _ _ _ us hl => match us, hl with | [_, _], _ => rfl
  have F2 := fun_mk (st := s_top) l2 c2 k2
  have b2 := F2.binds (ps := ["w"]) fun _ _ _ _ _ _ us hl => match us, hl with | [_], _ => rfl
  have F3 := fun_mk (st := s_law_top) l3 c3 k3
  have b3 := F3.binds (ps := ["w"]) fun _ _ _ _ _ _ us hl => match us, hl with | [_], _ => rfl
  have F4 := fun_mk (st := s_compute) l4 c4 k4
  have b4 := F4.binds (ps := ["op", "w", "x", "y"]) fun _ _ _ _ _ _ us hl => match us, hl with | [_, _, _, _], _ => rfl
  have F5 := fun_mk (st := s_law_word) l5 c5 k5
  have b5 := F5.binds (ps := ["draw", "w"]) fun _ _ _ _ _ _ us hl => match us, hl with | [_, _], _ => rfl
  have F6 := fun_mk (st := s_law_compute) l6 c6 k6
  have b6 := F6.binds (ps := ["op", "w", "x", "y"]) fun _ _ _ _ _ _ us hl => match us, hl with | [_, _, _, _], _ => rfl
  have F7 := fun_mk (st := s_law) l7 c7 k7
  refine ⟨PySem.W.fnOf "law" "law" (defArgs s_law) (defBody s_law) (defScope s_law) .none kV7 dc7 pm7 an7 cd7 ct7, fun s v => .of_eq rfl, fun base _ _ => ?_⟩
  have C__law_draw : Fd l.prog w K mg base "_law_draw" 1 ["script"] sem_law_draw := ok_law_draw F0 b0 (PySem.W.mg_of X G a0) B 
  have C__law_take : Fd l.prog w K mg base "_law_take" 1 ["draw", "many"] sem_law_take := ok_law_take F1 b1 (PySem.W.mg_of X G a1) B 
  have C_top : Fd l.prog w K mg base "top" 1 ["w"] sem_top := ok_top F2 b2 (PySem.W.mg_of X G a2) B 
  have C__law_top : Fd l.prog w K mg base "_law_top" 1 ["w"] sem_law_top := ok_law_top F3 b3 (PySem.W.mg_of X G a3) B 
  have C_compute : Fd l.prog w K mg base "compute" 2 ["op", "w", "x", "y"] sem_compute := ok_compute F4 b4 (PySem.W.mg_of X G a4) B C_top
  have C__law_word : Fd l.prog w K mg base "_law_word" 2 ["draw", "w"] sem_law_word := ok_law_word F5 b5 (PySem.W.mg_of X G a5) B C__law_take C__law_top
  have C__law_compute : Fd l.prog w K mg base "_law_compute" 1 ["op", "w", "x", "y"] sem_law_compute := ok_law_compute F6 b6 (PySem.W.mg_of X G a6) B 
  exact law_ok (okf_law F7 B C__law_draw C__law_take C_top C__law_top C_compute C__law_word C__law_compute G_OPS) tl
end Lk00

namespace Lk00
open PySem PySem.Spec PySem.W PyProof.Rows L2 DL DL.C
theorem top_ok (w : Int) (h0 : 0 ≤ w) (h1 : w ≤ 32) : sem_top [.val (.int w)] = some (.val (.int (2 ^ w.toNat - 1)), [.val (.int w)]) := by
  refine Ok.eq ?_
  unfold sem_top
  refine ok_fn rfl ?_
  unfold m_top
  simp [h0]
  omega
theorem ltop_ok (w : Int) (h0 : 0 ≤ w) (h1 : w ≤ 32) : sem_law_top [.val (.int w)] = some (.val (.int (2 ^ w.toNat - 1)), [.val (.int w)]) := by
  refine Ok.eq ?_
  unfold sem_law_top
  refine ok_fn rfl ?_
  unfold m_law_top
  simp [h0]
  omega
/-- words of a width -/
structure Wd (w x y : Int) : Prop where
  w0 : 0 ≤ w
  w1 : w ≤ 32
  x0 : 0 ≤ x
  x1 : x < 2 ^ w.toNat
  y0 : 0 ≤ y
  y1 : y < 2 ^ w.toNat
theorem pow32 {w : Int} (h1 : w ≤ 32) : (2 : Int) ^ w.toNat ≤ 4294967296 := by
  have : (2 : Nat) ^ w.toNat ≤ 2 ^ 32 := Nat.pow_le_pow_right (by decide) (by omega)
  have e : ((2 ^ w.toNat : Nat) : Int) = 2 ^ w.toNat := kbt_cast _
  omega
def ar (op : String) (w x y : Int) : List Cell := [.val (.str op), .val (.int w), .val (.int x), .val (.int y)]

theorem Wd.P {w x y : Int} (h : Wd w x y) : 0 < (2 : Int) ^ w.toNat := kbt_pos _
theorem log_of {n : Int} (h0 : 0 < n) (h : n < 2 ^ 64) : n.natAbs.log2 < 9000 := by
  have : n.natAbs.log2 < 64 := (Nat.log2_lt (by omega)).mpr (by omega)
  omega
theorem mod_is {a P q r : Int} (hP : 0 < P) (h : r + P * q = a) (h0 : 0 ≤ r) (h1 : r < P) : r = a % P := (kbt_unique hP h h0 h1).2.symm
theorem comp_add {w x y : Int} (h : Wd w x y) : Ok (sem_compute (ar "add" w x y)) fun r => r = (.val (.int ((x + y) % 2 ^ w.toNat)), ar "add" w x y) := by
  unfold sem_compute ar
  refine ok_fn rfl ?_
  unfold m_compute m_compute_10 m_compute_9 m_compute_8 m_compute_7 m_compute_6 m_compute_5 m_compute_4 m_compute_3 m_compute_2 m_compute_1
  obtain ⟨w0, w1, x0, x1, y0, y1⟩ := h
  have hP : 0 < (2 : Int) ^ w.toNat := kbt_pos _
  have hP2 := pow32 w1
  have hl := log_of hP (by omega)
  have hw : w ≤ 1000000 := Int.le_trans w1 (by decide)
  simp [w0, w1, x0, y0, hP, hl, hw, br_iff, top_ok w w0 w1, kbt_mask]
theorem lcomp_add {w x y : Int} (h : Wd w x y) : Ok (sem_law_compute (ar "add" w x y)) fun r => r = (.val (.int ((x + y) % 2 ^ w.toNat)), ar "add" w x y) := by
  unfold sem_law_compute ar
  refine ok_fn rfl ?_
  unfold m_law_compute m_law_compute_13 m_law_compute_12 m_law_compute_11 m_law_compute_10 m_law_compute_9 m_law_compute_8 m_law_compute_7 m_law_compute_6 m_law_compute_5
  obtain ⟨w0, w1, x0, x1, y0, y1⟩ := h
  have hP : 0 < (2 : Int) ^ w.toNat := kbt_pos _
  have hP2 := pow32 w1
  have hl := log_of hP (by omega)
  have hw : w ≤ 1000000 := Int.le_trans w1 (by decide)
  simp [w0, w1, x0, y0, hP, hl, hw, br_iff, top_ok w w0 w1, kbt_mask]
  exact ⟨fun g => mod_is hP (q := 0) (by omega) (by omega) g, fun g => mod_is hP (q := 1) (by omega) (by omega) (by omega)⟩
theorem comp_sub {w x y : Int} (h : Wd w x y) : Ok (sem_compute (ar "sub" w x y)) fun r => r = (.val (.int ((x - y) % 2 ^ w.toNat)), ar "sub" w x y) := by
  unfold sem_compute ar
  refine ok_fn rfl ?_
  unfold m_compute m_compute_10 m_compute_9 m_compute_8 m_compute_7 m_compute_6 m_compute_5 m_compute_4 m_compute_3 m_compute_2 m_compute_1
  obtain ⟨w0, w1, x0, x1, y0, y1⟩ := h
  have hP : 0 < (2 : Int) ^ w.toNat := kbt_pos _
  have hP2 := pow32 w1
  have hl := log_of hP (by omega)
  have hw : w ≤ 1000000 := Int.le_trans w1 (by decide)
  simp [w0, w1, x0, y0, hP, hl, hw, br_iff, top_ok w w0 w1, kbt_mask]
theorem lcomp_sub {w x y : Int} (h : Wd w x y) : Ok (sem_law_compute (ar "sub" w x y)) fun r => r = (.val (.int ((x - y) % 2 ^ w.toNat)), ar "sub" w x y) := by
  unfold sem_law_compute ar
  refine ok_fn rfl ?_
  unfold m_law_compute m_law_compute_13 m_law_compute_12 m_law_compute_11 m_law_compute_10 m_law_compute_9 m_law_compute_8 m_law_compute_7 m_law_compute_6 m_law_compute_5
  obtain ⟨w0, w1, x0, x1, y0, y1⟩ := h
  have hP : 0 < (2 : Int) ^ w.toNat := kbt_pos _
  have hP2 := pow32 w1
  have hl := log_of hP (by omega)
  have hw : w ≤ 1000000 := Int.le_trans w1 (by decide)
  simp [w0, w1, x0, y0, hP, hl, hw, br_iff, top_ok w w0 w1, kbt_mask]
  exact ⟨fun g => mod_is hP (q := 0) (by omega) (by omega) (by omega), fun g => mod_is hP (q := -1) (by omega) (by omega) (by omega)⟩
theorem comp_mul {w x y : Int} (h : Wd w x y) : Ok (sem_compute (ar "mul" w x y)) fun r => r = (.val (.int ((x * y) % 2 ^ w.toNat)), ar "mul" w x y) := by
  unfold sem_compute ar
  refine ok_fn rfl ?_
  unfold m_compute m_compute_10 m_compute_9 m_compute_8 m_compute_7 m_compute_6 m_compute_5 m_compute_4 m_compute_3 m_compute_2 m_compute_1
  obtain ⟨w0, w1, x0, x1, y0, y1⟩ := h
  have hP : 0 < (2 : Int) ^ w.toNat := kbt_pos _
  have hP2 := pow32 w1
  have hl := log_of hP (by omega)
  have hw : w ≤ 1000000 := Int.le_trans w1 (by decide)
  simp [w0, w1, x0, y0, hP, hl, hw, br_iff, top_ok w w0 w1, kbt_mask]
  omega
theorem lcomp_mul {w x y : Int} (h : Wd w x y) : Ok (sem_law_compute (ar "mul" w x y)) fun r => r = (.val (.int ((x * y) % 2 ^ w.toNat)), ar "mul" w x y) := by
  unfold sem_law_compute ar
  refine ok_fn rfl ?_
  unfold m_law_compute m_law_compute_13 m_law_compute_12 m_law_compute_11 m_law_compute_10 m_law_compute_9 m_law_compute_8 m_law_compute_7 m_law_compute_6 m_law_compute_5
  obtain ⟨w0, w1, x0, x1, y0, y1⟩ := h
  have hP : 0 < (2 : Int) ^ w.toNat := kbt_pos _
  have hP2 := pow32 w1
  have hl := log_of hP (by omega)
  have hw : w ≤ 1000000 := Int.le_trans w1 (by decide)
  simp [w0, w1, x0, y0, hP, hl, hw, br_iff, top_ok w w0 w1, kbt_mask]
  exact ⟨by omega, by omega, .inr ⟨by omega, by omega⟩, by rw [Int.mul_comm (x * y / _), Int.emod_def]⟩
theorem comp_and {w x y : Int} (h : Wd w x y) : Ok (sem_compute (ar "and" w x y)) fun r => r = (.val (.int (Builtin.bitAnd x y)), ar "and" w x y) := by
  unfold sem_compute ar
  refine ok_fn rfl ?_
  unfold m_compute m_compute_10 m_compute_9 m_compute_8 m_compute_7 m_compute_6 m_compute_5 m_compute_4 m_compute_3 m_compute_2 m_compute_1
  obtain ⟨w0, w1, x0, x1, y0, y1⟩ := h
  have hP : 0 < (2 : Int) ^ w.toNat := kbt_pos _
  have hP2 := pow32 w1
  have hl := log_of hP (by omega)
  have hw : w ≤ 1000000 := Int.le_trans w1 (by decide)
  simp [w0, w1, x0, y0, hP, hl, hw, br_iff, top_ok w w0 w1, kbt_mask]
theorem comp_or {w x y : Int} (h : Wd w x y) : Ok (sem_compute (ar "or" w x y)) fun r => r = (.val (.int (Builtin.bitOr x y)), ar "or" w x y) := by
  unfold sem_compute ar
  refine ok_fn rfl ?_
  unfold m_compute m_compute_10 m_compute_9 m_compute_8 m_compute_7 m_compute_6 m_compute_5 m_compute_4 m_compute_3 m_compute_2 m_compute_1
  obtain ⟨w0, w1, x0, x1, y0, y1⟩ := h
  have hP : 0 < (2 : Int) ^ w.toNat := kbt_pos _
  have hP2 := pow32 w1
  have hl := log_of hP (by omega)
  have hw : w ≤ 1000000 := Int.le_trans w1 (by decide)
  simp [w0, w1, x0, y0, hP, hl, hw, br_iff, top_ok w w0 w1, kbt_mask]
theorem comp_xor {w x y : Int} (h : Wd w x y) : Ok (sem_compute (ar "xor" w x y)) fun r => r = (.val (.int (Builtin.bitXor x y)), ar "xor" w x y) := by
  unfold sem_compute ar
  refine ok_fn rfl ?_
  unfold m_compute m_compute_10 m_compute_9 m_compute_8 m_compute_7 m_compute_6 m_compute_5 m_compute_4 m_compute_3 m_compute_2 m_compute_1
  obtain ⟨w0, w1, x0, x1, y0, y1⟩ := h
  have hP : 0 < (2 : Int) ^ w.toNat := kbt_pos _
  have hP2 := pow32 w1
  have hl := log_of hP (by omega)
  have hw : w ≤ 1000000 := Int.le_trans w1 (by decide)
  simp [w0, w1, x0, y0, hP, hl, hw, br_iff, top_ok w w0 w1, kbt_mask]
theorem comp_less {w x y : Int} (h : Wd w x y) : Ok (sem_compute (ar "less" w x y)) fun r => r = (.val (.int (if x < y then 1 else 0)), ar "less" w x y) := by
  unfold sem_compute ar
  refine ok_fn rfl ?_
  unfold m_compute m_compute_10 m_compute_9 m_compute_8 m_compute_7 m_compute_6 m_compute_5 m_compute_4 m_compute_3 m_compute_2 m_compute_1
  obtain ⟨w0, w1, x0, x1, y0, y1⟩ := h
  have hP : 0 < (2 : Int) ^ w.toNat := kbt_pos _
  have hP2 := pow32 w1
  have hl := log_of hP (by omega)
  have hw : w ≤ 1000000 := Int.le_trans w1 (by decide)
  simp [w0, w1, x0, y0, hP, hl, hw, br_iff, top_ok w w0 w1, kbt_mask]
theorem lcomp_less {w x y : Int} (h : Wd w x y) : Ok (sem_law_compute (ar "less" w x y)) fun r => r = (.val (.int (if x < y then 1 else 0)), ar "less" w x y) := by
  unfold sem_law_compute ar
  refine ok_fn rfl ?_
  unfold m_law_compute m_law_compute_13 m_law_compute_12 m_law_compute_11 m_law_compute_10 m_law_compute_9 m_law_compute_8 m_law_compute_7 m_law_compute_6 m_law_compute_5
  obtain ⟨w0, w1, x0, x1, y0, y1⟩ := h
  have hP : 0 < (2 : Int) ^ w.toNat := kbt_pos _
  have hP2 := pow32 w1
  have hl := log_of hP (by omega)
  have hw : w ≤ 1000000 := Int.le_trans w1 (by decide)
  simp [w0, w1, x0, y0, hP, hl, hw, br_iff, top_ok w w0 w1, kbt_mask]
theorem comp_equal {w x y : Int} (h : Wd w x y) : Ok (sem_compute (ar "equal" w x y)) fun r => r = (.val (.int (if x = y then 1 else 0)), ar "equal" w x y) := by
  unfold sem_compute ar
  refine ok_fn rfl ?_
  unfold m_compute m_compute_10 m_compute_9 m_compute_8 m_compute_7 m_compute_6 m_compute_5 m_compute_4 m_compute_3 m_compute_2 m_compute_1
  obtain ⟨w0, w1, x0, x1, y0, y1⟩ := h
  have hP : 0 < (2 : Int) ^ w.toNat := kbt_pos _
  have hP2 := pow32 w1
  have hl := log_of hP (by omega)
  have hw : w ≤ 1000000 := Int.le_trans w1 (by decide)
  simp [w0, w1, x0, y0, hP, hl, hw, br_iff, top_ok w w0 w1, kbt_mask]
theorem lcomp_equal {w x y : Int} (h : Wd w x y) : Ok (sem_law_compute (ar "equal" w x y)) fun r => r = (.val (.int (if x = y then 1 else 0)), ar "equal" w x y) := by
  unfold sem_law_compute ar
  refine ok_fn rfl ?_
  unfold m_law_compute m_law_compute_13 m_law_compute_12 m_law_compute_11 m_law_compute_10 m_law_compute_9 m_law_compute_8 m_law_compute_7 m_law_compute_6 m_law_compute_5
  obtain ⟨w0, w1, x0, x1, y0, y1⟩ := h
  have hP : 0 < (2 : Int) ^ w.toNat := kbt_pos _
  have hP2 := pow32 w1
  have hl := log_of hP (by omega)
  have hw : w ≤ 1000000 := Int.le_trans w1 (by decide)
  simp [w0, w1, x0, y0, hP, hl, hw, br_iff, top_ok w w0 w1, kbt_mask]
theorem comp_shl {w x y : Int} (h : Wd w x y) : Ok (sem_compute (ar "shl" w x y)) fun r => r = (.val (.int (if w ≤ y then 0 else x * 2 ^ y.toNat % 2 ^ w.toNat)), ar "shl" w x y) := by
  unfold sem_compute ar
  refine ok_fn rfl ?_
  unfold m_compute m_compute_10 m_compute_9 m_compute_8 m_compute_7 m_compute_6 m_compute_5 m_compute_4 m_compute_3 m_compute_2 m_compute_1
  obtain ⟨w0, w1, x0, x1, y0, y1⟩ := h
  have hP : 0 < (2 : Int) ^ w.toNat := kbt_pos _
  have hP2 := pow32 w1
  have hl := log_of hP (by omega)
  have hw : w ≤ 1000000 := Int.le_trans w1 (by decide)
  simp [w0, w1, x0, y0, hP, hl, hw, br_iff, top_ok w w0 w1, kbt_mask]
  exact ⟨fun a b => by omega, fun a => ⟨by omega, fun b => by omega⟩⟩
theorem lcomp_shl {w x y : Int} (h : Wd w x y) : Ok (sem_law_compute (ar "shl" w x y)) fun r => r = (.val (.int (if w ≤ y then 0 else x * 2 ^ y.toNat % 2 ^ w.toNat)), ar "shl" w x y) := by
  unfold sem_law_compute ar
  refine ok_fn rfl ?_
  unfold m_law_compute m_law_compute_13 m_law_compute_12 m_law_compute_11 m_law_compute_10 m_law_compute_9 m_law_compute_8 m_law_compute_7 m_law_compute_6 m_law_compute_5
  obtain ⟨w0, w1, x0, x1, y0, y1⟩ := h
  have hP : 0 < (2 : Int) ^ w.toNat := kbt_pos _
  have hP2 := pow32 w1
  have hl := log_of hP (by omega)
  have hw : w ≤ 1000000 := Int.le_trans w1 (by decide)
  simp [w0, w1, x0, y0, hP, hl, hw, br_iff, top_ok w w0 w1, kbt_mask]
  refine ⟨fun a b => by omega, fun a => ⟨by omega, by omega, by omega, by omega, by omega, .inr ⟨by omega, by omega⟩, ?_⟩⟩
  rw [if_neg (by omega), Int.mul_comm (_ / _), Int.emod_def]
theorem comp_shr {w x y : Int} (h : Wd w x y) : Ok (sem_compute (ar "shr" w x y)) fun r => r = (.val (.int (if w ≤ y then 0 else x / 2 ^ y.toNat)), ar "shr" w x y) := by
  unfold sem_compute ar
  refine ok_fn rfl ?_
  unfold m_compute m_compute_10 m_compute_9 m_compute_8 m_compute_7 m_compute_6 m_compute_5 m_compute_4 m_compute_3 m_compute_2 m_compute_1
  obtain ⟨w0, w1, x0, x1, y0, y1⟩ := h
  have hP : 0 < (2 : Int) ^ w.toNat := kbt_pos _
  have hP2 := pow32 w1
  have hl := log_of hP (by omega)
  have hw : w ≤ 1000000 := Int.le_trans w1 (by decide)
  simp [w0, w1, x0, y0, hP, hl, hw, br_iff, top_ok w w0 w1, kbt_mask]
  exact ⟨fun a b => by omega, fun a b => by omega⟩
theorem lcomp_shr {w x y : Int} (h : Wd w x y) : Ok (sem_law_compute (ar "shr" w x y)) fun r => r = (.val (.int (if w ≤ y then 0 else x / 2 ^ y.toNat)), ar "shr" w x y) := by
  unfold sem_law_compute ar
  refine ok_fn rfl ?_
  unfold m_law_compute m_law_compute_13 m_law_compute_12 m_law_compute_11 m_law_compute_10 m_law_compute_9 m_law_compute_8 m_law_compute_7 m_law_compute_6 m_law_compute_5
  obtain ⟨w0, w1, x0, x1, y0, y1⟩ := h
  have hP : 0 < (2 : Int) ^ w.toNat := kbt_pos _
  have hP2 := pow32 w1
  have hl := log_of hP (by omega)
  have hw : w ≤ 1000000 := Int.le_trans w1 (by decide)
  simp [w0, w1, x0, y0, hP, hl, hw, br_iff, top_ok w w0 w1, kbt_mask]
  exact ⟨fun a b => by omega, fun a => ⟨by omega, ⟨kbt_pos _, by omega⟩, fun b => by omega⟩⟩

/-! and, or, xor bit by bit -/
theorem nat_step (n k : Nat) : n % 2 ^ (k + 1) = n % 2 ^ k + 2 ^ k * (n / 2 ^ k % 2) := Nat.mod_pow_succ
theorem and_bit (a b k : Nat) : (a &&& b) / 2 ^ k % 2 = (a / 2 ^ k % 2) * (b / 2 ^ k % 2) := by
  rw [← Nat.shiftRight_eq_div_pow, ← Nat.shiftRight_eq_div_pow, ← Nat.shiftRight_eq_div_pow, Nat.shiftRight_and_distrib]
  have h := @Nat.and_mod_two_pow (a >>> k) (b >>> k) 1
  rw [Nat.pow_one] at h
  rw [h]
  rcases Nat.mod_two_eq_zero_or_one (a >>> k) with h | h <;> rcases Nat.mod_two_eq_zero_or_one (b >>> k) with h' | h' <;> rw [h, h'] <;> rfl
theorem bitOr_and (x y : Int) : Builtin.bitOr x y = x + y - Builtin.bitAnd x y := by
  have h := bitXor_and x y
  unfold Builtin.bitXor at h
  omega
/-- what stands in found behind so many bits: a sum of places where the two bits' sum is as told -/
def part (f : Nat → Nat) (a b : Nat) : Nat → Nat
  | 0 => 0
  | k + 1 => part f a b k + 2 ^ k * f (a / 2 ^ k % 2 + b / 2 ^ k % 2)
theorem part_and (a b k : Nat) : part (fun s => if s = 2 then 1 else 0) a b k = (a &&& b) % 2 ^ k := by
  induction k with
  | zero => simp [part, Nat.mod_one]
  | succ k ih =>
    rw [part, ih, nat_step, and_bit]
    rcases Nat.mod_two_eq_zero_or_one (a / 2 ^ k) with h | h <;> rcases Nat.mod_two_eq_zero_or_one (b / 2 ^ k) with h' | h' <;> simp [h, h']
theorem part_or (a b k : Nat) : part (fun s => if 0 < s then 1 else 0) a b k + (a &&& b) % 2 ^ k = a % 2 ^ k + b % 2 ^ k := by
  induction k with
  | zero => simp [part, Nat.mod_one]
  | succ k ih =>
    rw [part, nat_step, nat_step a, nat_step b, and_bit]
    rcases Nat.mod_two_eq_zero_or_one (a / 2 ^ k) with h | h <;> rcases Nat.mod_two_eq_zero_or_one (b / 2 ^ k) with h' | h' <;> simp [h, h'] <;> omega
theorem part_xor (a b k : Nat) : part (fun s => if s = 1 then 1 else 0) a b k + 2 * ((a &&& b) % 2 ^ k) = a % 2 ^ k + b % 2 ^ k := by
  induction k with
  | zero => simp [part, Nat.mod_one]
  | succ k ih =>
    rw [part, nat_step, nat_step a, nat_step b, and_bit]
    rcases Nat.mod_two_eq_zero_or_one (a / 2 ^ k) with h | h <;> rcases Nat.mod_two_eq_zero_or_one (b / 2 ^ k) with h' | h' <;> simp [h, h'] <;> omega

theorem lcomp_andL {w x y : Int} (h : Wd w x y) : Ok (m_law_compute_4 [some (.val (.str "and")), some (.val (.int w)), some (.val (.int x)), some (.val (.int y)), some (.val (.int (2 ^ w.toNat))), some (.val (.int 0)), none, none]) fun o => ∃ ρ, o = .rt (.val (.int (part (fun s => if s = 2 then 1 else 0) x.toNat y.toNat w.toNat : Nat))) (some (.val (.str "and")) :: some (.val (.int w)) :: some (.val (.int x)) :: some (.val (.int y)) :: ρ) := by
  obtain ⟨w0, w1, x0, x1, y0, y1⟩ := h
  unfold m_law_compute_4 m_law_compute_3
  simp
  refine ⟨by omega, ok_upto (fun i ρ => ∃ c d, isRefB (some c) = false ∧ isRefB (some d) = false ∧ ρ = [some (.val (.str "and")), some (.val (.int w)), some (.val (.int x)), some (.val (.int y)), some (.val (.int (2 ^ w.toNat))), some (.val (.int (part (fun s => if s = 2 then 1 else 0) x.toNat y.toNat i : Nat))), c, d]) ⟨none, none, rfl, rfl, rfl⟩ ?_ ?_⟩
  · rintro i ρ hi ⟨c, d', hc, hd', rfl⟩
    obtain ⟨X, rfl⟩ := Int.eq_ofNat_of_zero_le x0
    obtain ⟨Y, rfl⟩ := Int.eq_ofNat_of_zero_le y0
    unfold m_law_compute_2 m_law_compute_1
    simp [hc, hd', br_iff, kbt_pos]
    have hX : (X : Int) / 2 ^ i % 2 = ((X / 2 ^ i % 2 : Nat) : Int) := by simp [Int.natCast_emod, Int.natCast_ediv, Int.natCast_pow]
    have hY : (Y : Int) / 2 ^ i % 2 = ((Y / 2 ^ i % 2 : Nat) : Int) := by simp [Int.natCast_emod, Int.natCast_ediv, Int.natCast_pow]
    refine ⟨by omega, by omega, by omega, by omega, fun e => ⟨by omega, some (.val (.int i)), rfl, some (.val (.int _)), rfl, ?_, rfl, rfl⟩, fun e => ⟨some (.val (.int i)), rfl, some (.val (.int _)), rfl, ?_, rfl, rfl⟩⟩
    · rw [hX, hY] at e
      rw [part, if_pos (by omega), Nat.mul_one, Int.natCast_add, kbt_cast]
    · rw [hX, hY] at e
      rw [part, if_neg (by omega), Nat.mul_zero, Nat.add_zero]
  · rintro ρ ⟨c, d', hc, hd', rfl⟩
    simp

theorem lcomp_orL {w x y : Int} (h : Wd w x y) : Ok (m_law_compute_4 [some (.val (.str "or")), some (.val (.int w)), some (.val (.int x)), some (.val (.int y)), some (.val (.int (2 ^ w.toNat))), some (.val (.int 0)), none, none]) fun o => ∃ ρ, o = .rt (.val (.int (part (fun s => if 0 < s then 1 else 0) x.toNat y.toNat w.toNat : Nat))) (some (.val (.str "or")) :: some (.val (.int w)) :: some (.val (.int x)) :: some (.val (.int y)) :: ρ) := by
  obtain ⟨w0, w1, x0, x1, y0, y1⟩ := h
  unfold m_law_compute_4 m_law_compute_3
  simp
  refine ⟨by omega, ok_upto (fun i ρ => ∃ c d, isRefB (some c) = false ∧ isRefB (some d) = false ∧ ρ = [some (.val (.str "or")), some (.val (.int w)), some (.val (.int x)), some (.val (.int y)), some (.val (.int (2 ^ w.toNat))), some (.val (.int (part (fun s => if 0 < s then 1 else 0) x.toNat y.toNat i : Nat))), c, d]) ⟨none, none, rfl, rfl, rfl⟩ ?_ ?_⟩
  · rintro i ρ hi ⟨c, d', hc, hd', rfl⟩
    obtain ⟨X, rfl⟩ := Int.eq_ofNat_of_zero_le x0
    obtain ⟨Y, rfl⟩ := Int.eq_ofNat_of_zero_le y0
    unfold m_law_compute_2 m_law_compute_1
    simp [hc, hd', br_iff, kbt_pos]
    have hX : (X : Int) / 2 ^ i % 2 = ((X / 2 ^ i % 2 : Nat) : Int) := by simp [Int.natCast_emod, Int.natCast_ediv, Int.natCast_pow]
    have hY : (Y : Int) / 2 ^ i % 2 = ((Y / 2 ^ i % 2 : Nat) : Int) := by simp [Int.natCast_emod, Int.natCast_ediv, Int.natCast_pow]
    refine ⟨by omega, by omega, by omega, by omega, fun e => ⟨by omega, some (.val (.int i)), rfl, some (.val (.int _)), rfl, ?_, rfl, rfl⟩, fun e => ⟨some (.val (.int i)), rfl, some (.val (.int _)), rfl, ?_, rfl, rfl⟩⟩
    · rw [hX, hY] at e
      rw [part, if_pos (by omega), Nat.mul_one, Int.natCast_add, kbt_cast]
    · rw [hX, hY] at e
      rw [part, if_neg (by omega), Nat.mul_zero, Nat.add_zero]
  · rintro ρ ⟨c, d', hc, hd', rfl⟩
    simp

theorem lcomp_xorL {w x y : Int} (h : Wd w x y) : Ok (m_law_compute_4 [some (.val (.str "xor")), some (.val (.int w)), some (.val (.int x)), some (.val (.int y)), some (.val (.int (2 ^ w.toNat))), some (.val (.int 0)), none, none]) fun o => ∃ ρ, o = .rt (.val (.int (part (fun s => if s = 1 then 1 else 0) x.toNat y.toNat w.toNat : Nat))) (some (.val (.str "xor")) :: some (.val (.int w)) :: some (.val (.int x)) :: some (.val (.int y)) :: ρ) := by
  obtain ⟨w0, w1, x0, x1, y0, y1⟩ := h
  unfold m_law_compute_4 m_law_compute_3
  simp
  refine ⟨by omega, ok_upto (fun i ρ => ∃ c d, isRefB (some c) = false ∧ isRefB (some d) = false ∧ ρ = [some (.val (.str "xor")), some (.val (.int w)), some (.val (.int x)), some (.val (.int y)), some (.val (.int (2 ^ w.toNat))), some (.val (.int (part (fun s => if s = 1 then 1 else 0) x.toNat y.toNat i : Nat))), c, d]) ⟨none, none, rfl, rfl, rfl⟩ ?_ ?_⟩
  · rintro i ρ hi ⟨c, d', hc, hd', rfl⟩
    obtain ⟨X, rfl⟩ := Int.eq_ofNat_of_zero_le x0
    obtain ⟨Y, rfl⟩ := Int.eq_ofNat_of_zero_le y0
    unfold m_law_compute_2 m_law_compute_1
    simp [hc, hd', br_iff, kbt_pos]
    have hX : (X : Int) / 2 ^ i % 2 = ((X / 2 ^ i % 2 : Nat) : Int) := by simp [Int.natCast_emod, Int.natCast_ediv, Int.natCast_pow]
    have hY : (Y : Int) / 2 ^ i % 2 = ((Y / 2 ^ i % 2 : Nat) : Int) := by simp [Int.natCast_emod, Int.natCast_ediv, Int.natCast_pow]
    refine ⟨by omega, by omega, by omega, by omega, fun e => ⟨by omega, some (.val (.int i)), rfl, some (.val (.int _)), rfl, ?_, rfl, rfl⟩, fun e => ⟨some (.val (.int i)), rfl, some (.val (.int _)), rfl, ?_, rfl, rfl⟩⟩
    · rw [hX, hY] at e
      rw [part, if_pos (by omega), Nat.mul_one, Int.natCast_add, kbt_cast]
    · rw [hX, hY] at e
      rw [part, if_neg (by omega), Nat.mul_zero, Nat.add_zero]
  · rintro ρ ⟨c, d', hc, hd', rfl⟩
    simp
theorem lcomp_and {w x y : Int} (h : Wd w x y) : Ok (sem_law_compute (ar "and" w x y)) fun r => r = (.val (.int (Builtin.bitAnd x y)), ar "and" w x y) := by
  unfold sem_law_compute ar
  refine ok_fn rfl ?_
  unfold m_law_compute m_law_compute_13 m_law_compute_12 m_law_compute_11 m_law_compute_10
  have h' := h
  obtain ⟨w0, w1, x0, x1, y0, y1⟩ := h'
  have hw : w ≤ 1000000 := Int.le_trans w1 (by decide)
  simp [w0, hw]
  refine (lcomp_andL h).mono fun o ho => ?_
  obtain ⟨ρ, rfl⟩ := ho
  simp
  obtain ⟨X, rfl⟩ := Int.eq_ofNat_of_zero_le x0
  obtain ⟨Y, rfl⟩ := Int.eq_ofNat_of_zero_le y0
  have cc := kbt_cast w.toNat
  have hX : X % 2 ^ w.toNat = X := Nat.mod_eq_of_lt (by omega)
  have hY : Y % 2 ^ w.toNat = Y := Nat.mod_eq_of_lt (by omega)
  have hA : (X &&& Y) % 2 ^ w.toNat = X &&& Y := Nat.mod_eq_of_lt (Nat.lt_of_le_of_lt Nat.and_le_left (by omega))
  have hB : Builtin.bitAnd (X : Int) (Y : Int) = ((X &&& Y : Nat) : Int) := by unfold Builtin.bitAnd; simp
  simp only [Int.toNat_natCast]
  rw [part_and]
  rw [hB]
  omega
theorem lcomp_or {w x y : Int} (h : Wd w x y) : Ok (sem_law_compute (ar "or" w x y)) fun r => r = (.val (.int (Builtin.bitOr x y)), ar "or" w x y) := by
  unfold sem_law_compute ar
  refine ok_fn rfl ?_
  unfold m_law_compute m_law_compute_13 m_law_compute_12 m_law_compute_11 m_law_compute_10
  have h' := h
  obtain ⟨w0, w1, x0, x1, y0, y1⟩ := h'
  have hw : w ≤ 1000000 := Int.le_trans w1 (by decide)
  simp [w0, hw]
  refine (lcomp_orL h).mono fun o ho => ?_
  obtain ⟨ρ, rfl⟩ := ho
  simp
  obtain ⟨X, rfl⟩ := Int.eq_ofNat_of_zero_le x0
  obtain ⟨Y, rfl⟩ := Int.eq_ofNat_of_zero_le y0
  have cc := kbt_cast w.toNat
  have hX : X % 2 ^ w.toNat = X := Nat.mod_eq_of_lt (by omega)
  have hY : Y % 2 ^ w.toNat = Y := Nat.mod_eq_of_lt (by omega)
  have hA : (X &&& Y) % 2 ^ w.toNat = X &&& Y := Nat.mod_eq_of_lt (Nat.lt_of_le_of_lt Nat.and_le_left (by omega))
  have hB : Builtin.bitAnd (X : Int) (Y : Int) = ((X &&& Y : Nat) : Int) := by unfold Builtin.bitAnd; simp
  simp only [Int.toNat_natCast]
  have := part_or X Y w.toNat; rw [bitOr_and]
  rw [hB]
  omega
theorem lcomp_xor {w x y : Int} (h : Wd w x y) : Ok (sem_law_compute (ar "xor" w x y)) fun r => r = (.val (.int (Builtin.bitXor x y)), ar "xor" w x y) := by
  unfold sem_law_compute ar
  refine ok_fn rfl ?_
  unfold m_law_compute m_law_compute_13 m_law_compute_12 m_law_compute_11 m_law_compute_10
  have h' := h
  obtain ⟨w0, w1, x0, x1, y0, y1⟩ := h'
  have hw : w ≤ 1000000 := Int.le_trans w1 (by decide)
  simp [w0, hw]
  refine (lcomp_xorL h).mono fun o ho => ?_
  obtain ⟨ρ, rfl⟩ := ho
  simp
  obtain ⟨X, rfl⟩ := Int.eq_ofNat_of_zero_le x0
  obtain ⟨Y, rfl⟩ := Int.eq_ofNat_of_zero_le y0
  have cc := kbt_cast w.toNat
  have hX : X % 2 ^ w.toNat = X := Nat.mod_eq_of_lt (by omega)
  have hY : Y % 2 ^ w.toNat = Y := Nat.mod_eq_of_lt (by omega)
  have hA : (X &&& Y) % 2 ^ w.toNat = X &&& Y := Nat.mod_eq_of_lt (Nat.lt_of_le_of_lt Nat.and_le_left (by omega))
  have hB : Builtin.bitAnd (X : Int) (Y : Int) = ((X &&& Y : Nat) : Int) := by unfold Builtin.bitAnd; simp
  simp only [Int.toNat_natCast]
  have := part_xor X Y w.toNat; rw [bitXor_and]
  rw [hB]
  omega
theorem ok_all {xs : List DL.D} {i : Int} {Q : DL.D → Prop} (h0 : 0 ≤ i) (h : i < xs.length) (q : ∀ x ∈ xs, Q x) : Ok (atI xs i) Q := ok_at h0 h fun x e => q x (List.mem_of_getElem? e)
def WdR (w : Int) (r : Cell × List Cell) : Prop := ∃ v o', r = (.val (.int v), [.ref o', .val (.int w)]) ∧ 0 ≤ v ∧ v < 2 ^ w.toNat ∧ Dr o'
theorem pow_le {a b : Nat} (h : a ≤ b) : (2 : Int) ^ a ≤ 2 ^ b := by
  rw [← kbt_cast, ← kbt_cast]
  exact Int.ofNat_le.mpr (Nat.pow_le_pow_right (by decide) h)
theorem word_ok {o : MO} {w : Int} (hD : Dr o) (w1 : 1 ≤ w) (w2 : w ≤ 32) : Ok (sem_law_word [.ref o, .val (.int w)]) (WdR w) := by
  unfold sem_law_word
  refine ok_fn rfl ?_
  unfold m_law_word m_law_word_3 m_law_word_2 m_law_word_1
  have hP2 := pow32 w2
  have hP1 : (2 : Int) ^ 1 ≤ 2 ^ w.toNat := pow_le (by omega)
  simp
  refine (take_ok hD (by decide) (by decide)).mono ?_
  rintro _ ⟨k, o1, rfl, k0, k1, hD1⟩
  simp [br_iff]
  refine ⟨fun h => ok_all k0 (by simpa using h) ?_, fun h => ⟨fun e => ?_, fun e => ⟨by omega, ?_⟩⟩⟩
  · simp [ltop_ok w (by omega) w2]
    refine ⟨⟨_, _, rfl, ?_, ?_, hD1⟩, ⟨_, _, rfl, ?_, ?_, hD1⟩, ⟨_, _, rfl, ?_, ?_, hD1⟩⟩ <;> split <;> omega
  · simp [ltop_ok w (by omega) w2]
    exact ⟨_, _, rfl, by omega, by omega, hD1⟩
  · have hm : (0 : Int) ≤ if 30 < w then 30 else w := by split <;> omega
    have hm2 : (if 30 < w then (30 : Int) else w) ≤ 32 := by split <;> omega
    have hp := kbt_pos (if 30 < w then (30 : Int) else w).toNat
    have hp2 := pow32 hm2
    refine (take_ok hD1 (many := 2 ^ (if 30 < w then (30 : Int) else w).toNat) hp (log_of hp (by omega))).mono ?_
    rintro _ ⟨v, o2, rfl, v0, v1, hD2⟩
    simp
    exact ⟨⟨by omega, by omega⟩, kbt_pos _, _, _, rfl, Int.emod_nonneg _ (by have := kbt_pos w.toNat; omega), Int.emod_lt_of_pos _ (kbt_pos _), hD2⟩
/-- the ten ops: both sides give one int -/
theorem pair {w x y : Int} (h : Wd w x y) (d : DL.D) (hd : d ∈ ds_OPS) : ∃ v, sem_compute [.val d, .val (.int w), .val (.int x), .val (.int y)] = some (.val (.int v), [.val d, .val (.int w), .val (.int x), .val (.int y)]) ∧ sem_law_compute [.val d, .val (.int w), .val (.int x), .val (.int y)] = some (.val (.int v), [.val d, .val (.int w), .val (.int x), .val (.int y)]) := by
  simp only [ds_OPS, List.mem_cons, List.not_mem_nil, or_false] at hd
  rcases hd with rfl | rfl | rfl | rfl | rfl | rfl | rfl | rfl | rfl | rfl
  · exact ⟨_, (comp_add h).eq, (lcomp_add h).eq⟩
  · exact ⟨_, (comp_sub h).eq, (lcomp_sub h).eq⟩
  · exact ⟨_, (comp_mul h).eq, (lcomp_mul h).eq⟩
  · exact ⟨_, (comp_and h).eq, (lcomp_and h).eq⟩
  · exact ⟨_, (comp_or h).eq, (lcomp_or h).eq⟩
  · exact ⟨_, (comp_xor h).eq, (lcomp_xor h).eq⟩
  · exact ⟨_, (comp_less h).eq, (lcomp_less h).eq⟩
  · exact ⟨_, (comp_equal h).eq, (lcomp_equal h).eq⟩
  · exact ⟨_, (comp_shl h).eq, (lcomp_shl h).eq⟩
  · exact ⟨_, (comp_shr h).eq, (lcomp_shr h).eq⟩
/-- the law's cells at the loop's top -/
def St (ns : List Int) (ρ : En) : Prop := ∃ o c2 c3 c4 c5 c6 c7 c8, Dr o ∧ ρ = [some (.val (scrD ns)), some (.own o), some c2, c3, c4, c5, c6, c7, c8] ∧ (c2 = .own (.lst ds_OPS) ∨ c2 = .val (.list ds_OPS)) ∧ isRefB (some c3) = false ∧ isRefB (some c4) = false ∧ isRefB (some c5) = false ∧ isRefB (some c6) = false ∧ isRefB (some c7) = false ∧ isRefB (some c8) = false
theorem law3 {ns : List Int} {o : MO} {c2 : Cell} {c3 c7 c8 : Option Cell} {w x y : Int} (h : Wd w x y) (hD : Dr o) (h2 : c2 = .own (.lst ds_OPS) ∨ c2 = .val (.list ds_OPS)) (h3 : isRefB (some c3) = false) (h7 : isRefB (some c7) = false) (h8 : isRefB (some c8) = false) :
    Ok (m_law_3 [some (.val (scrD ns)), some (.own o), some c2, c3, some (.val (.int w)), some (.val (.int x)), some (.val (.int y)), c7, c8]) (turnQ (St ns) fun _ => False) := by
  have e : Ok (m_law_3 [some (.val (scrD ns)), some (.own o), some c2, c3, some (.val (.int w)), some (.val (.int x)), some (.val (.int y)), c7, c8]) (turnQ (St ns) fun _ => False) ↔ Ok (forL (gmName 7) m_law_2 ds_OPS [some (.val (scrD ns)), some (.own o), some (.val (.list ds_OPS)), c3, some (.val (.int w)), some (.val (.int x)), some (.val (.int y)), c7, c8]) (turnQ (St ns) fun _ => False) := by
    unfold m_law_3
    rcases h2 with rfl | rfl <;> simp
  rw [e]
  refine ok_forQ (fun i ρ => ∃ c7 c8, isRefB (some c7) = false ∧ isRefB (some c8) = false ∧ ρ = [some (.val (scrD ns)), some (.own o), some (.val (.list ds_OPS)), c3, some (.val (.int w)), some (.val (.int x)), some (.val (.int y)), c7, c8]) ⟨c7, c8, h7, h8, rfl⟩ ?_ ?_
  · rintro i d ρ hd ⟨c7, c8, h7, h8, rfl⟩
    obtain ⟨v, e1, e2⟩ := pair h d (List.mem_of_getElem? hd)
    unfold m_law_2 m_law_1
    simp [h7, h8, e1, e2]
  · rintro ρ ⟨c7, c8, h7, h8, rfl⟩
    exact ⟨o, _, _, _, _, _, _, _, hD, rfl, .inr rfl, h3, rfl, rfl, rfl, h7, h8⟩
theorem law6 {ns : List Int} {o : MO} {c2 : Cell} {c3 c5 c6 c7 c8 : Option Cell} {w : Int} (w1 : 1 ≤ w) (w2 : w ≤ 32) (hD : Dr o) (h2 : c2 = .own (.lst ds_OPS) ∨ c2 = .val (.list ds_OPS)) (h3 : isRefB (some c3) = false) (h5 : isRefB (some c5) = false) (h6 : isRefB (some c6) = false) (h7 : isRefB (some c7) = false) (h8 : isRefB (some c8) = false) :
    Ok (m_law_6 [some (.val (scrD ns)), some (.own o), some c2, c3, some (.val (.int w)), c5, c6, c7, c8]) (turnQ (St ns) fun _ => False) := by
  have hP2 := pow32 w2
  have hP1 : (2 : Int) ^ 1 ≤ 2 ^ w.toNat := pow_le (by omega)
  have hlog : w.natAbs.log2 < 9000 := log_of (by omega) (by omega)
  have ht := ltop_ok w (by omega) w2
  unfold m_law_6 m_law_5 m_law_4
  simp [h5]
  refine (word_ok hD w1 w2).mono ?_
  rintro _ ⟨v, o, rfl, v0, v1, hD⟩
  simp
  refine (take_ok hD (many := w) (by omega) hlog).mono ?_
  rintro _ ⟨k, o, rfl, k0, k1, hD⟩
  simp [ht, k0]
  refine ⟨by omega, ?_⟩
  refine (word_ok hD w1 w2).mono ?_
  rintro _ ⟨v', o, rfl, v0', v1', hD⟩
  simp
  refine (take_ok hD (many := 3) (by decide) (by decide)).mono ?_
  rintro _ ⟨i, o, rfl, i0, i1, hD⟩
  simp
  have hk : (2 : Int) ^ (k.toNat + 1) ≤ 2 ^ w.toNat := pow_le (by omega)
  have hk0 := kbt_pos k.toNat
  rw [Int.pow_succ] at hk
  have hx : Ok (atI [PyData.int v, PyData.int (2 ^ k.toNat), PyData.int (2 ^ w.toNat - 1 - v')] i) fun d => ∃ x, d = .int x ∧ 0 ≤ x ∧ x < 2 ^ w.toNat := ok_all i0 (by simpa using i1) (by
    simp
    omega)
  refine hx.mono ?_
  rintro _ ⟨x, rfl, x0, x1⟩
  simp [h5, h6]
  refine (word_ok hD w1 w2).mono ?_
  rintro _ ⟨y1, o, rfl, y10, y11, hD⟩
  simp [ht]
  refine (take_ok hD (many := w) (by omega) hlog).mono ?_
  rintro _ ⟨y2, o, rfl, y20, y21, hD⟩
  simp
  refine (take_ok hD (many := 5) (by decide) (by decide)).mono ?_
  rintro _ ⟨j, o, rfl, j0, j1, hD⟩
  simp
  have hy : Ok (atI [PyData.int y1, PyData.int x, PyData.int (if 2 ^ w.toNat - 1 < w then 2 ^ w.toNat - 1 else w), PyData.int (if 2 ^ w.toNat < w then 2 ^ w.toNat - 1 else w - 1), PyData.int y2] j) fun d => ∃ y, d = .int y ∧ 0 ≤ y := ok_all j0 (by simpa using j1) (by
    simp
    refine ⟨y10, x0, ?_, ?_, y20⟩ <;> split <;> omega)
  refine hy.mono ?_
  rintro _ ⟨y, rfl, y0⟩
  simp [h6, ht]
  exact law3 (w := w) ⟨by omega, w2, x0, x1, by split <;> omega, by split <;> omega⟩ hD h2 h3 h7 h8
theorem top_ne {w : Int} (w1 : 1 ≤ w) (w2 : w ≤ 32) : sem_top [.val (.int w)] = some (.val (.int (2 ^ w.toNat - 1)), [.val (.int w)]) := top_ok w (by omega) w2
theorem law8 {ns : List Int} {ρ : En} {j : Int} (h : St ns ρ) : Ok ((gmName 3 (.int j) ρ).bind m_law_8) (turnQ (St ns) fun _ => False) := by
  obtain ⟨o, c2, c3, c4, c5, c6, c7, c8, hD, rfl, h2, h3, h4, h5, h6, h7, h8⟩ := h
  unfold m_law_8 m_law_7
  simp [h3]
  refine (take_ok hD (many := 32) (by decide) (by decide)).mono ?_
  rintro _ ⟨k, o, rfl, k0, k1, hD⟩
  simp
  refine (take_ok hD (many := 7) (by decide) (by decide)).mono ?_
  rintro _ ⟨i, o, rfl, i0, i1, hD⟩
  simp
  have hw : Ok (atI [PyData.int 1, PyData.int 2, PyData.int 7, PyData.int 8, PyData.int 31, PyData.int 32, PyData.int (1 + k)] i) fun d => ∃ w, d = .int w ∧ 1 ≤ w ∧ w ≤ 32 := ok_all i0 (by simpa using i1) (by
    simp
    omega)
  refine hw.mono ?_
  rintro _ ⟨w, rfl, w1, w2⟩
  simp [h4, top_ne w1 w2]
  refine ⟨by omega, law6 w1 w2 hD h2 rfl h5 h6 h7 h8⟩
theorem ops_ne : neD (.list ds_OPS) (.list ds_OPS) = some (.val (.bool false)) := by
  unfold neD
  rw [if_pos (by decide +kernel), show PyData.eqv (.list ds_OPS) (.list ds_OPS) = true by decide +kernel]
  rfl
theorem true_law (ns : List Int) (hl : ns.length ≤ 63) : ∃ cs', sem_law [.val (scrD ns)] = some (.val (.bool true), cs') := by
  suffices h : Ok (sem_law [.val (scrD ns)]) fun r => r.1 = .val (.bool true) by
    obtain ⟨⟨a, cs⟩, e, rfl⟩ := h
    exact ⟨cs, e⟩
  unfold sem_law
  refine ok_fn rfl ?_
  unfold m_law m_law_12 m_law_11
  simp
  refine (draw_ok ns hl).mono ?_
  rintro _ ⟨o, rfl, hD⟩
  simp
  have e := ops_ne
  unfold ds_OPS at e
  simp [ds_OPS, e]
  unfold m_law_10
  simp
  refine ok_upto (fun _ => St ns) ⟨o, _, _, _, _, _, _, _, hD, rfl, .inl rfl, rfl, rfl, rfl, rfl, rfl, rfl⟩ ?_ ?_
  · intro i ρ hi h
    refine (law8 h).mono fun o ho => ?_
    cases o with
    | nx ρ => exact ho
    | ct ρ => exact ho
    | bk ρ => exact ho.elim
    | rt c ρ => exact ho.elim
  · rintro ρ ⟨o, c2, c3, c4, c5, c6, c7, c8, hD, rfl, h2, h3, h4, h5, h6, h7, h8⟩
    unfold m_law_9
    simp
end Lk00

open PySem PySem.W PyProof.Rows
set_option maxHeartbeats 0 in
theorem PySem.Challenge.cw_backandon_k00_words_reckoned_holds : PySem.Challenge.rw_backandon_k00_words_reckoned.Holds := by
  w_on; o_law; k_head; (case hw => w_witness2)
  k_fill
  refine L2.walk_of (l := PySem.Challenge.rw_backandon_k00_words_reckoned) (n := 63) (k := 3) (x := "script") (CX := fun _ => L2.CX0) (sp := fun w => DL.spLaw _) rfl (by decide) rfl ⟨rfl, by decide, by decide⟩ (fun w h Y => PySem.W.kIn_of Y) ?F (fun _ _ a ns hl _ hS => ⟨a, ns, rfl, hS, hl, fun _ => rfl⟩) (fun _ _ _ _ _ h => h)
  case F =>
    intro w mg fa h KX G hmg
    refine' Lk00.all_mk Lk00.true_law KX G hmg ?a0 ?l0 ?c0 ?k0 ?a1 ?l1 ?c1 ?k1 ?a2 ?l2 ?c2 ?k2 ?a3 ?l3 ?c3 ?k3 ?a4 ?l4 ?c4 ?k4 ?a5 ?l5 ?c5 ?k5 ?a6 ?l6 ?c6 ?k6 ?a7 ?l7 ?c7 ?k7 ?z_abs ?z_bool ?z_int ?z_isinstance ?z_len ?z_list ?z_min ?z_range ?gaOPS ?glOPS ?gzOPS ?gvOPS
    (case a0 => k_is)
    (case l0 => k_is)
    (case c0 => k_is)
    (case k0 => k_is)
    (case a1 => k_is)
    (case l1 => k_is)
    (case c1 => k_is)
    (case k1 => k_is)
    (case a2 => k_is)
    (case l2 => k_is)
    (case c2 => k_is)
    (case k2 => k_is)
    (case a3 => k_is)
    (case l3 => k_is)
    (case c3 => k_is)
    (case k3 => k_is)
    (case a4 => k_is)
    (case l4 => k_is)
    (case c4 => k_is)
    (case k4 => k_is)
    (case a5 => k_is)
    (case l5 => k_is)
    (case c5 => k_is)
    (case k5 => k_is)
    (case a6 => k_is)
    (case l6 => k_is)
    (case c6 => k_is)
    (case k6 => k_is)
    (case a7 => k_is)
    (case l7 => k_is)
    (case c7 => k_is)
    (case k7 => k_is)
    (case z_abs => k_is)
    (case z_bool => k_is)
    (case z_int => k_is)
    (case z_isinstance => k_is)
    (case z_len => k_is)
    (case z_list => k_is)
    (case z_min => k_is)
    (case z_range => k_is)
    (case gaOPS => k_is)
    (case glOPS => k_is)
    (case gzOPS => decide)
    (case gvOPS => rfl)

