import PyProof.Rows.All
import Wide.All
import OpenK.AllK
import Wide.FinOn
import HandS.ForMost
import HandS.Wide
import HandS.Walk
import HandS.Zip
import HandS.Rev
import HandS.TupAny
import HandS.TupLe
import HandS.IsInst
import HandS.WideBits
import KE.GoesNew
import KE.GoesMore
import HandS.NoneIn
import HandS.RevTup
import PyProof.ListStr
import KE.KDictZip
import HandS.Exc
import HandS.ExcOwn
import HandS.ExcIs
import HandS.WordsExc
import HandS.TryOnly
import HandS.Style
import KE.RegKIsAll
import PySem.Challenge.RW_farquotient_k12_values_and_poles
set_option Elab.async false
set_option autoImplicit false
set_option linter.all false
set_option maxRecDepth 100000
set_option maxHeartbeats 4000000
/-! data-level readings: values by content -/
namespace DL
open PySem PySem.Spec PyProof.Rows L2

/-- a value by its content; lst: a list that nobody changes any more; stt: the law's state; ins: an instance that stands still -/
inductive D where
  | non | bl (b : Bool) | int (i : Int) | str (x : Str) | tup (l : List D) | lst (l : List D) | stt | ins (c : Nat) (p : Option Int)

structure G where
  K : PySem.W.Frag
  sd : Option (Addr × Addr)
  cls : Nat → Addr
def insF : Option Int → List (Str × V)
  | none => []
  | some p => [("size", .int p)]
mutual
def Den (g : G) (H : Hp) : D → V → Prop
  | .non, v => v = .non
  | .bl b, v => v = .bl b
  | .int i, v => v = .int i
  | .str x, v => v = .str x
  | .tup l, v => ∃ a xs, v = .ref a ∧ SqT g.K H a xs ∧ DenL g H l xs
  | .lst l, v => ∃ a xs, v = .ref a ∧ H a = some (.lst xs) ∧ DenL g H l xs
  | .stt, v => ∃ p, g.sd = some p ∧ v = .ref p.1
  | .ins c p, v => ∃ a dx, v = .ref a ∧ H a = some (.ins (g.cls c) dx (insF p))
def DenL (g : G) (H : Hp) : List D → List V → Prop
  | [], xs => xs = []
  | d :: l, xs => ∃ x r, xs = x :: r ∧ Den g H d x ∧ DenL g H l r
end
theorem sqT_same {K : PySem.W.Frag} {H H' : Hp} {a : Addr} {xs : List V} (e : Same H H') (h : SqT K H a xs) : SqT K H' a xs := by
  rcases h with (h | ⟨o, h⟩) | h
  · exact .inl (.inl (e _ _ h))
  · exact .inl (.inr ⟨o, e _ _ h⟩)
  · exact .inr h
mutual
theorem Den.mono {g : G} {H H' : Hp} (s : Same H H') : ∀ (d : D) (v : V), Den g H d v → Den g H' d v
  | .non, _, h => by unfold Den at h ⊢; exact h
  | .bl _, _, h => by unfold Den at h ⊢; exact h
  | .int _, _, h => by unfold Den at h ⊢; exact h
  | .str _, _, h => by unfold Den at h ⊢; exact h
  | .tup l, _, h => by
    unfold Den at h ⊢
    obtain ⟨a, xs, e, q, r⟩ := h
    exact ⟨a, xs, e, sqT_same s q, DenL.mono s l xs r⟩
  | .lst l, _, h => by
    unfold Den at h ⊢
    obtain ⟨a, xs, e, q, r⟩ := h
    exact ⟨a, xs, e, s _ _ q, DenL.mono s l xs r⟩
  | .stt, _, h => by unfold Den at h ⊢; exact h
  | .ins _ _, _, h => by
    unfold Den at h ⊢
    obtain ⟨a, dx, e, q⟩ := h
    exact ⟨a, dx, e, s _ _ q⟩
theorem DenL.mono {g : G} {H H' : Hp} (s : Same H H') : ∀ (l : List D) (xs : List V), DenL g H l xs → DenL g H' l xs
  | [], _, h => by unfold DenL at h ⊢; exact h
  | d :: l, _, h => by
    unfold DenL at h ⊢
    obtain ⟨x, r, e, q, t⟩ := h
    exact ⟨x, r, e, Den.mono s d x q, DenL.mono s l r t⟩
end
theorem DenL.len {g : G} {H : Hp} : ∀ {l : List D} {xs : List V}, DenL g H l xs → xs.length = l.length
  | [], _, h => by unfold DenL at h; subst h; rfl
  | d :: l, _, h => by
    unfold DenL at h
    obtain ⟨x, r, rfl, _, t⟩ := h
    simp [t.len]
theorem DenL.nil {g : G} {H : Hp} : DenL g H [] [] := by unfold DenL; rfl
theorem DenL.cons {g : G} {H : Hp} {d : D} {l : List D} {x : V} {r : List V} (a : Den g H d x) (b : DenL g H l r) : DenL g H (d :: l) (x :: r) := by
  unfold DenL
  exact ⟨x, r, rfl, a, b⟩
theorem DenL.app {g : G} {H : Hp} : ∀ {l m : List D} {xs ys : List V}, DenL g H l xs → DenL g H m ys → DenL g H (l ++ m) (xs ++ ys)
  | [], _, _, _, h, k => by unfold DenL at h; subst h; exact k
  | d :: l, _, _, _, h, k => by
    unfold DenL at h
    obtain ⟨x, r, rfl, q, t⟩ := h
    exact DenL.cons q (t.app k)
theorem DenL.get {g : G} {H : Hp} : ∀ {l : List D} {xs : List V} {i : Nat} {d : D}, DenL g H l xs → l[i]? = some d → ∃ x, xs[i]? = some x ∧ Den g H d x
  | [], _, _, _, _, e => by simp at e
  | d :: l, _, 0, _, h, e => by
    unfold DenL at h
    obtain ⟨x, r, rfl, q, t⟩ := h
    simp at e; subst e
    exact ⟨x, rfl, q⟩
  | d :: l, _, i + 1, _, h, e => by
    unfold DenL at h
    obtain ⟨x, r, rfl, q, t⟩ := h
    obtain ⟨y, h1, h2⟩ := t.get (i := i) (by simpa using e)
    exact ⟨y, by simpa using h1, h2⟩
theorem DenL.getV {g : G} {H : Hp} : ∀ {l : List D} {xs : List V} {i : Nat} {x : V}, DenL g H l xs → xs[i]? = some x → ∃ d, l[i]? = some d ∧ Den g H d x
  | [], _, _, _, h, e => by unfold DenL at h; subst h; simp at e
  | d :: l, _, 0, _, h, e => by
    unfold DenL at h
    obtain ⟨x, r, rfl, q, t⟩ := h
    simp at e; subst e
    exact ⟨d, rfl, q⟩
  | d :: l, _, i + 1, _, h, e => by
    unfold DenL at h
    obtain ⟨x, r, rfl, q, t⟩ := h
    obtain ⟨y, h1, h2⟩ := t.getV (i := i) (by simpa using e)
    exact ⟨y, by simpa using h1, h2⟩
theorem DenL.set {g : G} {H : Hp} {d : D} {v : V} (q : Den g H d v) : ∀ {l : List D} {xs : List V} (i : Nat), DenL g H l xs → DenL g H (l.set i d) (xs.set i v)
  | [], _, _, h => by unfold DenL at h; subst h; exact DenL.nil
  | _ :: l, _, 0, h => by
    unfold DenL at h
    obtain ⟨x, r, rfl, _, t⟩ := h
    exact DenL.cons q t
  | _ :: l, _, i + 1, h => by
    unfold DenL at h
    obtain ⟨x, r, rfl, q', t⟩ := h
    exact DenL.cons q' (DenL.set q i t)
theorem DenL.take {g : G} {H : Hp} : ∀ {l : List D} {xs : List V} (n : Nat), DenL g H l xs → DenL g H (l.take n) (xs.take n)
  | _, _, 0, _ => DenL.nil
  | [], _, _ + 1, h => by unfold DenL at h; subst h; exact DenL.nil
  | d :: l, _, n + 1, h => by
    unfold DenL at h
    obtain ⟨x, r, rfl, q, t⟩ := h
    exact DenL.cons q (t.take n)
theorem DenL.drop {g : G} {H : Hp} : ∀ {l : List D} {xs : List V} (n : Nat), DenL g H l xs → DenL g H (l.drop n) (xs.drop n)
  | _, _, 0, h => h
  | [], _, _ + 1, h => by unfold DenL at h; subst h; exact DenL.nil
  | d :: l, _, n + 1, h => by
    unfold DenL at h
    obtain ⟨x, r, rfl, q, t⟩ := h
    exact t.drop n

/-! ### the relation of a def's data to its heap -/
abbrev Stt := List Int × Int
/-- pin: the very value that stands there -/
inductive Sl where
  | v (d : D) | own (l : List D) | pin (v : V)
abbrev En := List (Option Sl) × Stt
structure C extends G where
  Hs : Hp
  H0s : Hp
def isSt (c : C) (b : Addr) : Prop := ∃ p, c.sd = some p ∧ (b = p.1 ∨ b = p.2)
def sttF (p : Addr × Addr) (t : Int) : List (Key × V) := [(.inr "cells", .ref p.2), (.inr "turn", .int t)]
structure RelG (c : C) (st : Stt) (H0 H : Hp) : Prop where
  same : Same H0 H
  keep : ∀ b o, c.Hs b = some o → ¬ isSt c b → H b = some o
  base : Same c.H0s H0
  new : ∀ b, c.H0s b = none → c.Hs b ≠ none → H0 b = none
  stt : ∀ p, c.sd = some p → p.1 ≠ p.2 ∧ (c.H0s p.1 = none ∧ c.Hs p.1 ≠ none) ∧ (c.H0s p.2 = none ∧ c.Hs p.2 ≠ none) ∧ H p.1 = some (.dK (sttF p st.2)) ∧ H p.2 = some (.lst (st.1.map V.int))
structure RelL (c : C) (ρ : En) (σ : L2.St) (H0 H : Hp) (L : Nat → Addr) : Prop extends RelG c ρ.2 H0 H where
  len : ρ.1.length = σ.length
  val : ∀ (i : Nat) d, ρ.1[i]? = some (some (Sl.v d)) → ∃ v, σ[i]? = some (some v) ∧ Den c.toG H0 d v
  own : ∀ (i : Nat) l, ρ.1[i]? = some (some (Sl.own l)) → σ[i]? = some (some (V.ref (L i))) ∧ H0 (L i) = none ∧ c.Hs (L i) = none ∧ ∃ xs, H (L i) = some (.lst xs) ∧ DenL c.toG H0 l xs
  inj : ∀ (i j : Nat) l l', ρ.1[i]? = some (some (Sl.own l)) → ρ.1[j]? = some (some (Sl.own l')) → L i = L j → i = j
  pin : ∀ (i : Nat) v, ρ.1[i]? = some (some (Sl.pin v)) → σ[i]? = some (some v)
def Rel (c : C) (ρ : En) (σ : L2.St) (H0 H : Hp) : Prop := ∃ L, RelL c ρ σ H0 H L
theorem Rel.g {c : C} {ρ : En} {σ : L2.St} {H0 H : Hp} (h : Rel c ρ σ H0 H) : RelG c ρ.2 H0 H := let ⟨_, h⟩ := h; h.toRelG
theorem RelG.sttO {c : C} {st : Stt} {H0 H : Hp} (h : RelG c st H0 H) {p : Addr × Addr} (e : c.sd = some p) : H0 p.1 = none ∧ H0 p.2 = none := by
  obtain ⟨_, ⟨a, b⟩, ⟨a', b'⟩, _⟩ := h.stt p e
  exact ⟨h.new _ a b, h.new _ a' b'⟩
theorem RelG.notHs {c : C} {st : Stt} {H0 H : Hp} (h : RelG c st H0 H) {a : Addr} (n : H a = none) : c.Hs a = none := by
  cases e : c.Hs a with
  | none => rfl
  | some o =>
    by_cases q : isSt c a
    · obtain ⟨p, ep, q⟩ := q
      obtain ⟨_, _, _, h1, h2⟩ := h.stt p ep
      rcases q with rfl | rfl
      · rw [n] at h1; cases h1
      · rw [n] at h2; cases h2
    · have := h.keep a o e q
      rw [n] at this; cases this
/-- a new object that stands still -/
theorem RelG.grow {c : C} {st : Stt} {H0 H : Hp} (h : RelG c st H0 H) {a : Addr} (o : HO) (n : H a = none) : RelG c st (upd H0 a o) (upd H a o) where
  same := fun b u e => by
    by_cases q : b = a
    · subst q; rw [upd_same] at e ⊢; exact e
    · rw [upd_ne q] at e ⊢; exact h.same b u e
  keep := fun b u e q => by
    have : b ≠ a := fun z => by rw [z, h.notHs n] at e; cases e
    rw [upd_ne this]; exact h.keep b u e q
  base := fun b u e => by
    have : b ≠ a := fun z => by
      have := h.same b u (h.base b u e)
      rw [z, n] at this; cases this
    rw [upd_ne this]; exact h.base b u e
  new := fun b e q => by
    have : b ≠ a := fun z => q (by rw [z]; exact h.notHs n)
    rw [upd_ne this]; exact h.new b e q
  stt := fun p e => by
    obtain ⟨a1, a2, a3, a4, a5⟩ := h.stt p e
    have n1 : p.1 ≠ a := fun z => by rw [z, n] at a4; cases a4
    have n2 : p.2 ≠ a := fun z => by rw [z, n] at a5; cases a5
    exact ⟨a1, a2, a3, by rw [upd_ne n1]; exact a4, by rw [upd_ne n2]; exact a5⟩
/-- a new object beside -/
theorem RelG.beside {c : C} {st : Stt} {H0 H : Hp} (h : RelG c st H0 H) {a : Addr} (o : HO) (n : H a = none) : RelG c st H0 (upd H a o) where
  same := fun b u e => by
    have : b ≠ a := fun z => by
      have := h.same b u e
      rw [z, n] at this; cases this
    rw [upd_ne this]; exact h.same b u e
  keep := fun b u e q => by
    have : b ≠ a := fun z => by rw [z, h.notHs n] at e; cases e
    rw [upd_ne this]; exact h.keep b u e q
  base := h.base
  new := h.new
  stt := fun p e => by
    obtain ⟨a1, a2, a3, a4, a5⟩ := h.stt p e
    have n1 : p.1 ≠ a := fun z => by rw [z, n] at a4; cases a4
    have n2 : p.2 ≠ a := fun z => by rw [z, n] at a5; cases a5
    exact ⟨a1, a2, a3, by rw [upd_ne n1]; exact a4, by rw [upd_ne n2]; exact a5⟩
theorem same_upd {H : Hp} {a : Addr} {o : HO} (n : H a = none) : Same H (upd H a o) := fun b u e => by
  rw [upd_ne (ne_of_none e n)]; exact e
theorem RelL.grow {c : C} {ρ : En} {σ : L2.St} {H0 H : Hp} {L : Nat → Addr} (h : RelL c ρ σ H0 H L) {a : Addr} (o : HO) (n : H a = none) : RelL c ρ σ (upd H0 a o) (upd H a o) L where
  toRelG := h.toRelG.grow o n
  len := h.len
  val := fun i d e => by
    obtain ⟨v, e1, e2⟩ := h.val i d e
    exact ⟨v, e1, Den.mono (same_upd (h.same.free n)) _ _ e2⟩
  own := fun i l e => by
    obtain ⟨e1, e2, e3, xs, e4, e5⟩ := h.own i l e
    have na : L i ≠ a := fun z => by rw [z, n] at e4; cases e4
    exact ⟨e1, by rw [upd_ne na]; exact e2, e3, xs, by rw [upd_ne na]; exact e4, DenL.mono (same_upd (h.same.free n)) _ _ e5⟩
  inj := h.inj
  pin := h.pin
theorem RelL.beside {c : C} {ρ : En} {σ : L2.St} {H0 H : Hp} {L : Nat → Addr} (h : RelL c ρ σ H0 H L) {a : Addr} (o : HO) (n : H a = none) : RelL c ρ σ H0 (upd H a o) L where
  toRelG := h.toRelG.beside o n
  len := h.len
  val := h.val
  own := fun i l e => by
    obtain ⟨e1, e2, e3, xs, e4, e5⟩ := h.own i l e
    have na : L i ≠ a := fun z => by rw [z, n] at e4; cases e4
    exact ⟨e1, e2, e3, xs, by rw [upd_ne na]; exact e4, e5⟩
  inj := h.inj
  pin := h.pin
/-- the own list at a fresh place, not in a slot yet -/
structure Fresh (c : C) (ρ : En) (σ : L2.St) (H0 H : Hp) (l : List D) (a : Addr) : Prop where
  hs : c.Hs a = none
  no : ∀ (i : Nat) l', ρ.1[i]? = some (some (Sl.own l')) → σ[i]? ≠ some (some (V.ref a))
  h0 : H0 a = none
  h : ∃ xs, H a = some (.lst xs) ∧ DenL c.toG H0 l xs
theorem RelL.fresh {c : C} {ρ : En} {σ : L2.St} {H0 H : Hp} {L : Nat → Addr} (h : RelL c ρ σ H0 H L) {a : Addr} {l : List D} {xs : List V} (n : H a = none) (d : DenL c.toG H0 l xs) : Fresh c ρ σ H0 (upd H a (.lst xs)) l a where
  hs := h.notHs n
  no := fun i l' e z => by
    obtain ⟨e1, e2, e3, xs, e4, e5⟩ := h.own i l' e
    rw [e1] at z
    have z' : L i = a := by simpa using z
    rw [z', n] at e4; cases e4
  h0 := h.same.free n
  h := ⟨xs, upd_same, d⟩
/-- an own list comes to stand still -/
theorem RelL.freeze {c : C} {ρ : En} {σ : L2.St} {H0 H : Hp} {L : Nat → Addr} (h : RelL c ρ σ H0 H L) {a : Addr} {l : List D} (f : Fresh c ρ σ H0 H l a) :
    ∃ H0', RelL c ρ σ H0' H L ∧ Same H0 H0' ∧ Den c.toG H0' (.lst l) (.ref a) := by
  obtain ⟨hs, no, h0, xs, hx, dx⟩ := f
  have sm : Same H0 (upd H0 a (.lst xs)) := same_upd h0
  refine ⟨upd H0 a (.lst xs), ⟨⟨fun b u e => ?_, h.keep, fun b u e => sm _ _ (h.base b u e), fun b e q => ?_, h.stt⟩, h.len, fun i d e => ?_, fun i l' e => ?_, h.inj, h.pin⟩, sm, ?_⟩
  · by_cases q : b = a
    · subst q; rw [upd_same] at e; rw [hx]; exact e
    · rw [upd_ne q] at e; exact h.same b u e
  · have : b ≠ a := fun z => q (by rw [z]; exact hs)
    rw [upd_ne this]; exact h.new b e q
  · obtain ⟨v, e1, e2⟩ := h.val i d e
    exact ⟨v, e1, Den.mono sm _ _ e2⟩
  · obtain ⟨e1, e2, e3, ys, e4, e5⟩ := h.own i l' e
    have na : L i ≠ a := fun z => no i l' e (by rw [e1, z])
    exact ⟨e1, by rw [upd_ne na]; exact e2, e3, ys, e4, DenL.mono sm _ _ e5⟩
  · unfold Den
    exact ⟨a, xs, rfl, upd_same, DenL.mono sm _ _ dx⟩

/-! ### expressions -/
abbrev DEv := En → (D → En → Prop) → Prop
abbrev DOv := En → (List D → En → Prop) → Prop
abbrev DTv := En → (Bool → En → Prop) → Prop
abbrev DAv := En → (List D → En → Prop) → Prop
def tD (c : C) (d : DEv) : TE := fun σ H Q => ∃ ρ H0 K, Rel c ρ σ H0 H ∧ d ρ K ∧
  ∀ r ρ' v H' H0', K r ρ' → Rel c ρ' σ H0' H' → Same H0 H0' → Den c.toG H0' r v → Q v H'
def tO (c : C) (d : DOv) : TE := fun σ H Q => ∃ ρ H0 K, Rel c ρ σ H0 H ∧ d ρ K ∧
  ∀ l ρ' a H' H0', K l ρ' → Rel c ρ' σ H0' H' → Same H0 H0' → Fresh c ρ' σ H0' H' l a → Q (.ref a) H'
def tT (c : C) (d : DTv) : TT := fun σ H Q => ∃ ρ H0 K, Rel c ρ σ H0 H ∧ d ρ K ∧
  ∀ b ρ' H' H0', K b ρ' → Rel c ρ' σ H0' H' → Same H0 H0' → Q b H'
def tA (c : C) (d : DAv) : TA := fun σ H Q => ∃ ρ H0 K, Rel c ρ σ H0 H ∧ d ρ K ∧
  ∀ l ρ' vs H' H0', K l ρ' → Rel c ρ' σ H0' H' → Same H0 H0' → DenL c.toG H0' l vs → Q vs H'
abbrev DE (X : Cx) (c : C) (e : Expr) (d : DEv) : Prop := PE X e (tD c d)
abbrev DO (X : Cx) (c : C) (e : Expr) (d : DOv) : Prop := PE X e (tO c d)
abbrev DT (X : Cx) (c : C) (e : Expr) (d : DTv) : Prop := PT X e (tT c d)
abbrev DW (X : Cx) (c : C) (e : Expr) (d : DTv) : Prop := PW X e (tT c d)
abbrev DA (X : Cx) (c : C) (es : List Expr) (d : DAv) : Prop := PA X es (tA c d)
theorem wkE {X : Cx} {e : Expr} {t t' : TE} (h : PE X e t) (w : ∀ σ H Q, t' σ H Q → t σ H Q) : PE X e t' := ⟨fun pins s σ H Q I q => h.run pins s σ H Q I (w σ H Q q)⟩
theorem wkT {X : Cx} {e : Expr} {t t' : TT} (h : PT X e t) (w : ∀ σ H Q, t' σ H Q → t σ H Q) : PT X e t' := ⟨fun pins s σ H Q I q => h.run pins s σ H Q I (w σ H Q q)⟩
theorem wkW {X : Cx} {e : Expr} {t t' : TT} (h : PW X e t) (w : ∀ σ H Q, t' σ H Q → t σ H Q) : PW X e t' := ⟨fun wh pins s σ H Q I q => h.run wh pins s σ H Q I (w σ H Q q)⟩
theorem wkA {X : Cx} {es : List Expr} {t t' : TA} (h : PA X es t) (w : ∀ σ H Q, t' σ H Q → t σ H Q) : PA X es t' := ⟨fun pos pins s σ H Q I q => h.run pos pins s σ H Q I (w σ H Q q)⟩
/-- a fresh list as a value -/
theorem DO.val {X : Cx} {c : C} {e : Expr} {d : DOv} (h : DO X c e d) : DE X c e (fun ρ K => d ρ fun l ρ' => K (.lst l) ρ') := wkE h fun σ H Q ⟨ρ, H0, K, R, q, k⟩ =>
  ⟨ρ, H0, _, R, q, fun l ρ' a H' H0' kl ⟨L, R'⟩ S F => by
    obtain ⟨H0'', R'', S', dn⟩ := R'.freeze F
    exact k _ ρ' _ H' H0'' kl ⟨L, R''⟩ (S.trans S') dn⟩
end DL
namespace DL
open PySem PySem.Spec PyProof.Rows L2
/-! ### names, constants -/
def dVar (i : Nat) : DEv := fun ρ K => match ρ.1[i]? with
  | some (some (.v d)) => K d ρ
  | _ => False
def dC (d : D) : DEv := fun ρ K => K d ρ
section
variable {X : Cx} {c : C} {e a b : Expr} {es : List Expr} {d da db : DEv} {pos : Pos}
theorem de_var {i : Nat} (h : PE X e (tVar i)) : DE X c e (dVar i) := wkE h fun σ H Q ⟨ρ, H0, K, ⟨L, R⟩, q, k⟩ => by
  unfold dVar at q
  split at q
  · rename_i d e
    obtain ⟨v, e1, e2⟩ := R.val i d e
    exact ⟨v, e1, k _ _ v H H0 q ⟨L, R⟩ (Same.refl _) e2⟩
  · exact q.elim
theorem de_c {v : V} {d : D} (h : PE X e (tC v)) (hd : ∀ H, Den c.toG H d v) : DE X c e (dC d) := wkE h fun σ H Q ⟨ρ, H0, K, R, q, k⟩ =>
  k _ _ v H H0 q R (Same.refl _) (hd _)
theorem de_int {i j} : DE X c (.Constant (.int i) j pos) (dC (.int i)) := de_c pe_int fun _ => by unfold Den; rfl
theorem de_bl {b j} : DE X c (.Constant (.bool b) j pos) (dC (.bl b)) := de_c pe_bl fun _ => by unfold Den; rfl
theorem de_non {j} : DE X c (.Constant .none j pos) (dC .non) := de_c pe_non fun _ => by unfold Den; rfl
theorem de_str {x j} : DE X c (.Constant (.str x) j pos) (dC (.str x)) := de_c pe_str fun _ => by unfold Den; rfl
/-! ### two-place operations -/
abbrev F2 := D → D → (D → Prop) → Prop
def R2D (c : C) (r : R2) (f : F2) : Prop := ∀ (ρ : En) (σ : L2.St) (H0 H : Hp) (dx dy : D) (x y : V) (P : D → Prop) (Q : VK), Rel c ρ σ H0 H → Den c.toG H0 dx x → Den c.toG H0 dy y → f dx dy P →
  (∀ d v H' H0', P d → Rel c ρ σ H0' H' → Same H0 H0' → Den c.toG H0' d v → Q v H') → r x y H Q
def d2 (f : F2) (da db : DEv) : DEv := fun ρ K => da ρ fun x ρ1 => db ρ1 fun y ρ2 => f x y fun z => K z ρ2
theorem wk2 {r : R2} {f : F2} (rd : R2D c r f) {σ : L2.St} {H : Hp} {Q : VK} (h : tD c (d2 f da db) σ H Q) : tOp r (tD c da) (tD c db) σ H Q := by
  obtain ⟨ρ, H0, K, R, q, k⟩ := h
  refine ⟨ρ, H0, _, R, q, fun x ρ1 v1 H1 H01 q1 R1 S1 D1 => ⟨ρ1, H01, _, R1, q1, fun y ρ2 v2 H2 H02 q2 R2 S2 D2 => ?_⟩⟩
  exact rd ρ2 σ H02 H2 x y v1 v2 _ Q R2 (Den.mono S2 _ _ D1) D2 q2 fun d v H' H0' p R' S' D' => k d ρ2 v H' H0' p R' (S1.trans (S2.trans S')) D'
theorem de_op {op : Operator} {r : R2} {f : F2} (ho : OpR X (binaryOp op) r) (rd : R2D c r f) (ha : DE X c a da) (hb : DE X c b db) : DE X c (.BinOp a op b pos) (d2 f da db) := wkE (pe_op ho ha hb) fun _ _ _ h => wk2 rd h
theorem de_cmp {op : CmpOp} {r : R2} {f : F2} (ho : OpR X (compareOp op) r) (rd : R2D c r f) (ha : DE X c a da) (hb : DE X c b db) (hm : behindInMarks op b = false) : DE X c (.Compare a [op] [b] pos) (d2 f da db) := wkE (pe_cmpR ho ha hb hm) fun _ _ _ h => wk2 rd h
/-! ### tests -/
def asB (x : D) (k : Bool → Prop) : Prop := match x with
  | .bl b => k b
  | _ => False
def dB (d : DEv) : DTv := fun ρ K => d ρ fun x ρ1 => asB x fun b => K b ρ1
theorem asB_d {g : G} {H : Hp} {x : D} {v : V} {k : Bool → Prop} (h : asB x k) (q : Den g H x v) : ∃ b, v = .bl b ∧ k b := by
  cases x with
  | bl b => unfold Den at q; exact ⟨b, q, h⟩
  | _ => exact h.elim
theorem dt_cmp {op : CmpOp} {r : R2} {f : F2} (ho : OpR X (compareOp op) r) (rd : R2D c r f) (ha : DE X c a da) (hb : DE X c b db) (hm : behindInMarks op b = false) : DT X c (.Compare a [op] [b] pos) (dB (d2 f da db)) :=
  wkT (pt_cmpR ho ha hb hm) fun σ H Q ⟨ρ, H0, K, R, q, k⟩ => wk2 rd ⟨ρ, H0, _, R, q, fun z ρ1 v H1 H01 q1 R1 S1 D1 => by
    obtain ⟨b, e, q2⟩ := asB_d q1 D1
    exact ⟨b, e, k _ _ _ _ q2 R1 S1⟩⟩
theorem dt_val (h : DE X c e d) (he : ∀ whole, isTrue e X.env whole = (do let v ← whole; standAt e.pos; holding [v] (truthy v)) := by intro _; rfl) : DT X c e (dB d) :=
  wkT (pt_val h he) fun σ H Q ⟨ρ, H0, K, R, q, k⟩ => ⟨ρ, H0, _, R, q, fun z ρ1 v H1 H01 q1 R1 S1 D1 => by
    obtain ⟨b, e, q2⟩ := asB_d q1 D1
    exact ⟨b, e, k _ _ _ _ q2 R1 S1⟩⟩
def Br (b : Bool) (p q : Prop) : Prop := (b = true → p) ∧ (b = false → q)
theorem Br.it {b : Bool} {p q : Prop} (h : Br b p q) : if b = true then p else q := by
  cases b with
  | true => exact h.1 rfl
  | false => exact h.2 rfl
def dAnd (da db : DTv) : DTv := fun ρ K => da ρ fun b ρ1 => Br b (db ρ1 K) (K false ρ1)
def dOr (da db : DTv) : DTv := fun ρ K => da ρ fun b ρ1 => Br b (K true ρ1) (db ρ1 K)
def dNot (da : DTv) : DTv := fun ρ K => da ρ fun b ρ1 => K (!b) ρ1
variable {ta tb : DTv} {rest : List Expr}
theorem dw_and1 (ha : DT X c a ta) : DW X c (.BoolOp .And [a] pos) ta := pw_and1 ha
theorem dw_or1 (ha : DT X c a ta) : DW X c (.BoolOp .Or [a] pos) ta := pw_or1 ha
theorem dw_and (ha : DT X c a ta) (hb : DW X c (.BoolOp .And (b :: rest) pos) tb) : DW X c (.BoolOp .And (a :: b :: rest) pos) (dAnd ta tb) := wkW (pw_and ha hb) fun σ H Q ⟨ρ, H0, K, R, q, k⟩ =>
  ⟨ρ, H0, _, R, q, fun z ρ1 H1 H01 q1 R1 S1 => by
    cases z with
    | true => rw [if_pos rfl]; exact ⟨ρ1, H01, K, R1, q1.1 rfl, fun b ρ' H' H0' kb R' S' => k b ρ' H' H0' kb R' (S1.trans S')⟩
    | false => rw [if_neg Bool.false_ne_true]; exact k _ _ _ _ (q1.2 rfl) R1 S1⟩
theorem dw_or (ha : DT X c a ta) (hb : DW X c (.BoolOp .Or (b :: rest) pos) tb) : DW X c (.BoolOp .Or (a :: b :: rest) pos) (dOr ta tb) := wkW (pw_or ha hb) fun σ H Q ⟨ρ, H0, K, R, q, k⟩ =>
  ⟨ρ, H0, _, R, q, fun z ρ1 H1 H01 q1 R1 S1 => by
    cases z with
    | true => rw [if_pos rfl]; exact k _ _ _ _ (q1.1 rfl) R1 S1
    | false => rw [if_neg Bool.false_ne_true]; exact ⟨ρ1, H01, K, R1, q1.2 rfl, fun b ρ' H' H0' kb R' S' => k b ρ' H' H0' kb R' (S1.trans S')⟩⟩
theorem dt_not (ha : DT X c a ta) : DT X c (.UnaryOp .Not a pos) (dNot ta) := wkT (pt_not ha) fun σ H Q ⟨ρ, H0, K, R, q, k⟩ =>
  ⟨ρ, H0, _, R, q, fun z ρ1 H1 H01 q1 R1 S1 => k _ _ _ _ q1 R1 S1⟩
/-! .. as values -/
def dAndV (da db : DEv) : DEv := fun ρ K => da ρ fun x ρ1 => asB x fun b => Br b (db ρ1 K) (K (.bl false) ρ1)
def dOrV (da db : DEv) : DEv := fun ρ K => da ρ fun x ρ1 => asB x fun b => Br b (K (.bl true) ρ1) (db ρ1 K)
def dNotV (da : DEv) : DEv := fun ρ K => da ρ fun x ρ1 => asB x fun b => K (.bl (!b)) ρ1
theorem den_bl {g : G} {H : Hp} {b : Bool} : Den g H (.bl b) (.bl b) := by unfold Den; rfl
theorem den_int {g : G} {H : Hp} {i : Int} : Den g H (.int i) (.int i) := by unfold Den; rfl
theorem den_non {g : G} {H : Hp} : Den g H .non .non := by unfold Den; rfl
theorem den_str {g : G} {H : Hp} {x : Str} : Den g H (.str x) (.str x) := by unfold Den; rfl
theorem de_one {op} (h : DE X c a da) : DE X c (.BoolOp op [a] pos) da := pe_one h
theorem de_and (ha : DE X c a da) (hb : DE X c (.BoolOp .And (b :: rest) pos) db) : DE X c (.BoolOp .And (a :: b :: rest) pos) (dAndV da db) := wkE (pe_and ha hb) fun σ H Q ⟨ρ, H0, K, R, q, k⟩ =>
  ⟨ρ, H0, _, R, q, fun z ρ1 v H1 H01 q1 R1 S1 D1 => by
    obtain ⟨b, e, q2⟩ := asB_d q1 D1
    refine ⟨b, e, ?_⟩
    cases b with
    | true => rw [if_pos rfl]; exact ⟨ρ1, H01, K, R1, q2.1 rfl, fun r ρ' v' H' H0' kb R' S' D' => k r ρ' v' H' H0' kb R' (S1.trans S') D'⟩
    | false => rw [if_neg Bool.false_ne_true]; exact k _ _ _ _ _ (q2.2 rfl) R1 S1 den_bl⟩
theorem de_or (ha : DE X c a da) (hb : DE X c (.BoolOp .Or (b :: rest) pos) db) : DE X c (.BoolOp .Or (a :: b :: rest) pos) (dOrV da db) := wkE (pe_or ha hb) fun σ H Q ⟨ρ, H0, K, R, q, k⟩ =>
  ⟨ρ, H0, _, R, q, fun z ρ1 v H1 H01 q1 R1 S1 D1 => by
    obtain ⟨b, e, q2⟩ := asB_d q1 D1
    refine ⟨b, e, ?_⟩
    cases b with
    | true => rw [if_pos rfl]; exact k _ _ _ _ _ (q2.1 rfl) R1 S1 den_bl
    | false => rw [if_neg Bool.false_ne_true]; exact ⟨ρ1, H01, K, R1, q2.2 rfl, fun r ρ' v' H' H0' kb R' S' D' => k r ρ' v' H' H0' kb R' (S1.trans S') D'⟩⟩
theorem de_not (ha : DE X c a da) : DE X c (.UnaryOp .Not a pos) (dNotV da) := wkE (pe_not ha) fun σ H Q ⟨ρ, H0, K, R, q, k⟩ =>
  ⟨ρ, H0, _, R, q, fun z ρ1 v H1 H01 q1 R1 S1 D1 => by
    obtain ⟨b, e, q2⟩ := asB_d q1 D1
    exact ⟨b, e, k _ _ _ _ _ q2 R1 S1 den_bl⟩⟩
def dIf (t : DTv) (da db : DEv) : DEv := fun ρ K => t ρ fun b ρ1 => Br b (da ρ1 K) (db ρ1 K)
theorem de_if {t : Expr} (ht : DT X c t ta) (ha : DE X c a da) (hb : DE X c b db) : DE X c (.IfExp t a b pos) (dIf ta da db) := wkE (pe_ifExp ht ha hb) fun σ H Q ⟨ρ, H0, K, R, q, k⟩ =>
  ⟨ρ, H0, _, R, q, fun z ρ1 H1 H01 q1 R1 S1 => by
    cases z with
    | true => rw [if_pos rfl]; exact ⟨ρ1, H01, K, R1, q1.1 rfl, fun r ρ' v' H' H0' kb R' S' D' => k r ρ' v' H' H0' kb R' (S1.trans S') D'⟩
    | false => rw [if_neg Bool.false_ne_true]; exact ⟨ρ1, H01, K, R1, q1.2 rfl, fun r ρ' v' H' H0' kb R' S' D' => k r ρ' v' H' H0' kb R' (S1.trans S') D'⟩⟩
/-! ### argument lists, displays -/
def dNil : DAv := fun ρ K => K [] ρ
def dCons (da : DEv) (dr : DAv) : DAv := fun ρ K => da ρ fun x ρ1 => dr ρ1 fun l ρ2 => K (x :: l) ρ2
theorem da_nil : DA X c [] dNil := wkA pa_nil fun σ H Q ⟨ρ, H0, K, R, q, k⟩ => k _ _ _ _ _ q R (Same.refl _) DenL.nil
theorem da_cons {dr : DAv} (ha : DE X c e da) (hr : DA X c es dr) (hs : starEach (e :: es) X.env = (false, eval e X.env) :: starEach es X.env := by rfl) : DA X c (e :: es) (dCons da dr) := wkA (pa_cons ha hr hs) fun σ H Q ⟨ρ, H0, K, R, q, k⟩ =>
  ⟨ρ, H0, _, R, q, fun x ρ1 v1 H1 H01 q1 R1 S1 D1 => ⟨ρ1, H01, _, R1, q1, fun l ρ2 vs H2 H02 q2 R2 S2 D2 => k _ _ _ _ _ q2 R2 (S1.trans S2) (DenL.cons (Den.mono S2 _ _ D1) D2)⟩⟩
def dTup (dr : DAv) : DEv := fun ρ K => dr ρ fun l ρ1 => l.length ≤ 1000000 ∧ K (.tup l) ρ1
def dLst (dr : DAv) : DOv := fun ρ K => dr ρ fun l ρ1 => l.length ≤ 1000000 ∧ K l ρ1
theorem mil {n : Nat} (h : n ≤ 1000000) : n ≤ sizeLine := by rw [sizeLine_eq]; omega
theorem de_tup {dr : DAv} {x1} (h : DA X c es dr) : DE X c (.Tuple es x1 pos) (dTup dr) := wkE (pe_tup h) fun σ H Q ⟨ρ, H0, K, R, q, k⟩ =>
  ⟨ρ, H0, _, R, q, fun l ρ1 vs H1 H01 q1 ⟨L, R1⟩ S1 D1 => ⟨by rw [D1.len]; exact mil q1.1, fun p hp =>
    k _ _ _ _ _ q1.2 ⟨L, R1.grow (.tup vs) hp⟩ (S1.trans (same_upd (R1.same.free hp))) (by unfold Den; exact ⟨p, vs, rfl, SqT.of upd_same, DenL.mono (same_upd (R1.same.free hp)) _ _ D1⟩)⟩⟩
theorem do_lst {dr : DAv} (h : DA X c es dr) : DO X c (.List es pos) (dLst dr) := wkE (pe_lst h) fun σ H Q ⟨ρ, H0, K, R, q, k⟩ =>
  ⟨ρ, H0, _, R, q, fun l ρ1 vs H1 H01 q1 ⟨L, R1⟩ S1 D1 => ⟨by rw [D1.len]; exact mil q1.1, fun p hp =>
    k _ _ p _ _ q1.2 ⟨L, R1.beside (.lst vs) hp⟩ S1 (R1.fresh hp D1)⟩⟩
end
end DL
namespace DL
open PySem PySem.Spec PyProof.Rows L2
def asI (x : D) (k : Int → Prop) : Prop := match x with
  | .int i => k i
  | _ => False
def asT (x : D) (k : List D → Prop) : Prop := match x with
  | .tup l => k l
  | _ => False
def asL (x : D) (k : List D → Prop) : Prop := match x with
  | .lst l => k l
  | _ => False
/-- a tuple or a list -/
def asQ (x : D) (k : List D → Prop) : Prop := match x with
  | .tup l => k l
  | .lst l => k l
  | _ => False
def asS (x : D) (k : Str → Prop) : Prop := match x with
  | .str s => k s
  | _ => False
section
variable {g : G} {H : Hp} {x : D} {v : V}
theorem asI_d {k : Int → Prop} (h : asI x k) (q : Den g H x v) : ∃ i, x = .int i ∧ v = .int i ∧ k i := by
  cases x with
  | int i => unfold Den at q; exact ⟨i, rfl, q, h⟩
  | _ => exact h.elim
theorem asT_d {k : List D → Prop} (h : asT x k) (q : Den g H x v) : ∃ l a xs, v = .ref a ∧ SqT g.K H a xs ∧ DenL g H l xs ∧ k l := by
  cases x with
  | tup l => unfold Den at q; obtain ⟨a, xs, e, s, d⟩ := q; exact ⟨l, a, xs, e, s, d, h⟩
  | _ => exact h.elim
theorem asL_d {k : List D → Prop} (h : asL x k) (q : Den g H x v) : ∃ l a xs, v = .ref a ∧ H a = some (.lst xs) ∧ DenL g H l xs ∧ k l := by
  cases x with
  | lst l => unfold Den at q; obtain ⟨a, xs, e, s, d⟩ := q; exact ⟨l, a, xs, e, s, d, h⟩
  | _ => exact h.elim
theorem asQ_d {k : List D → Prop} (h : asQ x k) (q : Den g H x v) : ∃ l a xs, v = .ref a ∧ (H a = some (.lst xs) ∨ SqT g.K H a xs) ∧ DenL g H l xs ∧ k l := by
  cases x with
  | tup l => unfold Den at q; obtain ⟨a, xs, e, s, d⟩ := q; exact ⟨l, a, xs, e, .inr s, d, h⟩
  | lst l => unfold Den at q; obtain ⟨a, xs, e, s, d⟩ := q; exact ⟨l, a, xs, e, .inl s, d, h⟩
  | _ => exact h.elim
theorem asS_d {k : Str → Prop} (h : asS x k) (q : Den g H x v) : ∃ s, x = .str s ∧ v = .str s ∧ k s := by
  cases x with
  | str i => unfold Den at q; exact ⟨i, rfl, q, h⟩
  | _ => exact h.elim
end
theorem den_tup {g : G} {H : Hp} {l : List D} {p : Addr} {xs : List V} (h : H p = some (.tup xs)) (d : DenL g H l xs) : Den g H (.tup l) (.ref p) := by
  unfold Den; exact ⟨p, xs, rfl, SqT.of h, d⟩
theorem den_lst {g : G} {H : Hp} {l : List D} {p : Addr} {xs : List V} (h : H p = some (.lst xs)) (d : DenL g H l xs) : Den g H (.lst l) (.ref p) := by
  unfold Den; exact ⟨p, xs, rfl, h, d⟩
theorem Rel.same {c : C} {ρ : En} {σ : L2.St} {H0 H : Hp} (h : Rel c ρ σ H0 H) : Same H0 H := h.g.same
theorem Rel.grow {c : C} {ρ : En} {σ : L2.St} {H0 H : Hp} (h : Rel c ρ σ H0 H) {a : Addr} (o : HO) (n : H a = none) : Rel c ρ σ (upd H0 a o) (upd H a o) ∧ Same H0 (upd H0 a o) :=
  let ⟨L, h⟩ := h
  ⟨⟨L, h.grow o n⟩, same_upd (h.same.free n)⟩
theorem Rel.newT {c : C} {ρ : En} {σ : L2.St} {H0 H : Hp} (h : Rel c ρ σ H0 H) {a : Addr} (n : H a = none) {l : List D} {xs : List V} (d : DenL c.toG H0 l xs) :
    Rel c ρ σ (upd H0 a (.tup xs)) (upd H a (.tup xs)) ∧ Same H0 (upd H0 a (.tup xs)) ∧ Den c.toG (upd H0 a (.tup xs)) (.tup l) (.ref a) :=
  let ⟨r, s⟩ := h.grow (.tup xs) n
  ⟨r, s, den_tup upd_same (DenL.mono s _ _ d)⟩
theorem Rel.newL {c : C} {ρ : En} {σ : L2.St} {H0 H : Hp} (h : Rel c ρ σ H0 H) {a : Addr} (n : H a = none) {l : List D} {xs : List V} (d : DenL c.toG H0 l xs) :
    Rel c ρ σ (upd H0 a (.lst xs)) (upd H a (.lst xs)) ∧ Same H0 (upd H0 a (.lst xs)) ∧ Den c.toG (upd H0 a (.lst xs)) (.lst l) (.ref a) :=
  let ⟨r, s⟩ := h.grow (.lst xs) n
  ⟨r, s, den_lst upd_same (DenL.mono s _ _ d)⟩
theorem Rel.newO {c : C} {ρ : En} {σ : L2.St} {H0 H : Hp} (h : Rel c ρ σ H0 H) {a : Addr} (n : H a = none) {l : List D} {xs : List V} (d : DenL c.toG H0 l xs) :
    Rel c ρ σ H0 (upd H a (.lst xs)) ∧ Fresh c ρ σ H0 (upd H a (.lst xs)) l a :=
  let ⟨L, h⟩ := h
  ⟨⟨L, h.beside _ n⟩, h.fresh n d⟩

/-! ### ints -/
def fI (cnd : Int → Int → Prop) (f : Int → Int → D) : F2 := fun x y P => asI x fun i => asI y fun j => cnd i j ∧ P (f i j)
def fI0 (f : Int → Int → D) : F2 := fun x y P => asI x fun i => asI y fun j => P (f i j)
section
variable {X : Cx} {c : C}
theorem r2I {cnd : Int → Int → Prop} {gv : Int → Int → V} {f : Int → Int → D} (hg : ∀ H i j, Den c.toG H (f i j) (gv i j)) : R2D c (rI cnd gv) (fI cnd f) := fun ρ σ H0 H dx dy x y P Q R Dx Dy h k => by
  obtain ⟨i, rfl, rfl, h⟩ := asI_d h Dx
  obtain ⟨j, rfl, rfl, hc, h⟩ := asI_d h Dy
  exact ⟨i, j, rfl, rfl, hc, k _ _ H H0 h R (Same.refl _) (hg _ _ _)⟩
theorem r2I0 {gv : Int → Int → V} {f : Int → Int → D} (hg : ∀ H i j, Den c.toG H (f i j) (gv i j)) : R2D c (rI0 gv) (fI0 f) := fun ρ σ H0 H dx dy x y P Q R Dx Dy h k => by
  obtain ⟨i, rfl, rfl, h⟩ := asI_d h Dx
  obtain ⟨j, rfl, rfl, h⟩ := asI_d h Dy
  exact ⟨i, j, rfl, rfl, k _ _ H H0 h R (Same.refl _) (hg _ _ _)⟩
variable {e a b : Expr} {es : List Expr} {d da db : DEv} {pos : Pos}
def fSub : F2 := fI0 fun i j => .int (i - j)
def fLt : F2 := fI0 fun i j => .bl (decide (i < j))
def fLe : F2 := fI0 fun i j => .bl (decide (i ≤ j))
def fGt : F2 := fI0 fun i j => .bl (decide (j < i))
def fGe : F2 := fI0 fun i j => .bl (decide (j ≤ i))
def fEqI : F2 := fI0 fun i j => .bl (decide (i = j))
def fNeI : F2 := fI0 fun i j => .bl (!decide (i = j))
/-- structures: nothing unfolds them -/
structure DivOk (i j : Int) : Prop where
  ne : j ≠ 0
  sz : j.natAbs.log2 < 9000
structure ModOk (i j : Int) : Prop where
  ne : j ≠ 0
structure MulOk (i j : Int) : Prop where
  ok : IntMulOk i j
structure PowOk (i j : Int) : Prop where
  ok : CPow i j
def fMul : F2 := fI MulOk fun i j => .int (i * j)
def fDiv : F2 := fI DivOk fun i j => .int (i.fdiv j)
def fMod : F2 := fI ModOk fun i j => .int (i.fmod j)
def fPow : F2 := fI PowOk fun i j => .int (i ^ j.toNat)
theorem op_mulA : OpR X (binaryOp .Mult) (rI MulOk fun i j => .int (i * j)) := opI fun _ _ _ _ _ _ _ hc q => mul_int q hc.ok
theorem op_modA : OpR X (binaryOp .Mod) (rI ModOk fun i j => .int (i.fmod j)) := opI fun _ _ _ _ _ _ _ hc q => mod_int' hc.ne q
theorem op_powA : OpR X (binaryOp .Pow) (rI PowOk fun i j => .int (i ^ j.toNat)) := opI fun _ _ _ _ _ _ _ hc q => pow_int_small hc.ok.1 hc.ok.2.1 hc.ok.2.2 q
theorem op_divA : OpR X (binaryOp .FloorDiv) (rI DivOk fun i j => .int (i.fdiv j)) := opI fun _ _ _ _ _ _ _ hc q => floordiv_int hc.ne q (.inl (PyProof.noPylong_of_log2 hc.sz))
theorem MulOk.of_left {a b : Int} (h : Builtin.Int.intBits a ≤ 64) : MulOk a b := ⟨IntMulOk.of_left h⟩
theorem MulOk.of_right {a b : Int} (h : Builtin.Int.intBits b ≤ 64) : MulOk a b := ⟨IntMulOk.of_right h⟩
theorem MulOk.of_abs {i j : Int} {a b : Nat} (ha : i.natAbs < 2 ^ a) (hb : j.natAbs < 2 ^ b) (h : a + b ≤ 134217728) : MulOk i j := ⟨(mulx_ok ha hb h).ok⟩
theorem de_sub (ha : DE X c a da) (hb : DE X c b db) : DE X c (.BinOp a .Sub b pos) (d2 fSub da db) := de_op op_sub (r2I0 fun _ _ _ => den_int) ha hb
theorem de_mul (ha : DE X c a da) (hb : DE X c b db) : DE X c (.BinOp a .Mult b pos) (d2 fMul da db) := de_op op_mulA (r2I fun _ _ _ => den_int) ha hb
theorem de_div (ha : DE X c a da) (hb : DE X c b db) : DE X c (.BinOp a .FloorDiv b pos) (d2 fDiv da db) := de_op op_divA (r2I fun _ _ _ => den_int) ha hb
theorem de_mod (ha : DE X c a da) (hb : DE X c b db) : DE X c (.BinOp a .Mod b pos) (d2 fMod da db) := de_op op_modA (r2I fun _ _ _ => den_int) ha hb
theorem de_pow (ha : DE X c a da) (hb : DE X c b db) : DE X c (.BinOp a .Pow b pos) (d2 fPow da db) := de_op op_powA (r2I fun _ _ _ => den_int) ha hb
theorem r2_lt : R2D c (rI0 fun i j => .bl (decide (i < j))) fLt := r2I0 fun _ _ _ => den_bl
theorem r2_le : R2D c (rI0 fun i j => .bl (decide (i ≤ j))) fLe := r2I0 fun _ _ _ => den_bl
theorem r2_gt : R2D c (rI0 fun i j => .bl (decide (j < i))) fGt := r2I0 fun _ _ _ => den_bl
theorem r2_ge : R2D c (rI0 fun i j => .bl (decide (j ≤ i))) fGe := r2I0 fun _ _ _ => den_bl
theorem r2_eqI : R2D c rEq fEqI := fun ρ σ H0 H dx dy x y P Q R Dx Dy h k => by
  obtain ⟨i, rfl, rfl, h⟩ := asI_d h Dx
  obtain ⟨j, rfl, rfl, h⟩ := asI_d h Dy
  refine ⟨rfl, ?_⟩
  have e : decide (V.int i = V.int j) = decide (i = j) := by simp
  rw [e]
  exact k _ _ H H0 h R (Same.refl _) den_bl
theorem r2_neI : R2D c rNe fNeI := fun ρ σ H0 H dx dy x y P Q R Dx Dy h k => by
  obtain ⟨i, rfl, rfl, h⟩ := asI_d h Dx
  obtain ⟨j, rfl, rfl, h⟩ := asI_d h Dy
  refine ⟨rfl, ?_⟩
  have e : decide (V.int i = V.int j) = decide (i = j) := by simp
  rw [e]
  exact k _ _ H H0 h R (Same.refl _) den_bl
/-- is None, is not None -/
def isNon : D → Bool
  | .non => true
  | _ => false
theorem isNon_d {g : G} {H : Hp} {x : D} {v : V} (q : Den g H x v) : decide (v = .non) = isNon x := by
  cases x with
  | non => unfold Den at q; subst q; rfl
  | bl b => unfold Den at q; subst q; rfl
  | int b => unfold Den at q; subst q; rfl
  | str b => unfold Den at q; subst q; rfl
  | tup l => unfold Den at q; obtain ⟨a, xs, rfl, _⟩ := q; rfl
  | lst l => unfold Den at q; obtain ⟨a, xs, rfl, _⟩ := q; rfl
  | stt => unfold Den at q; obtain ⟨a, _, rfl⟩ := q; rfl
  | ins _ _ => unfold Den at q; obtain ⟨a, _, rfl, _⟩ := q; rfl
def fIsN : F2 := fun x y P => match y with
  | .non => P (.bl (isNon x))
  | _ => False
def fNotN : F2 := fun x y P => match y with
  | .non => P (.bl (!isNon x))
  | _ => False
theorem r2_isN : R2D c (fun x y H Q => y = .non ∧ Q (.bl (decide (x = .non))) H) fIsN := fun ρ σ H0 H dx dy x y P Q R Dx Dy h k => by
  cases dy with
  | non =>
    unfold Den at Dy
    refine ⟨Dy, ?_⟩
    rw [isNon_d Dx]
    exact k _ _ H H0 h R (Same.refl _) den_bl
  | _ => exact h.elim
theorem r2_notN : R2D c (fun x y H Q => y = .non ∧ Q (.bl (!decide (x = .non))) H) fNotN := fun ρ σ H0 H dx dy x y P Q R Dx Dy h k => by
  cases dy with
  | non =>
    unfold Den at Dy
    refine ⟨Dy, ?_⟩
    rw [isNon_d Dx]
    exact k _ _ H H0 h R (Same.refl _) den_bl
  | _ => exact h.elim
/-- is, is not of truths -/
def fIsB : F2 := fun x y P => asB x fun i => asB y fun j => P (.bl (decide (i = j)))
def fNotB : F2 := fun x y P => asB x fun i => asB y fun j => P (.bl (!decide (i = j)))
theorem r2_isB : R2D c (fun x y H Q => ∃ a b, x = .bl a ∧ y = .bl b ∧ Q (.bl (decide (a = b))) H) fIsB := fun ρ σ H0 H dx dy x y P Q R Dx Dy h k => by
  obtain ⟨i, rfl, h⟩ := asB_d h Dx
  obtain ⟨j, rfl, h⟩ := asB_d h Dy
  exact ⟨i, j, rfl, rfl, k _ _ H H0 h R (Same.refl _) den_bl⟩
theorem r2_notB : R2D c (fun x y H Q => ∃ a b, x = .bl a ∧ y = .bl b ∧ Q (.bl (!decide (a = b))) H) fNotB := fun ρ σ H0 H dx dy x y P Q R Dx Dy h k => by
  obtain ⟨i, rfl, h⟩ := asB_d h Dx
  obtain ⟨j, rfl, h⟩ := asB_d h Dy
  exact ⟨i, j, rfl, rfl, k _ _ H H0 h R (Same.refl _) den_bl⟩
/-- bools compared by == -/
def fEqB : F2 := fun x y P => asB x fun i => asB y fun j => P (.bl (decide (i = j)))
def fNeB : F2 := fun x y P => asB x fun i => asB y fun j => P (.bl (!decide (i = j)))
theorem r2_eqB : R2D c rEq fEqB := fun ρ σ H0 H dx dy x y P Q R Dx Dy h k => by
  obtain ⟨i, rfl, h⟩ := asB_d h Dx
  obtain ⟨j, rfl, h⟩ := asB_d h Dy
  refine ⟨rfl, ?_⟩
  have e : decide (V.bl i = V.bl j) = decide (i = j) := by simp
  rw [e]
  exact k _ _ H H0 h R (Same.refl _) den_bl
theorem r2_neB : R2D c rNe fNeB := fun ρ σ H0 H dx dy x y P Q R Dx Dy h k => by
  obtain ⟨i, rfl, h⟩ := asB_d h Dx
  obtain ⟨j, rfl, h⟩ := asB_d h Dy
  refine ⟨rfl, ?_⟩
  have e : decide (V.bl i = V.bl j) = decide (i = j) := by simp
  rw [e]
  exact k _ _ H H0 h R (Same.refl _) den_bl

/-! ### + of anything -/
abbrev Mil (n : Nat) : Prop := n ≤ 1000000
def fAdd : F2 := fun x y P => match x with
  | .int i => asI y fun j => P (.int (i + j))
  | .tup l => asT y fun m => Mil (l.length + m.length) ∧ P (.tup (l ++ m))
  | .lst l => asL y fun m => Mil (l.length + m.length) ∧ P (.lst (l ++ m))
  | .str s => asS y fun t => Mil (s.length + t.length) ∧ P (.str (s ++ t))
  | _ => False
def rStr2 : R2 := fun x y H Q => ∃ i j, x = .str i ∧ y = .str j ∧ i.length + j.length ≤ sizeLine ∧ Q (.str (i ++ j)) H
def rAdd (K : PySem.W.Frag) : R2 := fun x y H Q => (((rI0 fun i j => .int (i + j)) x y H Q ∨ rCatA K x y H Q) ∨ rCat x y H Q) ∨ rStr2 x y H Q
theorem op_addA : OpR X (binaryOp .Add) (rAdd X.K) := OpR.or (OpR.or (OpR.or op_add op_catA) op_cat) op_add_str
theorem r2_add : R2D c (rAdd c.K) fAdd := fun ρ σ H0 H dx dy x y P Q R Dx Dy h k => by
  cases dx with
  | int i =>
    unfold Den at Dx; subst Dx
    obtain ⟨j, rfl, rfl, h⟩ := asI_d h Dy
    exact .inl (.inl (.inl ⟨i, j, rfl, rfl, k _ _ H H0 h R (Same.refl _) den_int⟩))
  | str i =>
    unfold Den at Dx; subst Dx
    obtain ⟨j, rfl, rfl, h1, h⟩ := asS_d h Dy
    exact .inr ⟨i, j, rfl, rfl, mil h1, k _ _ H H0 h R (Same.refl _) den_str⟩
  | tup l =>
    have Dx' := Dx
    unfold Den at Dx
    obtain ⟨a, xs, rfl, sx, ex⟩ := Dx
    obtain ⟨m, b, ys, rfl, sy, ey, h1, h⟩ := asT_d h Dy
    refine .inl (.inl (.inr ⟨a, b, xs, ys, rfl, rfl, sqT_same R.same sx, sqT_same R.same sy, by rw [ex.len, ey.len]; exact mil h1, fun e => ?_, fun e1 e => ?_, fun e1 e2 p hp => ?_⟩))
    · subst e
      have : l = [] := by have := ex.len; cases l with
        | nil => rfl
        | cons _ _ => simp at this
      subst this
      exact k _ _ H H0 h R (Same.refl _) (by unfold Den; exact ⟨b, ys, rfl, sy, ey⟩)
    · subst e
      have : m = [] := by have := ey.len; cases m with
        | nil => rfl
        | cons _ _ => simp at this
      subst this
      rw [List.append_nil] at h
      exact k _ _ H H0 h R (Same.refl _) Dx'
    · obtain ⟨r, s, d⟩ := R.newT hp (ex.app ey)
      exact k _ _ _ _ h r s d
  | lst l =>
    unfold Den at Dx
    obtain ⟨a, xs, rfl, sx, ex⟩ := Dx
    obtain ⟨m, b, ys, rfl, sy, ey, h1, h⟩ := asL_d h Dy
    refine .inl (.inr ⟨a, b, xs, ys, rfl, rfl, R.same _ _ sx, R.same _ _ sy, by rw [ex.len, ey.len]; exact mil h1, fun p hp => ?_⟩)
    obtain ⟨r, s, d⟩ := R.newL hp (ex.app ey)
    exact k _ _ _ _ h r s d
  | _ => exact h.elim
theorem de_add (ha : DE X c a da) (hb : DE X c b db) (hK : X.K = c.K := by rfl) : DE X c (.BinOp a .Add b pos) (d2 fAdd da db) := de_op (by rw [← hK]; exact op_addA) r2_add ha hb
/-! ### fresh lists of two -/
abbrev FO := D → D → (List D → Prop) → Prop
def R2O (c : C) (r : R2) (f : FO) : Prop := ∀ (ρ : En) (σ : L2.St) (H0 H : Hp) (dx dy : D) (x y : V) (P : List D → Prop) (Q : VK), Rel c ρ σ H0 H → Den c.toG H0 dx x → Den c.toG H0 dy y → f dx dy P →
  (∀ l a H' H0', P l → Rel c ρ σ H0' H' → Same H0 H0' → Fresh c ρ σ H0' H' l a → Q (.ref a) H') → r x y H Q
def d2O (f : FO) (da db : DEv) : DOv := fun ρ K => da ρ fun x ρ1 => db ρ1 fun y ρ2 => f x y fun l => K l ρ2
theorem do_op {op : Operator} {r : R2} {f : FO} (ho : OpR X (binaryOp op) r) (rd : R2O c r f) (ha : DE X c a da) (hb : DE X c b db) : DO X c (.BinOp a op b pos) (d2O f da db) := wkE (pe_op ho ha hb) fun σ H Q ⟨ρ, H0, K, R, q, k⟩ =>
  ⟨ρ, H0, _, R, q, fun x ρ1 v1 H1 H01 q1 R1 S1 D1 => ⟨ρ1, H01, _, R1, q1, fun y ρ2 v2 H2 H02 q2 R2 S2 D2 =>
    rd ρ2 σ H02 H2 x y v1 v2 _ Q R2 (Den.mono S2 _ _ D1) D2 q2 fun l a H' H0' p R' S' F' => k l ρ2 a H' H0' p R' (S1.trans (S2.trans S')) F'⟩⟩
def fCatO : FO := fun x y P => asL x fun l => asL y fun m => Mil (l.length + m.length) ∧ P (l ++ m)
theorem r2_catO : R2O c rCat fCatO := fun ρ σ H0 H dx dy x y P Q R Dx Dy h k => by
  obtain ⟨l, a, xs, rfl, sx, ex, h⟩ := asL_d h Dx
  obtain ⟨m, b, ys, rfl, sy, ey, h1, h⟩ := asL_d h Dy
  refine ⟨a, b, xs, ys, rfl, rfl, R.same _ _ sx, R.same _ _ sy, by rw [ex.len, ey.len]; exact mil h1, fun p hp => ?_⟩
  obtain ⟨r, f⟩ := R.newO hp (ex.app ey)
  exact k _ _ _ _ h r (Same.refl _) f
theorem do_cat (ha : DE X c a da) (hb : DE X c b db) : DO X c (.BinOp a .Add b pos) (d2O fCatO da db) := do_op op_cat r2_catO ha hb
def repD (l : List D) (k : Int) : List D := (List.replicate k.toNat l).flatten
theorem DenL.rep {g : G} {H : Hp} {l : List D} {xs : List V} (d : DenL g H l xs) : ∀ n : Nat, DenL g H (List.replicate n l).flatten (List.replicate n xs).flatten
  | 0 => DenL.nil
  | n + 1 => by
    rw [List.replicate_succ, List.replicate_succ, List.flatten_cons, List.flatten_cons]
    exact d.app (d.rep n)
def fRepO : FO := fun x y P => asL x fun l => asI y fun k => -(2 ^ 63) ≤ k ∧ k < 2 ^ 63 ∧ Mil (l.length * k.toNat) ∧ P (repD l k)
theorem r2_repO : R2O c rRep fRepO := fun ρ σ H0 H dx dy x y P Q R Dx Dy h k => by
  obtain ⟨l, a, xs, rfl, sx, ex, h⟩ := asL_d h Dx
  obtain ⟨m, rfl, rfl, h1, h2, h3, h⟩ := asI_d h Dy
  refine ⟨a, m, xs, rfl, rfl, R.same _ _ sx, h1, h2, by rw [ex.len]; exact mil h3, fun p hp => ?_⟩
  obtain ⟨r, f⟩ := R.newO hp (ex.rep m.toNat)
  exact k _ _ _ _ h r (Same.refl _) f
theorem do_rep (ha : DE X c a da) (hb : DE X c b db) : DO X c (.BinOp a .Mult b pos) (d2O fRepO da db) := do_op op_rep r2_repO ha hb
/-! ### one-place -/
def dNeg (da : DEv) : DEv := fun ρ K => da ρ fun x ρ1 => asI x fun i => K (.int (-i)) ρ1
theorem de_neg (ha : DE X c a da) : DE X c (.UnaryOp .USub a pos) (dNeg da) := wkE (pe_un un_neg ha) fun σ H Q ⟨ρ, H0, K, R, q, k⟩ =>
  ⟨ρ, H0, _, R, q, fun x ρ1 v1 H1 H01 q1 R1 S1 D1 => by
    obtain ⟨i, rfl, rfl, q1⟩ := asI_d q1 D1
    exact ⟨i, rfl, k _ _ _ _ _ q1 R1 S1 den_int⟩⟩
/-! ### items -/
def fIx : F2 := fun x y P => asI y fun i => match x with
  | .str z => Mil z.length ∧ match atI z.cps.toList i with
    | some c => P (.str ⟨#[c]⟩)
    | none => False
  | _ => asQ x fun l => match atI l i with
    | some d => P d
    | none => False
theorem atI_den {g : G} {H : Hp} {l : List D} {xs : List V} {i : Int} {d : D} (q : DenL g H l xs) (h : atI l i = some d) : ∃ x, atI xs i = some x ∧ Den g H d x := by
  unfold atI at h ⊢
  rw [q.len]
  cases e : ixN l.length i with
  | none => rw [e] at h; cases h
  | some j =>
    rw [e] at h
    exact q.get h
theorem r2_ix : R2D c (rIx c.K) fIx := fun ρ σ H0 H dx dy x y P Q R Dx Dy h k => by
  obtain ⟨i, rfl, rfl, h⟩ := asI_d h Dy
  cases dx with
  | str z =>
    unfold Den at Dx; subst Dx
    obtain ⟨h1, h⟩ := h
    split at h
    · rename_i ch e
      exact .inr (.inr ⟨z, i, ch, rfl, rfl, mil h1, e, k _ _ H H0 h R (Same.refl _) den_str⟩)
    · exact h.elim
  | tup l =>
    obtain ⟨a, xs, rfl, sx, ex⟩ := (by unfold Den at Dx; exact Dx : ∃ a xs, x = .ref a ∧ SqT c.K H0 a xs ∧ DenL c.toG H0 l xs)
    have h : match atI l i with
      | some d => P d
      | none => False := h
    split at h
    · rename_i d e
      obtain ⟨v, e1, e2⟩ := atI_den ex e
      exact .inr (.inl ⟨a, xs, i, v, rfl, rfl, sqT_same R.same sx, e1, k _ _ H H0 h R (Same.refl _) e2⟩)
    · exact h.elim
  | lst l =>
    obtain ⟨a, xs, rfl, sx, ex⟩ := (by unfold Den at Dx; exact Dx : ∃ a xs, x = .ref a ∧ H0 a = some (.lst xs) ∧ DenL c.toG H0 l xs)
    have h : match atI l i with
      | some d => P d
      | none => False := h
    split at h
    · rename_i d e
      obtain ⟨v, e1, e2⟩ := atI_den ex e
      exact .inl ⟨a, xs, i, v, rfl, rfl, SqL.of (R.same _ _ sx), e1, k _ _ H H0 h R (Same.refl _) e2⟩
    · exact h.elim
  | _ => exact h.elim
theorem de_ix (ha : DE X c a da) (hb : DE X c b db) (hs : PlainIx b) (hK : X.K = c.K := by rfl) : DE X c (.Subscript a b pos) (d2 fIx da db) := wkE (pe_ix (by rw [← hK]; exact ix_seq) ha hb hs) fun _ _ _ h => wk2 r2_ix h
/-- an item of an own list -/
def ownAt (ρ : En) (i : Nat) (k : List D → Prop) : Prop := match ρ.1[i]? with
  | some (some (.own l)) => k l
  | _ => False
theorem ownAt_d {ρ : En} {i : Nat} {k : List D → Prop} (h : ownAt ρ i k) : ∃ l, ρ.1[i]? = some (some (Sl.own l)) ∧ k l := by
  unfold ownAt at h
  split at h
  · rename_i l e
    exact ⟨l, e, h⟩
  · exact h.elim
def dIxO (i : Nat) (db : DEv) : DEv := fun ρ K => ownAt ρ i fun _ => db ρ fun y ρ1 => asI y fun j => ownAt ρ1 i fun l => match atI l j with
  | some d => K d ρ1
  | none => False
theorem de_ixO {i : Nat} (ha : PE X a (tVar i)) (hb : DE X c b db) (hs : PlainIx b) : DE X c (.Subscript a b pos) (dIxO i db) := wkE (pe_ix ix_list ha hb hs) fun σ H Q ⟨ρ, H0, K, ⟨L0, R0⟩, q, k⟩ => by
  obtain ⟨l0, e0, q⟩ := ownAt_d q
  obtain ⟨v0, _⟩ := R0.own i l0 e0
  refine ⟨_, v0, ρ, H0, _, ⟨L0, R0⟩, q, fun y ρ1 v2 H2 H02 q2 ⟨L, R2⟩ S2 D2 => ?_⟩
  obtain ⟨j, rfl, rfl, q2⟩ := asI_d q2 D2
  obtain ⟨l, e, q2⟩ := ownAt_d q2
  obtain ⟨e1, e2, e3, xs, e4, e5⟩ := R2.own i l e
  rw [v0] at e1
  have e1' : L0 i = L i := by simpa using e1
  split at q2
  · rename_i d e'
    obtain ⟨u, h1, h2⟩ := atI_den e5 e'
    exact ⟨L0 i, xs, j, u, rfl, rfl, SqL.of (by rw [e1']; exact e4), h1, k _ _ _ _ _ q2 ⟨L, R2⟩ S2 h2⟩
  · exact q2.elim
/-! ### slices -/
abbrev DPv := En → (Option Int → En → Prop) → Prop
def tPo (c : C) (d : DPv) : TO := fun σ H Q => ∃ ρ H0 K, Rel c ρ σ H0 H ∧ d ρ K ∧ ∀ o ρ' H' H0', K o ρ' → Rel c ρ' σ H0' H' → Same H0 H0' → Q o H'
abbrev DP (X : Cx) (c : C) (e : Option Expr) (d : DPv) : Prop := PO X e (tPo c d)
def dPn : DPv := fun ρ K => K none ρ
def dPs (da : DEv) : DPv := fun ρ K => da ρ fun x ρ1 => asI x fun i => K (some i) ρ1
theorem dp_n : DP X c none dPn := ⟨fun pins s σ H Q I ⟨ρ, H0, K, R, q, k⟩ => po_none.run pins s σ H Q I (k _ _ _ _ q R (Same.refl _))⟩
theorem dp_s (ha : DE X c a da) : DP X c (some a) (dPs da) := ⟨fun pins s σ H Q I ⟨ρ, H0, K, R, q, k⟩ => (po_some ha).run pins s σ H Q I ⟨ρ, H0, _, R, q, fun x ρ1 v1 H1 H01 q1 R1 S1 D1 => by
  obtain ⟨i, rfl, rfl, q1⟩ := asI_d q1 D1
  exact ⟨i, rfl, k _ _ _ _ q1 R1 S1⟩⟩⟩
def cutD (l : List D) (lo hi : Option Int) : List D := (l.drop (HT.sIx l.length 0 lo)).take (HT.sIx l.length l.length hi - HT.sIx l.length 0 lo)
theorem DenL.cut {g : G} {H : Hp} {l : List D} {xs : List V} (d : DenL g H l xs) (lo hi : Option Int) : DenL g H (cutD l lo hi) (cutV xs lo hi) := by
  unfold cutD cutV
  rw [d.len]
  exact (d.drop _).take _
theorem cutD_whole {l : List D} {lo hi : Option Int} (h : HT.sIx l.length 0 lo = 0 ∧ HT.sIx l.length l.length hi = l.length) : cutD l lo hi = l := by
  unfold cutD
  rw [h.1, h.2]
  simp
def fSl (x : D) (lo hi : Option Int) (P : D → Prop) : Prop := match x with
  | .tup l => P (.tup (cutD l lo hi))
  | .lst l => P (.lst (cutD l lo hi))
  | .str z => Mil z.length ∧ P (.str (cutS z lo hi))
  | _ => False
def dSl (da : DEv) (dl dh : DPv) : DEv := fun ρ K => da ρ fun x ρ1 => dl ρ1 fun lo ρ2 => dh ρ2 fun hi ρ3 => fSl x lo hi fun z => K z ρ3
theorem de_sl {lo hi : Option Expr} {dl dh : DPv} {p2 : Pos} (ha : DE X c a da) (hl : DP X c lo dl) (hh : DP X c hi dh) (hK : X.K = c.K := by rfl) : DE X c (.Subscript a (.Slice lo hi none p2) pos) (dSl da dl dh) :=
  wkE (pe_slice (SlR.or (SlR.or sl_list sl_tupA) sl_str) ha hl hh) fun σ H Q ⟨ρ, H0, K, R, q, k⟩ => ⟨ρ, H0, _, R, q, fun x ρ1 v1 H1 H01 q1 R1 S1 D1 => ⟨ρ1, H01, _, R1, q1, fun o1 ρ2 H2 H02 q2 R2 S2 => ⟨ρ2, H02, _, R2, q2, fun o2 ρ3 H3 H03 q3 R3 S3 => by
    have D3 := Den.mono (S2.trans S3) _ _ D1
    have S := S1.trans (S2.trans S3)
    cases x with
    | str z =>
      unfold Den at D3
      obtain ⟨h1, q3⟩ := q3
      exact .inr ⟨z, D3, mil h1, k _ _ _ _ _ q3 R3 S den_str⟩
    | tup l =>
      have D3' := D3
      unfold Den at D3
      obtain ⟨a, xs, rfl, sx, ex⟩ := D3
      refine .inl (.inr ⟨a, xs, rfl, by rw [hK]; exact sqT_same R3.same sx, fun w => ?_, fun w p hp => ?_⟩)
      · rw [ex.len] at w
        have q3 : K (.tup (cutD l o1 o2)) ρ3 := q3
        rw [cutD_whole w] at q3
        exact k _ _ _ _ _ q3 R3 S D3'
      · obtain ⟨r, s, d⟩ := R3.newT hp (ex.cut o1 o2)
        exact k _ _ _ _ _ q3 r (S.trans s) d
    | lst l =>
      unfold Den at D3
      obtain ⟨a, xs, rfl, sx, ex⟩ := D3
      refine .inl (.inl ⟨a, xs, rfl, SqL.of (R3.same _ _ sx), fun p hp => ?_⟩)
      obtain ⟨r, s, d⟩ := R3.newL hp (ex.cut o1 o2)
      exact k _ _ _ _ _ q3 r (S.trans s) d
    | _ => exact q3.elim⟩⟩⟩
end
end DL
namespace DL
open PySem PySem.Spec PyProof.Rows L2
/-! ### built-ins by name -/
abbrev F1 := List D → (D → Prop) → Prop
def CRD (c : C) (r : List V → Hp → VK → Prop) (f : F1) : Prop := ∀ (ρ : En) (σ : L2.St) (H0 H : Hp) (ds : List D) (xs : List V) (P : D → Prop) (Q : VK), Rel c ρ σ H0 H → DenL c.toG H0 ds xs → f ds P →
  (∀ d v H' H0', P d → Rel c ρ σ H0' H' → Same H0 H0' → Den c.toG H0' d v → Q v H') → r xs H Q
def dCB (f : F1) (da : DAv) : DEv := fun ρ K => da ρ fun ds ρ1 => f ds fun z => K z ρ1
def as1 (ds : List D) (k : D → Prop) : Prop := match ds with
  | [x] => k x
  | _ => False
def as2 (ds : List D) (k : D → D → Prop) : Prop := match ds with
  | [x, y] => k x y
  | _ => False
theorem as1_d {g : G} {H : Hp} {ds : List D} {xs : List V} {k : D → Prop} (h : as1 ds k) (q : DenL g H ds xs) : ∃ x v, xs = [v] ∧ Den g H x v ∧ k x := by
  match ds, h with
  | [x], h =>
    unfold DenL DenL at q
    obtain ⟨v, r, rfl, d, rfl⟩ := q
    exact ⟨x, v, rfl, d, h⟩
theorem as2_d {g : G} {H : Hp} {ds : List D} {xs : List V} {k : D → D → Prop} (h : as2 ds k) (q : DenL g H ds xs) : ∃ x y v w, xs = [v, w] ∧ Den g H x v ∧ Den g H y w ∧ k x y := by
  match ds, h with
  | [x, y], h =>
    unfold DenL DenL DenL at q
    obtain ⟨v, r, rfl, d, w, r', rfl, d', rfl⟩ := q
    exact ⟨x, y, v, w, rfl, d, d', h⟩
section
variable {X : Cx} {c : C} {e a b : Expr} {es : List Expr} {d da db : DEv} {dr : DAv} {pos p : Pos} {x : Str}
theorem de_callB {id : String} {r : List V → Hp → VK → Prop} {f : F1} (hc : CallR X (.builtin id) r) (rd : CRD c r f) (hg : Gl X x) (hm : X.mg x = none) (hv : bootBuiltins x = some (.builtin id)) (ha : DA X c (e :: es) dr) (hn : x ≠ "__name__" := by decide) (hdb : (x == ("__debug__" : Str)) = false := by decide)
    (he : starEach (e :: es) X.env = (false, eval e X.env) :: starEach es X.env := by rfl) (hpl : (backTo pos (starEach es X.env)).any (·.1) = false := by rfl) : DE X c (.Call (.Name x p) (e :: es) [] pos) (dCB f dr) :=
  wkE (pe_callB hc hg hm hv ha hn hdb he hpl) fun σ H Q ⟨ρ, H0, K, R, q, k⟩ => ⟨ρ, H0, _, R, q, fun ds ρ1 xs H1 H01 q1 R1 S1 D1 =>
    rd ρ1 σ H01 H1 ds xs _ Q R1 D1 q1 fun z v H' H0' p R' S' D' => k z ρ1 v H' H0' p R' (S1.trans S') D'⟩
theorem de_callTy {T : String} {r : List V → Hp → VK → Prop} {f : F1} (hc : CallR X (.type T) r) (rd : CRD c r f) (hg : Gl X x) (hm : X.mg x = none) (hv : bootBuiltins x = some (.type T)) (ha : DA X c (e :: es) dr) (hn : x ≠ "__name__" := by decide) (hdb : (x == ("__debug__" : Str)) = false := by decide)
    (he : starEach (e :: es) X.env = (false, eval e X.env) :: starEach es X.env := by rfl) (hpl : (backTo pos (starEach es X.env)).any (·.1) = false := by rfl) : DE X c (.Call (.Name x p) (e :: es) [] pos) (dCB f dr) :=
  wkE (pe_callTy hc hg hm hv ha hn hdb he hpl) fun σ H Q ⟨ρ, H0, K, R, q, k⟩ => ⟨ρ, H0, _, R, q, fun ds ρ1 xs H1 H01 q1 R1 S1 D1 =>
    rd ρ1 σ H01 H1 ds xs _ Q R1 D1 q1 fun z v H' H0' p R' S' D' => k z ρ1 v H' H0' p R' (S1.trans S') D'⟩
def fLen : F1 := fun ds P => as1 ds fun x => match x with
  | .str z => Mil z.length ∧ P (.int z.length)
  | _ => asQ x fun l => P (.int l.length)
theorem cr_len : CRD c (fun xs H Q => ∃ x n, xs = [x] ∧ LenV c.K x H n ∧ Q (.int n) H) fLen := fun ρ σ H0 H ds xs P Q R D h k => by
  obtain ⟨x, v, rfl, D, h⟩ := as1_d h D
  cases x with
  | str z =>
    unfold Den at D; subst D
    exact ⟨_, _, rfl, ⟨mil h.1, rfl⟩, k _ _ _ _ h.2 R (Same.refl _) den_int⟩
  | tup l =>
    unfold Den at D
    obtain ⟨a, ys, rfl, sx, ex⟩ := D
    exact ⟨_, _, rfl, .inr ⟨ys, sqT_same R.same sx, rfl⟩, k _ _ _ _ h R (Same.refl _) (by rw [ex.len]; exact den_int)⟩
  | lst l =>
    unfold Den at D
    obtain ⟨a, ys, rfl, sx, ex⟩ := D
    exact ⟨_, _, rfl, .inl ⟨ys, SqL.of (R.same _ _ sx), rfl⟩, k _ _ _ _ h R (Same.refl _) (by rw [ex.len]; exact den_int)⟩
  | _ => exact h.elim
def fAbs : F1 := fun ds P => as1 ds fun x => asI x fun i => P (.int (if i < 0 then -i else i))
theorem cr_abs : CRD c (fun xs H Q => ∃ i, xs = [.int i] ∧ Q (.int (if i < 0 then -i else i)) H) fAbs := fun ρ σ H0 H ds xs P Q R D h k => by
  obtain ⟨x, v, rfl, D, h⟩ := as1_d h D
  obtain ⟨i, rfl, rfl, h⟩ := asI_d h D
  exact ⟨i, rfl, k _ _ _ _ h R (Same.refl _) den_int⟩
def fMax2 : F1 := fun ds P => as2 ds fun x y => asI x fun i => asI y fun j => P (.int (if j > i then j else i))
def fMin2 : F1 := fun ds P => as2 ds fun x y => asI x fun i => asI y fun j => P (.int (if j < i then j else i))
theorem cr_max2 : CRD c (fun xs H Q => ∃ i j, xs = [.int i, .int j] ∧ Q (.int (if j > i then j else i)) H) fMax2 := fun ρ σ H0 H ds xs P Q R D h k => by
  obtain ⟨x, y, v, w, rfl, D1, D2, h⟩ := as2_d h D
  obtain ⟨i, rfl, rfl, h⟩ := asI_d h D1
  obtain ⟨j, rfl, rfl, h⟩ := asI_d h D2
  exact ⟨i, j, rfl, k _ _ _ _ h R (Same.refl _) den_int⟩
theorem cr_min2 : CRD c (fun xs H Q => ∃ i j, xs = [.int i, .int j] ∧ Q (.int (if j < i then j else i)) H) fMin2 := fun ρ σ H0 H ds xs P Q R D h k => by
  obtain ⟨x, y, v, w, rfl, D1, D2, h⟩ := as2_d h D
  obtain ⟨i, rfl, rfl, h⟩ := asI_d h D1
  obtain ⟨j, rfl, rfl, h⟩ := asI_d h D2
  exact ⟨i, j, rfl, k _ _ _ _ h R (Same.refl _) den_int⟩
/-- int of a truth -/
def fInt : F1 := fun ds P => as1 ds fun x => match x with
  | .bl b => P (.int (if b then 1 else 0))
  | .int i => P (.int i)
  | _ => False
theorem cr_int : CRD c (fun xs H Q => (∃ i, xs = [.int i] ∧ Q (.int i) H) ∨ ∃ k, xs = [.bl k] ∧ Q (.int (if k then 1 else 0)) H) fInt := fun ρ σ H0 H ds xs P Q R D h k => by
  obtain ⟨x, v, rfl, D, h⟩ := as1_d h D
  cases x with
  | bl b =>
    unfold Den at D; subst D
    exact .inr ⟨b, rfl, k _ _ _ _ h R (Same.refl _) den_int⟩
  | int b =>
    unfold Den at D; subst D
    exact .inl ⟨b, rfl, k _ _ _ _ h R (Same.refl _) den_int⟩
  | _ => exact h.elim
/-- all, any of a list of truths -/
def blsOf : List D → Option (List Bool)
  | [] => some []
  | .bl b :: l => (blsOf l).map (b :: ·)
  | _ :: _ => none
theorem blsOf_d {g : G} {H : Hp} : ∀ {l : List D} {xs : List V} {bs : List Bool}, DenL g H l xs → blsOf l = some bs → xs = bs.map V.bl
  | [], xs, bs, d, e => by
    unfold DenL at d; subst d
    simp only [blsOf] at e
    cases e; rfl
  | x :: l, xs, bs, d, e => by
    unfold DenL at d
    obtain ⟨v, r, rfl, d1, d2⟩ := d
    cases x with
    | bl b =>
      unfold Den at d1; subst d1
      simp only [blsOf] at e
      cases q : blsOf l with
      | none => rw [q] at e; cases e
      | some cs =>
        rw [q] at e
        cases e
        rw [blsOf_d d2 q]
        rfl
    | _ => simp only [blsOf] at e; cases e
def fAll : F1 := fun ds P => as1 ds fun x => asL x fun l => match blsOf l with
  | some bs => P (.bl (bs.all id))
  | none => False
def fAny : F1 := fun ds P => as1 ds fun x => asL x fun l => match blsOf l with
  | some bs => P (.bl (bs.any id))
  | none => False
theorem cr_allD : CRD c (rAll c.K) fAll := fun ρ σ H0 H ds xs P Q R D h k => by
  obtain ⟨x, v, rfl, D, h⟩ := as1_d h D
  obtain ⟨l, a, xs, rfl, sx, ex, h⟩ := asL_d h D
  split at h
  · rename_i bs e
    exact ⟨a, bs, rfl, SqL.of (by rw [← blsOf_d ex e]; exact R.same _ _ sx), k _ _ _ _ h R (Same.refl _) den_bl⟩
  · exact h.elim
theorem cr_anyD : CRD c (rAny c.K) fAny := fun ρ σ H0 H ds xs P Q R D h k => by
  obtain ⟨x, v, rfl, D, h⟩ := as1_d h D
  obtain ⟨l, a, xs, rfl, sx, ex, h⟩ := asL_d h D
  split at h
  · rename_i bs e
    exact ⟨a, bs, rfl, SqL.of (by rw [← blsOf_d ex e]; exact R.same _ _ sx), k _ _ _ _ h R (Same.refl _) den_bl⟩
  · exact h.elim
/-- tuple(x) -/
def fTuple : F1 := fun ds P => as1 ds fun x => asQ x fun l => P (.tup l)
theorem cr_tuple : CRD c (fun xs H Q => ∃ p ys, xs = [.ref p] ∧ ((SqL c.K H p ys ∧ ∀ l, H l = none → Q (.ref l) (upd H l (.tup ys))) ∨ (SqT c.K H p ys ∧ Q (.ref p) H))) fTuple := fun ρ σ H0 H ds xs P Q R D h k => by
  obtain ⟨x, v, rfl, D, h⟩ := as1_d h D
  cases x with
  | tup l =>
    have D' := D
    unfold Den at D
    obtain ⟨a, ys, rfl, sx, ex⟩ := D
    exact ⟨a, ys, rfl, .inr ⟨sqT_same R.same sx, k _ _ _ _ h R (Same.refl _) D'⟩⟩
  | lst l =>
    unfold Den at D
    obtain ⟨a, ys, rfl, sx, ex⟩ := D
    refine ⟨a, ys, rfl, .inl ⟨SqL.of (R.same _ _ sx), fun p hp => ?_⟩⟩
    obtain ⟨r, s, d⟩ := R.newT hp ex
    exact k _ _ _ _ h r s d
  | _ => exact h.elim
/-- list(x): a fresh list -/
def dListO (da : DAv) : DOv := fun ρ K => da ρ fun ds ρ1 => as1 ds fun x => asQ x fun l => K l ρ1
theorem do_list (hg : Gl X x) (hm : X.mg x = none) (hv : bootBuiltins x = some (.type "list")) (ha : DA X c [e] dr) (hn : x ≠ "__name__" := by decide) (hdb : (x == ("__debug__" : Str)) = false := by decide)
    (he : starEach [e] X.env = (false, eval e X.env) :: starEach [] X.env := by rfl) (hpl : (backTo pos (starEach [] X.env)).any (·.1) = false := by rfl) (hK : X.K = c.K := by rfl) : DO X c (.Call (.Name x p) [e] [] pos) (dListO dr) :=
  wkE (pe_callTy call_list_of hg hm hv ha hn hdb he hpl) fun σ H Q ⟨ρ, H0, K, R, q, k⟩ => ⟨ρ, H0, _, R, q, fun ds ρ1 xs H1 H01 q1 R1 S1 D1 => by
    obtain ⟨x, v, rfl, D, h⟩ := as1_d q1 D1
    obtain ⟨l, a, xs, rfl, sx, ex, h⟩ := asQ_d h D
    refine ⟨a, xs, rfl, sx.elim (fun z => .inl (SqL.of (R1.same _ _ z))) (fun z => .inr (by rw [hK]; exact sqT_same R1.same z)), fun p hp => ?_⟩
    obtain ⟨r, f⟩ := R1.newO hp ex
    exact k _ _ _ _ _ h r S1 f⟩
/-! ### isinstance -/
def tyD : D → String
  | .non => "NoneType"
  | .bl _ => "bool"
  | .int _ => "int"
  | .str _ => "str"
  | .tup _ => "tuple"
  | .lst _ => "list"
  | .stt => "dict"
  | .ins _ _ => "object"
def plainTy : D → Bool
  | .stt => false
  | .ins _ _ => false
  | _ => true
def isiS (a b : String) : Bool := a == b || (a == "bool" && b == "int")
theorem tyX_d {g : G} {H0 H : Hp} (s : Same H0 H) {x : D} {v : V} (q : Den g H0 x v) (h : plainTy x = true) : TyX g.K H v (.type (tyD x)) := by
  cases x with
  | non => unfold Den at q; subst q; exact .base .non
  | bl b => unfold Den at q; subst q; exact .base (.bl b)
  | int b => unfold Den at q; subst q; exact .base (.int b)
  | str b => unfold Den at q; subst q; exact .base (.str b)
  | tup l =>
    unfold Den at q
    obtain ⟨a, xs, rfl, sx, _⟩ := q
    rcases sqT_same s sx with (z | ⟨o, z⟩) | ⟨o, its, n, z1, z2, _⟩
    · exact .base (.tup z)
    · exact .fTuple z
    · exact .kTuple z1 z2
  | lst l =>
    unfold Den at q
    obtain ⟨a, xs, rfl, sx, _⟩ := q
    exact .base (.lst (s _ _ sx))
  | stt => cases h
  | ins _ _ => cases h
def okTy (T : String) : Bool := (["NoneType", "bool", "int", "str", "tuple", "list"].all fun a => decide (kitB a T = some (isiS a T)))
theorem kit_okTy {T : String} (h : okTy T = true) {x : D} (hx : plainTy x = true) : kitB (tyD x) T = some (isiS (tyD x) T) := by
  have q := List.all_eq_true.mp h
  have hm : tyD x ∈ ["NoneType", "bool", "int", "str", "tuple", "list"] := by
    cases x <;> first
      | (simp [tyD]; done)
      | cases hx
  simpa using q _ hm
def dIsi (T : String) (da : DEv) : DEv := fun ρ K => da ρ fun x ρ1 => plainTy x = true ∧ K (.bl (isiS (tyD x) T)) ρ1
theorem de_isi {T : String} {xT : Str} {pT : Pos} (hT : okTy T = true) (hg : Gl X x) (hm : X.mg x = none) (hv : bootBuiltins x = some (.builtin "isinstance")) (ha : DE X c a da) (hgT : Gl X xT) (hmT : X.mg xT = none) (hvT : bootBuiltins xT = some (.type T)) (hn : x ≠ "__name__" := by decide) (hdb : (x == ("__debug__" : Str)) = false := by decide)
    (hnT : xT ≠ "__name__" := by decide) (hdbT : (xT == ("__debug__" : Str)) = false := by decide)
    (h1 : starEach [a, .Name xT pT] X.env = (false, eval a X.env) :: starEach [.Name xT pT] X.env := by rfl) (h2 : starEach [.Name xT pT] X.env = (false, eval (.Name xT pT) X.env) :: starEach [] X.env := by rfl)
    (hpl : (backTo pos (starEach [.Name xT pT] X.env)).any (·.1) = false := by rfl) (hK : X.K = c.K := by rfl) : DE X c (.Call (.Name x p) [a, .Name xT pT] [] pos) (dIsi T da) :=
  wkE (pe_callB call_isi hg hm hv (pa_cons ha (pa_cons (pe_bltn (v := .ty T) hgT hmT hvT rfl hnT hdbT) pa_nil h2) h1) hn hdb h1 hpl) fun σ H Q ⟨ρ, H0, K, R, q, k⟩ => ⟨ρ, H0, _, R, q, fun x ρ1 v H1 H01 q1 R1 S1 D1 =>
    ⟨v, .ty T, .type (tyD x), .type T, _, rfl, .ty T, by rw [hK]; exact tyX_d R1.same D1 q1.1, kit_ty (kit_okTy hT q1.1), k _ _ _ _ _ q1.2 R1 S1 den_bl⟩⟩
/-! ### own lists: their length, as a tuple, standing still -/
def dLenO (i : Nat) : DEv := fun ρ K => ownAt ρ i fun l => K (.int l.length) ρ
theorem de_lenO {i : Nat} (hg : Gl X x) (hm : X.mg x = none) (hv : bootBuiltins x = some (.builtin "len")) (ha : PE X e (tVar i)) (hn : x ≠ "__name__" := by decide) (hdb : (x == ("__debug__" : Str)) = false := by decide)
    (he : starEach [e] X.env = (false, eval e X.env) :: starEach [] X.env := by rfl) (hpl : (backTo pos (starEach [] X.env)).any (·.1) = false := by rfl) : DE X c (.Call (.Name x p) [e] [] pos) (dLenO i) :=
  wkE (pe_callB call_len hg hm hv (pa_cons ha pa_nil he) hn hdb he hpl) fun σ H Q ⟨ρ, H0, K, ⟨L, R⟩, q, k⟩ => by
    obtain ⟨l, e, q⟩ := ownAt_d q
    obtain ⟨e1, e2, e3, xs, e4, e5⟩ := R.own i l e
    exact ⟨_, e1, _, _, rfl, .inl ⟨xs, SqL.of e4, rfl⟩, k _ _ _ _ _ q ⟨L, R⟩ (Same.refl _) (by rw [e5.len]; exact den_int)⟩
def dTupO (i : Nat) : DEv := fun ρ K => ownAt ρ i fun l => K (.tup l) ρ
theorem de_tupO {i : Nat} (hg : Gl X x) (hm : X.mg x = none) (hv : bootBuiltins x = some (.type "tuple")) (ha : PE X e (tVar i)) (hn : x ≠ "__name__" := by decide) (hdb : (x == ("__debug__" : Str)) = false := by decide)
    (he : starEach [e] X.env = (false, eval e X.env) :: starEach [] X.env := by rfl) (hpl : (backTo pos (starEach [] X.env)).any (·.1) = false := by rfl) : DE X c (.Call (.Name x p) [e] [] pos) (dTupO i) :=
  wkE (pe_callTy call_tuple_of hg hm hv (pa_cons ha pa_nil he) hn hdb he hpl) fun σ H Q ⟨ρ, H0, K, ⟨L, R⟩, q, k⟩ => by
    obtain ⟨l, e, q⟩ := ownAt_d q
    obtain ⟨e1, e2, e3, xs, e4, e5⟩ := R.own i l e
    refine ⟨_, e1, L i, xs, rfl, .inl ⟨SqL.of e4, fun p hp => ?_⟩⟩
    obtain ⟨r, s, d⟩ := Rel.newT ⟨L, R⟩ hp e5
    exact k _ _ _ _ _ q r s d
/-- the own list in slot i stands still from now on -/
theorem RelL.still {ρ : En} {σ : L2.St} {H0 H : Hp} {L : Nat → Addr} (R : RelL c ρ σ H0 H L) {i : Nat} {l : List D} (e : ρ.1[i]? = some (some (Sl.own l))) :
    ∃ H0', RelL c (ρ.1.set i (some (Sl.v (.lst l))), ρ.2) σ H0' H L ∧ Same H0 H0' ∧ Den c.toG H0' (.lst l) (.ref (L i)) ∧ σ[i]? = some (some (V.ref (L i))) := by
  obtain ⟨e1, e2, e3, xs, e4, e5⟩ := R.own i l e
  have sm : Same H0 (upd H0 (L i) (.lst xs)) := same_upd e2
  have hi : i < ρ.1.length := (List.getElem?_eq_some_iff.mp e).1
  have dn : Den c.toG (upd H0 (L i) (.lst xs)) (.lst l) (.ref (L i)) := den_lst upd_same (DenL.mono sm _ _ e5)
  refine ⟨upd H0 (L i) (.lst xs), ⟨⟨fun b u q => ?_, R.keep, fun b u q => sm _ _ (R.base b u q), fun b q z => ?_, R.stt⟩, ?_, fun j d q => ?_, fun j m q => ?_, fun j k m m' q q' => ?_, fun j v q => ?_⟩, sm, dn, e1⟩
  · by_cases z : b = L i
    · subst z; rw [upd_same] at q; rw [e4]; exact q
    · rw [upd_ne z] at q; exact R.same b u q
  · have : b ≠ L i := fun y => z (by rw [y]; exact e3)
    rw [upd_ne this]; exact R.new b q z
  · show (ρ.1.set i _).length = _
    rw [List.length_set]; exact R.len
  · by_cases hj : j = i
    · subst hj
      have q : (ρ.1.set j (some (Sl.v (.lst l))))[j]? = some (some (Sl.v d)) := q
      rw [List.getElem?_set_self hi] at q
      have : d = .lst l := by simpa using q.symm
      subst this
      exact ⟨_, e1, dn⟩
    · have q : (ρ.1.set i (some (Sl.v (.lst l))))[j]? = some (some (Sl.v d)) := q
      rw [List.getElem?_set_ne (Ne.symm hj)] at q
      obtain ⟨v, f1, f2⟩ := R.val j d q
      exact ⟨v, f1, Den.mono sm _ _ f2⟩
  · have q : (ρ.1.set i (some (Sl.v (.lst l))))[j]? = some (some (Sl.own m)) := q
    by_cases hj : j = i
    · subst hj
      rw [List.getElem?_set_self hi] at q
      cases q
    · rw [List.getElem?_set_ne (Ne.symm hj)] at q
      obtain ⟨f1, f2, f3, ys, f4, f5⟩ := R.own j m q
      have ne : L j ≠ L i := fun z => hj (R.inj j i m l q e z)
      exact ⟨f1, by rw [upd_ne ne]; exact f2, f3, ys, f4, DenL.mono sm _ _ f5⟩
  · have q : (ρ.1.set i (some (Sl.v (.lst l))))[j]? = some (some (Sl.own m)) := q
    have q' : (ρ.1.set i (some (Sl.v (.lst l))))[k]? = some (some (Sl.own m')) := q'
    by_cases hj : j = i
    · subst hj; rw [List.getElem?_set_self hi] at q; cases q
    · by_cases hk : k = i
      · subst hk; rw [List.getElem?_set_self hi] at q'; cases q'
      · rw [List.getElem?_set_ne (Ne.symm hj)] at q
        rw [List.getElem?_set_ne (Ne.symm hk)] at q'
        exact R.inj j k m m' q q'
  · have q : (ρ.1.set i (some (Sl.v (.lst l))))[j]? = some (some (Sl.pin v)) := q
    by_cases hj : j = i
    · subst hj; rw [List.getElem?_set_self hi] at q; cases q
    · rw [List.getElem?_set_ne (Ne.symm hj)] at q; exact R.pin j v q
def dFrz (i : Nat) : DEv := fun ρ K => ownAt ρ i fun l => K (.lst l) (ρ.1.set i (some (.v (.lst l))), ρ.2)
theorem de_frz {i : Nat} (h : PE X e (tVar i)) : DE X c e (dFrz i) := wkE h fun σ H Q ⟨ρ, H0, K, ⟨L, R⟩, q, k⟩ => by
  obtain ⟨l, e, q⟩ := ownAt_d q
  obtain ⟨H0', R', S', D', e1⟩ := R.still e
  exact ⟨_, e1, k _ _ _ _ _ q ⟨L, R'⟩ S' D'⟩
end
end DL
namespace DL
open PySem PySem.Spec PyProof.Rows L2
/-! ### behind a call, a block: the caller's relation again -/
/-- the context of a call, a block that begins here -/
abbrev C.here (c : C) (H0 H : Hp) : C := ⟨c.toG, H, H0⟩
theorem RelG.enter {c : C} {st : Stt} {H0 H : Hp} (R : RelG c st H0 H) : RelG (c.here H0 H) st H0 H where
  same := R.same
  keep := fun _ _ e _ => e
  base := Same.refl _
  new := fun _ e _ => e
  stt := fun p e => by
    obtain ⟨a1, _, _, a4, a5⟩ := R.stt p e
    obtain ⟨n1, n2⟩ := R.sttO e
    exact ⟨a1, ⟨n1, by rw [show (c.here H0 H).Hs p.1 = H p.1 from rfl, a4]; exact fun z => nomatch z⟩, ⟨n2, by rw [show (c.here H0 H).Hs p.2 = H p.2 from rfl, a5]; exact fun z => nomatch z⟩, a4, a5⟩
theorem RelG.hsSome {c : C} {st : Stt} {H0 H : Hp} (R : RelG c st H0 H) {b : Addr} (e : c.Hs b ≠ none) : H b ≠ none := fun z => e (R.notHs z)
theorem RelG.back {c : C} {st st' : Stt} {H0 H H0' H' : Hp} (R : RelG c st H0 H) (R' : RelG (c.here H0 H) st' H0' H') : RelG c st' H0' H' where
  same := R'.same
  keep := fun b o e q => R'.keep b o (R.keep b o e q) q
  base := fun b o e => R'.base b o (R.base b o e)
  new := fun b e q => R'.new b (R.new b e q) (R.hsSome q)
  stt := fun p e => by
    obtain ⟨a1, _, _, a4, a5⟩ := R'.stt p e
    obtain ⟨_, a2, a3, _⟩ := R.stt p e
    exact ⟨a1, a2, a3, a4, a5⟩
theorem RelL.notSt {c : C} {ρ : En} {σ : L2.St} {H0 H : Hp} {L : Nat → Addr} (R : RelL c ρ σ H0 H L) {i : Nat} {l : List D} (e : ρ.1[i]? = some (some (Sl.own l))) : ¬ isSt c (L i) := fun ⟨p, ep, q⟩ => by
  obtain ⟨_, ⟨_, b⟩, ⟨_, b'⟩, _⟩ := R.stt p ep
  obtain ⟨_, _, e3, _⟩ := R.own i l e
  rcases q with q | q
  · rw [q] at e3; exact b e3
  · rw [q] at e3; exact b' e3
theorem RelL.back {c : C} {ρ : En} {st' : Stt} {σ : L2.St} {H0 H H0' H' : Hp} {L : Nat → Addr} (R : RelL c ρ σ H0 H L) (R' : RelG (c.here H0 H) st' H0' H') : RelL c (ρ.1, st') σ H0' H' L where
  toRelG := R.toRelG.back R'
  len := R.len
  val := fun i d e => by
    obtain ⟨v, e1, e2⟩ := R.val i d e
    exact ⟨v, e1, Den.mono R'.base _ _ e2⟩
  own := fun i l e => by
    obtain ⟨e1, e2, e3, xs, e4, e5⟩ := R.own i l e
    exact ⟨e1, R'.new _ e2 (by rw [show (c.here H0 H).Hs (L i) = H (L i) from rfl, e4]; exact fun z => nomatch z), e3, xs, R'.keep _ _ e4 (R.notSt e), DenL.mono R'.base _ _ e5⟩
  inj := R.inj
  pin := R.pin
theorem RelL.freshB {c : C} {ρ : En} {st' : Stt} {σ : L2.St} {H0 H H0' H' : Hp} {L : Nat → Addr} (R : RelL c ρ σ H0 H L) {a : Addr} {l : List D} {xs : List V} (n : H a = none) (h0 : H0' a = none) (h : H' a = some (.lst xs)) (d : DenL c.toG H0' l xs) : Fresh c (ρ.1, st') σ H0' H' l a where
  hs := R.toRelG.notHs n
  no := fun i l' e z => by
    obtain ⟨e1, e2, e3, ys, e4, e5⟩ := R.own i l' e
    rw [e1] at z
    have z' : L i = a := by simpa using z
    rw [z', n] at e4; cases e4
  h0 := h0
  h := ⟨xs, h, d⟩

/-! ### what a def promises -/
abbrev DFn := List D → Stt → (Sl → Stt → Prop) → Prop
def spD (n : Nat) (K : PySem.W.Frag) (cl : Nat → Addr) (f : DFn) : Sp := fun vs H Q _ => ∃ (sd : Option (Addr × Addr)) (ds : List D) (st : Stt) (H0 : Hp) (Kf : Sl → Stt → Prop),
  RelG ⟨⟨K, sd, cl⟩, H, H0⟩ st H0 H ∧ ds.length = n ∧ DenL ⟨K, sd, cl⟩ H0 ds vs ∧ f ds st Kf ∧
  (∀ d st' v H' H0', Kf (.v d) st' → RelG ⟨⟨K, sd, cl⟩, H, H0⟩ st' H0' H' → Den ⟨K, sd, cl⟩ H0' d v → Q v H') ∧
  (∀ l st' a xs H' H0', Kf (.own l) st' → RelG ⟨⟨K, sd, cl⟩, H, H0⟩ st' H0' H' → H a = none → H0' a = none → H' a = some (.lst xs) → DenL ⟨K, sd, cl⟩ H0' l xs → Q (.ref a) H')
def frz : Sl → D
  | .v d => d
  | .own l => .lst l
  | .pin _ => .non
/-- f(..) as a value -/
def dFn (f : DFn) (da : DAv) : DEv := fun ρ K => da ρ fun ds ρ1 => f ds ρ1.2 fun r st => K (frz r) (ρ1.1, st)
/-- f(..), a fresh list -/
def dFnO (f : DFn) (da : DAv) : DOv := fun ρ K => da ρ fun ds ρ1 => f ds ρ1.2 fun r st => match r with
  | .own l => K l (ρ1.1, st)
  | _ => False
section
variable {X : Cx} {c : C} {e a b : Expr} {es : List Expr} {d da db : DEv} {dr : DAv} {pos p : Pos} {x : Str}
variable {k n : Nat} {f : Addr} {fd : FuncData} {ps : List Str} {fn : DFn}
theorem call_D {cl : Nat → Addr} {vs : List V} {ds : List D} {ρ : En} {σ : L2.St} {H0 H : Hp} {Q : VK} {E : XK} {Kf : Sl → Stt → Prop} (hK : X.K = c.K) (hC : cl = c.cls) (hn : ds.length = n) {L : Nat → Addr} (R : RelL c ρ σ H0 H L) (D : DenL c.toG H0 ds vs) (q : fn ds ρ.2 Kf)
    (k1 : ∀ d st' v H' H0', Kf (.v d) st' → RelL c (ρ.1, st') σ H0' H' L → Same H0 H0' → Den c.toG H0' d v → Q v H')
    (k2 : ∀ l st' a H' H0', Kf (.own l) st' → RelL c (ρ.1, st') σ H0' H' L → Same H0 H0' → Fresh c (ρ.1, st') σ H0' H' l a → Q (.ref a) H') : spD n X.K cl fn vs H Q E := by
  rw [hK, hC]
  refine ⟨c.sd, ds, ρ.2, H0, Kf, R.toRelG.enter, hn, D, q, fun d st' v H' H0' kf R' D' => ?_, fun l st' a xs H' H0' kf R' n0 h0 h D' => ?_⟩
  · exact k1 d st' v H' H0' kf (R.back R') R'.base D'
  · exact k2 l st' a H' H0' kf (R.back R') R'.base (R.freshB n0 h0 h D')
def lenIs (n : Nat) (dr : DAv) : DAv := fun ρ K => dr ρ fun ds ρ1 => ds.length = n ∧ K ds ρ1
theorem de_fn {cl : Nat → Addr} (F : FnOk X.prog X.w X.K X.mg X.base CX0 k f fd ps (spD n X.K cl fn)) (hr : Room k X.A) (hg : Gl X x) (hm : X.mg x = some (.ref f)) (hk : PySem.W.keepIn X.K (.ref f) = true) (hb : Binds X.K fd ps []) (ha : DA X c (e :: es) dr)
    (hdb : (x == ("__debug__" : Str)) = false := by decide) (he : starEach (e :: es) X.env = (false, eval e X.env) :: starEach es X.env := by rfl) (hpl : (backTo pos (starEach es X.env)).any (·.1) = false := by rfl) (hK : X.K = c.K := by rfl) (hC : cl = c.cls := by rfl) :
    DE X c (.Call (.Name x p) (e :: es) [] pos) (dFn fn (lenIs n dr)) := wkE (pe_call F hr hg hm hk hb .nil pass0 ha hdb he hpl) fun σ H Q ⟨ρ, H0, K, R, q, k⟩ =>
  ⟨ρ, H0, _, R, q, fun ds ρ1 vs H1 H01 q1 ⟨L, R1⟩ S1 D1 => by
    show spD n X.K cl fn (vs ++ []) H1 Q E0
    rw [List.append_nil]
    refine call_D hK hC q1.1 R1 D1 q1.2 (fun d st' v H' H0' kf R' S' D' => k _ _ _ _ _ kf ⟨L, R'⟩ (S1.trans S') D') fun l st' a H' H0' kf R' S' F' => ?_
    obtain ⟨H0'', R'', S'', dn⟩ := R'.freeze F'
    exact k _ _ _ _ _ kf ⟨L, R''⟩ (S1.trans (S'.trans S'')) dn⟩
theorem do_fn {cl : Nat → Addr} (F : FnOk X.prog X.w X.K X.mg X.base CX0 k f fd ps (spD n X.K cl fn)) (hr : Room k X.A) (hg : Gl X x) (hm : X.mg x = some (.ref f)) (hk : PySem.W.keepIn X.K (.ref f) = true) (hb : Binds X.K fd ps []) (ha : DA X c (e :: es) dr)
    (hdb : (x == ("__debug__" : Str)) = false := by decide) (he : starEach (e :: es) X.env = (false, eval e X.env) :: starEach es X.env := by rfl) (hpl : (backTo pos (starEach es X.env)).any (·.1) = false := by rfl) (hK : X.K = c.K := by rfl) (hC : cl = c.cls := by rfl) :
    DO X c (.Call (.Name x p) (e :: es) [] pos) (dFnO fn (lenIs n dr)) := wkE (pe_call F hr hg hm hk hb .nil pass0 ha hdb he hpl) fun σ H Q ⟨ρ, H0, K, R, q, k⟩ =>
  ⟨ρ, H0, _, R, q, fun ds ρ1 vs H1 H01 q1 ⟨L, R1⟩ S1 D1 => by
    show spD n X.K cl fn (vs ++ []) H1 Q E0
    rw [List.append_nil]
    exact call_D hK hC q1.1 R1 D1 q1.2 (fun d st' v H' H0' kf R' S' D' => kf.elim) fun l st' a H' H0' kf R' S' F' => k _ _ _ _ _ kf ⟨L, R'⟩ (S1.trans S') F'⟩
/-- f() -/
theorem de_fn0 {cl : Nat → Addr} (F : FnOk X.prog X.w X.K X.mg X.base CX0 k f fd ps (spD 0 X.K cl fn)) (hr : Room k X.A) (hg : Gl X x) (hm : X.mg x = some (.ref f)) (hk : PySem.W.keepIn X.K (.ref f) = true) (hb : Binds X.K fd ps [])
    (hdb : (x == ("__debug__" : Str)) = false := by decide) (hK : X.K = c.K := by rfl) (hC : cl = c.cls := by rfl) :
    DE X c (.Call (.Name x p) [] [] pos) (dFn fn dNil) := wkE (pe_call0 F hr hg hm hk hb .nil pass0 hdb) fun σ H Q ⟨ρ, H0, K, ⟨L, R⟩, q, k⟩ => by
  show spD 0 X.K cl fn ([] ++ []) H Q E0
  refine call_D (ds := []) hK hC rfl R DenL.nil q (fun d st' v H' H0' kf R' S' D' => k _ _ _ _ _ kf ⟨L, R'⟩ S' D') fun l st' a H' H0' kf R' S' F' => ?_
  obtain ⟨H0'', R'', S'', dn⟩ := R'.freeze F'
  exact k _ _ _ _ _ kf ⟨L, R''⟩ (S'.trans S'') dn

/-! ### statements -/
structure DEnds where
  nx : En → Prop
  rt : D → En → Prop
  ro : List D → En → Prop
  bk : En → Prop
  ct : En → Prop
abbrev DSv := DEnds → En → Prop
structure ImpE (c : C) (H0 : Hp) (B : DEnds) (E : Ends) : Prop where
  nx : ∀ ρ σ H0' H, B.nx ρ → Rel c ρ σ H0' H → Same H0 H0' → E.nx σ H
  bk : ∀ ρ σ H0' H, B.bk ρ → Rel c ρ σ H0' H → Same H0 H0' → E.bk σ H
  ct : ∀ ρ σ H0' H, B.ct ρ → Rel c ρ σ H0' H → Same H0 H0' → E.ct σ H
  rt : ∀ d ρ σ v H0' H, B.rt d ρ → Rel c ρ σ H0' H → Same H0 H0' → Den c.toG H0' d v → E.rt v H
  ro : ∀ l ρ σ a H0' H, B.ro l ρ → Rel c ρ σ H0' H → Same H0 H0' → Fresh c ρ σ H0' H l a → E.rt (.ref a) H
theorem ImpE.later {c : C} {H0 H0' : Hp} {B : DEnds} {E : Ends} (h : ImpE c H0 B E) (s : Same H0 H0') : ImpE c H0' B E :=
  ⟨fun ρ σ h0 H q R S => h.nx ρ σ h0 H q R (s.trans S), fun ρ σ h0 H q R S => h.bk ρ σ h0 H q R (s.trans S), fun ρ σ h0 H q R S => h.ct ρ σ h0 H q R (s.trans S),
    fun d ρ σ v h0 H q R S => h.rt d ρ σ v h0 H q R (s.trans S), fun d ρ σ v h0 H q R S => h.ro d ρ σ v h0 H q R (s.trans S)⟩
theorem ImpE.nx' {c : C} {H0 : Hp} {B : DEnds} {E : Ends} (h : ImpE c H0 B E) {n : En → Prop} {N : L2.St → Hp → Prop} (k : ∀ ρ σ H0' H, n ρ → Rel c ρ σ H0' H → Same H0 H0' → N σ H) : ImpE c H0 { B with nx := n } { E with nx := N } :=
  ⟨k, h.bk, h.ct, h.rt, h.ro⟩
def tS (c : C) (ds : DSv) : TS := fun E σ H => ∃ ρ H0 B, Rel c ρ σ H0 H ∧ ds B ρ ∧ ImpE c H0 B E
abbrev DS (X : Cx) (c : C) (st : Stmt) (ds : DSv) : Prop := PS X st (tS c ds)
abbrev DSs (X : Cx) (c : C) (sts : List Stmt) (ds : DSv) : Prop := PSs X sts (tS c ds)
variable {st : Stmt} {rest : List Stmt} {ds dt : DSv}
theorem wkS {t t' : TS} (h : PS X st t) (w : ∀ E σ H, t' E σ H → t E σ H) : PS X st t' := ⟨fun pins s σ H D I q => h.run pins s σ H D I (w D σ H q)⟩
theorem wkSs {t t' : TS} (h : PSs X rest t) (w : ∀ E σ H, t' E σ H → t E σ H) : PSs X rest t' := ⟨fun pins s σ H D I q => h.run pins s σ H D I (w D σ H q)⟩
def dNext : DSv := fun B ρ => B.nx ρ
def dSeq (a b : DSv) : DSv := fun B ρ => a { B with nx := b B } ρ
theorem dss_nil : DSs X c [] dNext := wkSs pss_nil fun E σ H ⟨ρ, H0, B, R, q, k⟩ => k.nx ρ σ H0 H q R (Same.refl _)
theorem dss_one (h : DS X c st ds) : DSs X c [st] ds := pss_one h
theorem dss_cons (h : DS X c st ds) (h2 : DSs X c rest dt) : DSs X c (st :: rest) (dSeq ds dt) := wkSs (pss_cons h h2) fun E σ H ⟨ρ, H0, B, R, q, k⟩ =>
  ⟨ρ, H0, _, R, q, k.nx' fun ρ' σ' H0' H' q' R' S' => ⟨ρ', H0', B, R', q', k.later S'⟩⟩
theorem ds_pass : DS X c (.Pass pos) dNext := wkS ps_pass fun E σ H ⟨ρ, H0, B, R, q, k⟩ => k.nx ρ σ H0 H q R (Same.refl _)
def dBreak : DSv := fun B ρ => B.bk ρ
def dCont : DSv := fun B ρ => B.ct ρ
theorem ds_break : DS X c (.Break pos) dBreak := wkS ps_break fun E σ H ⟨ρ, H0, B, R, q, k⟩ => k.bk ρ σ H0 H q R (Same.refl _)
theorem ds_cont : DS X c (.Continue pos) dCont := wkS ps_continue fun E σ H ⟨ρ, H0, B, R, q, k⟩ => k.ct ρ σ H0 H q R (Same.refl _)
def dRet (d : DEv) : DSv := fun B ρ => d ρ fun x ρ1 => B.rt x ρ1
def dRetO (d : DOv) : DSv := fun B ρ => d ρ fun l ρ1 => B.ro l ρ1
/-- an own list is handed back -/
def dRetV (i : Nat) : DSv := fun B ρ => ownAt ρ i fun l => B.ro l (ρ.1.set i none, ρ.2)
theorem ds_ret (h : DE X c e d) : DS X c (.Return (some e) pos) (dRet d) := wkS (ps_ret h) fun E σ H ⟨ρ, H0, B, R, q, k⟩ => ⟨ρ, H0, _, R, q, fun x ρ1 v H1 H01 q1 R1 S1 D1 => k.rt x ρ1 σ v H01 H1 q1 R1 S1 D1⟩
theorem ds_retO {d : DOv} (h : DO X c e d) : DS X c (.Return (some e) pos) (dRetO d) := wkS (ps_ret h) fun E σ H ⟨ρ, H0, B, R, q, k⟩ => ⟨ρ, H0, _, R, q, fun x ρ1 a H1 H01 q1 R1 S1 F1 => k.ro x ρ1 σ a H01 H1 q1 R1 S1 F1⟩
theorem get_set_none {α : Type} {l : List (Option α)} {i j : Nat} {s : α} (h : (l.set i none)[j]? = some (some s)) : j ≠ i ∧ l[j]? = some (some s) := by
  rw [List.getElem?_set] at h
  by_cases e : i = j
  · rw [if_pos e] at h
    split at h <;> cases h
  · rw [if_neg e] at h
    exact ⟨fun z => e z.symm, h⟩
theorem RelL.drop {ρ : En} {σ : L2.St} {H0 H : Hp} {L : Nat → Addr} (R : RelL c ρ σ H0 H L) (i : Nat) : RelL c (ρ.1.set i none, ρ.2) σ H0 H L where
  toRelG := R.toRelG
  len := by show (ρ.1.set i none).length = _; rw [List.length_set]; exact R.len
  val := fun j d e => R.val j d (get_set_none e).2
  own := fun j d e => R.own j d (get_set_none e).2
  inj := fun j k m m' e e' => R.inj j k m m' (get_set_none e).2 (get_set_none e').2
  pin := fun j d e => R.pin j d (get_set_none e).2
theorem RelL.dropF {ρ : En} {σ : L2.St} {H0 H : Hp} {L : Nat → Addr} (R : RelL c ρ σ H0 H L) {i : Nat} {l : List D} (e : ρ.1[i]? = some (some (Sl.own l))) : Fresh c (ρ.1.set i none, ρ.2) σ H0 H l (L i) := by
  obtain ⟨e1, e2, e3, xs, e4, e5⟩ := R.own i l e
  refine ⟨e3, fun j l' q z => ?_, e2, xs, e4, e5⟩
  obtain ⟨nj, q⟩ := get_set_none q
  obtain ⟨f1, _⟩ := R.own j l' q
  rw [f1] at z
  exact nj (R.inj j i l' l q e (by simpa using z))
theorem ds_retV {i : Nat} (h : PE X e (tVar i)) : DS X c (.Return (some e) pos) (dRetV i) := wkS (ps_ret h) fun E σ H ⟨ρ, H0, B, ⟨L, R⟩, q, k⟩ => by
  obtain ⟨l, e, q⟩ := ownAt_d q
  obtain ⟨e1, _⟩ := R.own i l e
  exact ⟨_, e1, k.ro l _ σ _ H0 H q ⟨L, R.drop i⟩ (Same.refl _) (R.dropF e)⟩
def dRetN : DSv := fun B ρ => B.rt .non ρ
theorem ds_retN : DS X c (.Return none pos) dRetN := wkS ps_retN fun E σ H ⟨ρ, H0, B, R, q, k⟩ => k.rt .non ρ σ .non H0 H q R (Same.refl _) den_non
def dIfS (t : DTv) (a b : DSv) : DSv := fun B ρ => t ρ fun x ρ1 => Br x (a B ρ1) (b B ρ1)
theorem ds_if {t : DTv} {A B' : List Stmt} {cnd : Expr} (hc : DT X c cnd t) (ha : DSs X c A ds) (hb : DSs X c B' dt) : DS X c (.If cnd A B' pos) (dIfS t ds dt) := wkS (ps_if hc ha hb) fun E σ H ⟨ρ, H0, B, R, q, k⟩ =>
  ⟨ρ, H0, _, R, q, fun x ρ1 H1 H01 q1 R1 S1 => by
    cases x with
    | true => rw [if_pos rfl]; exact ⟨ρ1, H01, B, R1, q1.1 rfl, k.later S1⟩
    | false => rw [if_neg Bool.false_ne_true]; exact ⟨ρ1, H01, B, R1, q1.2 rfl, k.later S1⟩⟩
/-! targets -/
abbrev DGv := D → En → (En → Prop) → Prop
def Touch (vs : List Nat) (σ σ' : L2.St) : Prop := wipe σ' vs = wipe σ vs
theorem wipe_get (σ : L2.St) (i : Nat) : ∀ vs : List Nat, (wipe σ vs)[i]? = if i ∈ vs then (if i < σ.length then some none else none) else σ[i]?
  | [] => by simp [wipe]
  | v :: vs => by
    unfold wipe
    rw [List.getElem?_set, wipe_length, wipe_get σ i vs]
    by_cases h : v = i
    · subst h; simp
    · rw [if_neg h]
      have : (i ∈ v :: vs) = (i ∈ vs) := by simp [Ne.symm h]
      simp only [this]
theorem Touch.set {vs : List Nat} {σ : L2.St} {i : Nat} (a : Option V) (h : i ∈ vs) : Touch vs σ (σ.set i a) := by
  unfold Touch
  apply List.ext_getElem?
  intro j
  rw [wipe_get, wipe_get, List.length_set]
  by_cases hj : j ∈ vs
  · rw [if_pos hj, if_pos hj]
  · rw [if_neg hj, if_neg hj, List.getElem?_set_ne (fun z => hj (by rw [← z]; exact h))]
def tG (c : C) (vs : List Nat) (t : DGv) : TG := fun v σ H Q => ∃ ρ H0 d K, Rel c ρ σ H0 H ∧ Den c.toG H0 d v ∧ t d ρ K ∧ ∀ ρ' σ', K ρ' → Rel c ρ' σ' H0 H → Touch vs σ σ' → Q σ' H
abbrev DG (X : Cx) (c : C) (vs : List Nat) (tg : Expr) (t : DGv) : Prop := PG X tg (tG c vs t)
def setV (ρ : En) (i : Nat) (x : D) : En := (ρ.1.set i (some (.v x)), ρ.2)
def setO (ρ : En) (i : Nat) (l : List D) : En := (ρ.1.set i (some (.own l)), ρ.2)
theorem get_set_some {α : Type} {l : List (Option α)} {i j : Nat} {s t : α} (h : (l.set i (some t))[j]? = some (some s)) : (j = i ∧ s = t ∧ i < l.length) ∨ (j ≠ i ∧ l[j]? = some (some s)) := by
  rw [List.getElem?_set] at h
  by_cases e : i = j
  · rw [if_pos e] at h
    split at h
    · exact .inl ⟨e.symm, by simpa using h.symm, by assumption⟩
    · cases h
  · rw [if_neg e] at h
    exact .inr ⟨fun z => e z.symm, h⟩
theorem RelL.setV {ρ : En} {σ : L2.St} {H0 H : Hp} {L : Nat → Addr} (R : RelL c ρ σ H0 H L) (i : Nat) {x : D} {v : V} (D : Den c.toG H0 x v) : RelL c (DL.setV ρ i x) (σ.set i (some v)) H0 H L where
  toRelG := R.toRelG
  len := by show (ρ.1.set i _).length = _; rw [List.length_set, List.length_set]; exact R.len
  val := fun j d e => by
    rcases get_set_some e with ⟨rfl, e, hl⟩ | ⟨nj, e⟩
    · cases e
      exact ⟨v, by rw [List.getElem?_set_self (by rw [← R.len]; exact hl)], D⟩
    · rw [List.getElem?_set_ne (Ne.symm nj)]
      exact R.val j d e
  own := fun j l e => by
    rcases get_set_some e with ⟨rfl, e, _⟩ | ⟨nj, e⟩
    · cases e
    · rw [List.getElem?_set_ne (Ne.symm nj)]
      exact R.own j l e
  inj := fun j k m m' e e' => by
    rcases get_set_some e with ⟨rfl, e, _⟩ | ⟨nj, e⟩
    · cases e
    · rcases get_set_some e' with ⟨rfl, e', _⟩ | ⟨nk, e'⟩
      · cases e'
      · exact R.inj j k m m' e e'
  pin := fun j w e => by
    rcases get_set_some e with ⟨rfl, e, _⟩ | ⟨nj, e⟩
    · cases e
    · rw [List.getElem?_set_ne (Ne.symm nj)]
      exact R.pin j w e
theorem Rel.setO {ρ : En} {σ : L2.St} {H0 H : Hp} (R : Rel c ρ σ H0 H) (i : Nat) {l : List D} {a : Addr} (F : Fresh c ρ σ H0 H l a) : Rel c (DL.setO ρ i l) (σ.set i (some (.ref a))) H0 H := by
  obtain ⟨L, R⟩ := R
  obtain ⟨hs, no, h0, xs, h, d⟩ := F
  refine ⟨fun j => if j = i then a else L j, R.toRelG, ?_, fun j d e => ?_, fun j m e => ?_, fun j k m m' e e' z => ?_, fun j w e => ?_⟩
  rotate_left 4
  · rcases get_set_some e with ⟨rfl, e, _⟩ | ⟨nj, e⟩
    · cases e
    · rw [List.getElem?_set_ne (Ne.symm nj)]
      exact R.pin j w e
  · show (ρ.1.set i _).length = _
    rw [List.length_set, List.length_set]; exact R.len
  · rcases get_set_some e with ⟨rfl, e, hl⟩ | ⟨nj, e⟩
    · cases e
    · rw [List.getElem?_set_ne (Ne.symm nj)]
      exact R.val j d e
  · rcases get_set_some e with ⟨rfl, e, hl⟩ | ⟨nj, e⟩
    · cases e
      rw [if_pos rfl]
      exact ⟨by rw [List.getElem?_set_self (by rw [← R.len]; exact hl)], h0, hs, xs, h, d⟩
    · rw [List.getElem?_set_ne (Ne.symm nj), if_neg nj]
      exact R.own j m e
  · rcases get_set_some e with ⟨hj, _, _⟩ | ⟨nj, f⟩
    · rcases get_set_some e' with ⟨hk, _, _⟩ | ⟨nk, f'⟩
      · rw [hj, hk]
      · rw [if_pos hj, if_neg nk] at z
        obtain ⟨f1, _⟩ := R.own k m' f'
        exact absurd (by rw [f1, ← z]) (no k m' f')
    · rcases get_set_some e' with ⟨hk, _, _⟩ | ⟨nk, f'⟩
      · rw [if_pos hk, if_neg nj] at z
        obtain ⟨f1, _⟩ := R.own j m f
        exact absurd (by rw [f1, z]) (no j m f)
      · rw [if_neg nj, if_neg nk] at z
        exact R.inj j k m m' f f' z
def aName (i : Nat) : DGv := fun x ρ K => K (setV ρ i x)
theorem dg_name {vs : List Nat} {i : Nat} {tg : Expr} (h : PG X tg (gName i)) (hi : i ∈ vs) : DG X c vs tg (aName i) := ⟨fun pins s σ H v u Q I r ⟨ρ, H0, d, K, ⟨L, R⟩, D, q, k⟩ => h.run pins s σ H v u Q I r (k _ _ q ⟨L, R.setV i D⟩ (Touch.set _ hi))⟩
abbrev DGs := List D → En → (En → Prop) → Prop
def aNil : DGs := fun l ρ K => l = [] ∧ K ρ
def aCons (t : DGv) (u : DGs) : DGs := fun l ρ K => match l with
  | x :: r => t x ρ fun ρ1 => u r ρ1 K
  | [] => False
def aTup (n : Nat) (t : DGs) : DGv := fun x ρ K => asT x fun l => l.length = n ∧ t l ρ K
def tGs (c : C) (ts : List Nat) (t : DGs) : TGs := fun vs σ H Q => ∃ ρ H0 l K, Rel c ρ σ H0 H ∧ DenL c.toG H0 l vs ∧ t l ρ K ∧ ∀ ρ' σ', K ρ' → Rel c ρ' σ' H0 H → Touch ts σ σ' → Q σ' H
theorem dgs_nil {ts : List Nat} : PGs X [] (tGs c ts aNil) := ⟨fun pins s σ H vs us Q I r ⟨ρ, H0, l, K, R, D, q, k⟩ => by
  obtain ⟨rfl, q⟩ := q
  unfold DenL at D
  exact pgs_nil.run pins s σ H vs us Q I r ⟨D, k _ _ q R rfl⟩⟩
theorem dgs_cons {ts : List Nat} {t : DGv} {u : DGs} (h1 : DG X c ts e t) (h2 : PGs X es (tGs c ts u)) (hs : (assignEach (e :: es) X.env).map (·.2) = assign e X.env :: (assignEach es X.env).map (·.2) := by rfl) : PGs X (e :: es) (tGs c ts (aCons t u)) :=
  ⟨fun pins s σ H vs us Q I r ⟨ρ, H0, l, K, R, D, q, k⟩ => by
    cases l with
    | nil => exact q.elim
    | cons x m =>
      unfold DenL at D
      obtain ⟨v, w, rfl, d1, d2⟩ := D
      refine (pgs_cons h1 h2 hs).run pins s σ H _ us Q I r ⟨v, w, rfl, ρ, H0, x, _, R, d1, q, fun ρ1 σ1 q1 R1 T1 => ⟨ρ1, H0, m, K, R1, d2, q1, fun ρ2 σ2 q2 R2 T2 => k ρ2 σ2 q2 R2 (Eq.trans T2 T1)⟩⟩⟩
theorem dg_tup {ts : List Nat} {t : DGs} {kk n : Nat} (hc : X.calm = true) (h : PGs X es (tGs c ts t)) (hn : (assignEach es X.env).length = n := by rfl) (hst : (assignEach es X.env).findIdx? (·.1) = none := by rfl) (hK : X.K = c.K := by rfl) : DG X c ts (.Tuple es kk pos) (aTup n t) :=
  ⟨fun pins s σ H v u Q I r ⟨ρ, H0, d, K, R, D, q, k⟩ => by
    obtain ⟨l, a, xs, rfl, sx, ex, hl, q⟩ := asT_d q D
    exact (pg_tup hc h hn hst).run pins s σ H _ u Q I r ⟨a, xs, rfl, by rw [hK]; exact sqT_same R.same sx, by rw [ex.len]; exact hl, ρ, H0, l, K, R, ex, q, k⟩⟩
/-! stores -/
def dSet (i : Nat) (d : DEv) : DSv := fun B ρ => d ρ fun x ρ1 => B.nx (setV ρ1 i x)
def dSetO (i : Nat) (d : DOv) : DSv := fun B ρ => d ρ fun l ρ1 => B.nx (setO ρ1 i l)
/-- from a store's rule: its value by data -/
theorem ds_setG {i : Nat} {te : TE} (h : PS X st (tAsg te (gName i))) (w : ∀ σ H Q, tD c d σ H Q → te σ H Q) : DS X c st (dSet i d) := wkS h fun E σ H ⟨ρ, H0, B, R, q, k⟩ =>
  w _ _ _ ⟨ρ, H0, _, R, q, fun x ρ1 v H1 H01 q1 ⟨L, R1⟩ S1 D1 => k.nx _ _ H01 H1 q1 ⟨L, R1.setV i D1⟩ S1⟩
theorem ds_setOG {i : Nat} {te : TE} {d : DOv} (h : PS X st (tAsg te (gName i))) (w : ∀ σ H Q, tO c d σ H Q → te σ H Q) : DS X c st (dSetO i d) := wkS h fun E σ H ⟨ρ, H0, B, R, q, k⟩ =>
  w _ _ _ ⟨ρ, H0, _, R, q, fun x ρ1 a H1 H01 q1 R1 S1 F1 => k.nx _ _ H01 H1 q1 (R1.setO i F1) S1⟩
theorem ds_set {i : Nat} {y : Str} {py : Pos} (hN : X.N.Nodup) (hi : X.N[i]? = some y) (hx : Loc X.env.scope y) (he : DE X c e d) (hs : swapsWith e (some (.Name y py)) pos.line X.env = pure false := by rfl) (hf : X.fn y = true ∨ X.env.scope.names.lookup y = some .local := by first | exact .inl rfl | exact .inr rfl | assumption) :
    DS X c (.Assign [.Name y py] e pos) (dSet i d) := ds_setG (ps_set hN hi hx he hs hf) fun _ _ _ q => q
theorem ds_setO {i : Nat} {y : Str} {py : Pos} {d : DOv} (hN : X.N.Nodup) (hi : X.N[i]? = some y) (hx : Loc X.env.scope y) (he : DO X c e d) (hs : swapsWith e (some (.Name y py)) pos.line X.env = pure false := by rfl) (hf : X.fn y = true ∨ X.env.scope.names.lookup y = some .local := by first | exact .inl rfl | exact .inr rfl | assumption) :
    DS X c (.Assign [.Name y py] e pos) (dSetO i d) := ds_setOG (ps_set hN hi hx he hs hf) fun _ _ _ q => q
def dAsg (d : DEv) (t : DGv) : DSv := fun B ρ => d ρ fun x ρ1 => t x ρ1 B.nx
theorem ds_asg {ts : List Nat} {tg : Expr} {t : DGv} (he : DE X c e d) (hg : DG X c ts tg t) (hs : swapsWithSole [tg] e pos.line X.env = pure false := by rfl) (hw : swappedStores [tg] e X.env = pure none := by rfl)
    (h1 : (assignEach [tg] X.env).map (·.2) = [assign tg X.env] := by rfl) : DS X c (.Assign [tg] e pos) (dAsg d t) := wkS (ps_asg he hg hs hw h1) fun E σ H ⟨ρ, H0, B, R, q, k⟩ =>
  ⟨ρ, H0, _, R, q, fun x ρ1 v H1 H01 q1 R1 S1 D1 => ⟨ρ1, H01, x, _, R1, D1, q1, fun ρ' σ' q' R' _ => k.nx ρ' σ' H01 H1 q' R' S1⟩⟩
/-- a, b = x, y -/
def dPar (i j : Nat) (da : DAv) : DSv := fun B ρ => da ρ fun ds ρ1 => as2 ds fun x y => B.nx (setV (setV ρ1 i x) j y)
theorem ds_par {i j : Nat} {y z : Str} {px py pt : Pos} {kt k2 : _} {pt2 : Pos} (hc : X.calm = true) (hN : X.N.Nodup) (hi : X.N[i]? = some y) (hj : X.N[j]? = some z) (hij : i ≠ j)
    (hx : X.env.scope.names.lookup y = some .local) (hy : X.env.scope.names.lookup z = some .local) (ha : DA X c [a, b] dr)
    (hw : swappedStores [.Tuple [.Name y px, .Name z py] kt pt] (.Tuple [a, b] k2 pt2) X.env = pure (some [y, z]))
    (hs : swapsWithSole [.Tuple [.Name y px, .Name z py] kt pt] (.Tuple [a, b] k2 pt2) pos.line X.env = pure false := by rfl) : DS X c (.Assign [.Tuple [.Name y px, .Name z py] kt pt] (.Tuple [a, b] k2 pt2) pos) (dPar i j dr) :=
  wkS (ps_par hc hN hi hj hij hx hy ha hw hs) fun E σ H ⟨ρ, H0, B, R, q, k⟩ => ⟨ρ, H0, _, R, q, fun ds ρ1 vs H1 H01 q1 ⟨L, R1⟩ S1 D1 => by
    obtain ⟨x, y, v, w, rfl, d1, d2, q1⟩ := as2_d q1 D1
    exact ⟨v, w, rfl, k.nx _ _ H01 H1 q1 ⟨L, (R1.setV i d1).setV j d2⟩ S1⟩⟩
end
end DL
namespace DL
open PySem PySem.Spec PyProof.Rows L2
section
variable {X : Cx} {c : C} {e a b : Expr} {es : List Expr} {d da db : DEv} {dr : DAv} {pos p : Pos} {x : Str} {st : Stmt} {rest : List Stmt} {ds dt : DSv}
/-! ### an own list changes -/
theorem RelL.mut {ρ : En} {σ : L2.St} {H0 H : Hp} {L : Nat → Addr} (R : RelL c ρ σ H0 H L) {i : Nat} {l m : List D} {xs : List V} (e : ρ.1[i]? = some (some (Sl.own l))) (d : DenL c.toG H0 m xs) :
    RelL c (setO ρ i m) σ H0 (upd H (L i) (.lst xs)) L := by
  obtain ⟨e1, e2, e3, ys, e4, e5⟩ := R.own i l e
  have hi : i < ρ.1.length := (List.getElem?_eq_some_iff.mp e).1
  refine ⟨⟨fun b u q => ?_, fun b u q z => ?_, R.base, R.new, fun p ep => ?_⟩, ?_, fun j w q => ?_, fun j w q => ?_, fun j k w w' q q' => ?_, fun j w q => ?_⟩
  rotate_left 7
  · rcases get_set_some q with ⟨_, q, _⟩ | ⟨nj, q⟩
    · cases q
    · exact R.pin j w q
  · have : b ≠ L i := fun z => by rw [z, e2] at q; cases q
    rw [upd_ne this]; exact R.same b u q
  · have : b ≠ L i := fun y => by rw [y, e3] at q; cases q
    rw [upd_ne this]; exact R.keep b u q z
  · obtain ⟨a1, a2, a3, a4, a5⟩ := R.stt p ep
    have n1 : p.1 ≠ L i := fun z => a2.2 (by rw [z]; exact e3)
    have n2 : p.2 ≠ L i := fun z => a3.2 (by rw [z]; exact e3)
    exact ⟨a1, a2, a3, by rw [upd_ne n1]; exact a4, by rw [upd_ne n2]; exact a5⟩
  · show (ρ.1.set i _).length = _
    rw [List.length_set]; exact R.len
  · rcases get_set_some q with ⟨_, q, _⟩ | ⟨nj, q⟩
    · cases q
    · exact R.val j w q
  · rcases get_set_some q with ⟨hj, q, _⟩ | ⟨nj, q⟩
    · cases q
      rw [hj]
      exact ⟨e1, e2, e3, xs, upd_same, d⟩
    · obtain ⟨f1, f2, f3, zs, f4, f5⟩ := R.own j w q
      have ne : L j ≠ L i := fun z => nj (R.inj j i w l q e z)
      exact ⟨f1, f2, f3, zs, by rw [upd_ne ne]; exact f4, f5⟩
  · rcases get_set_some q with ⟨hj, _, _⟩ | ⟨nj, q⟩
    · rcases get_set_some q' with ⟨hk, _, _⟩ | ⟨nk, q'⟩
      · intro _; rw [hj, hk]
      · intro z; rw [hj] at z; exact absurd (R.inj k i w' l q' e z.symm) nk
    · rcases get_set_some q' with ⟨hk, _, _⟩ | ⟨nk, q'⟩
      · intro z; rw [hk] at z; exact absurd (R.inj j i w l q e z) nj
      · exact R.inj j k w w' q q'
def dApp (i : Nat) (da : DEv) : DSv := fun B ρ => ownAt ρ i fun _ => da ρ fun x ρ1 => ownAt ρ1 i fun l => l.length < 1000000 ∧ B.nx (setO ρ1 i (l ++ [x]))
theorem ds_app {i : Nat} {apos cpos : Pos} {o : Expr} (ho : PE X o (tVar i)) (ha : DE X c e da)
    (hbase : attributeBase o "append" X.env (eval o X.env) = eval o X.env := by rfl)
    (hfew : ((backTo cpos (starEach [e] X.env)).all (fun x => !x.1) && (backToKw cpos (keywordEach [] X.env)).all (fun x => x.1.isSome) && decide ([e].length + ([] : List Keyword).length + (if ([] : List Keyword).isEmpty then 0 else 1) < 30)) = true := by rfl)
    (hline : (apos.endLine == cpos.line) = true := by rfl) (hs : starEach [e] X.env = (false, eval e X.env) :: starEach [] X.env := by rfl) (hplain : (backTo cpos (starEach [] X.env)).any (·.1) = false := by rfl)
    (hsw : swapsWith (.Call (.Attribute o "append" apos) [e] [] cpos) none pos.line X.env = pure false := by rfl) :
    DS X c (.Expr (.Call (.Attribute o "append" apos) [e] [] cpos) pos) (dApp i da) :=
  wkS (ps_expr (pe_bm PySem.F.plainAttrs_list PySem.F.slot_list_append PySem.F.type_list_append mt_append ho (pa_cons ha pa_nil hs) hbase hfew hline hs hplain) hsw) fun E σ H ⟨ρ, H0, B, ⟨L, R⟩, q, k⟩ => by
    obtain ⟨l0, e0, q⟩ := ownAt_d q
    obtain ⟨v0, _, _, xs0, h0, _⟩ := R.own i l0 e0
    refine ⟨_, v0, .inl ⟨rfl, xs0, SqL.of h0⟩, ρ, H0, _, ⟨L, R⟩, q, fun y ρ1 v H1 H01 q1 ⟨L1, R1⟩ S1 D1 => ?_⟩
    obtain ⟨l, e1, q1⟩ := ownAt_d q1
    obtain ⟨v1, _, _, xs, h1, d1⟩ := R1.own i l e1
    have eL : L i = L1 i := by rw [v0] at v1; simpa using v1
    refine ⟨L i, xs, v, rfl, rfl, by rw [eL]; exact h1, by rw [d1.len]; exact Nat.lt_of_lt_of_le q1.1 (by rw [sizeLine_eq]; decide), ?_⟩
    rw [eL]
    exact k.nx _ _ H01 _ q1.2 ⟨L1, R1.mut e1 (d1.app (DenL.cons D1 DenL.nil))⟩ S1
def dPop (i : Nat) : DSv := fun B ρ => ownAt ρ i fun l => l ≠ [] ∧ B.nx (setO ρ i l.dropLast)
theorem DenL.dropLast {g : G} {H : Hp} : ∀ {l : List D} {xs : List V}, DenL g H l xs → DenL g H l.dropLast xs.dropLast
  | [], xs, d => by unfold DenL at d; subst d; exact DenL.nil
  | [_], xs, d => by
    unfold DenL DenL at d
    obtain ⟨_, _, rfl, _, rfl⟩ := d
    exact DenL.nil
  | x :: y :: l, xs, d => by
    unfold DenL at d
    obtain ⟨v, r, rfl, d1, d2⟩ := d
    have d3 := d2
    unfold DenL at d2
    obtain ⟨w, r', rfl, d4, d5⟩ := d2
    exact DenL.cons d1 d3.dropLast
theorem ds_pop {i : Nat} {apos cpos : Pos} {o : Expr} (ho : PE X o (tVar i))
    (hbase : attributeBase o "pop" X.env (eval o X.env) = eval o X.env := by rfl) (hline : (apos.endLine == cpos.line) = true := by rfl)
    (hsw : swapsWith (.Call (.Attribute o "pop" apos) [] [] cpos) none pos.line X.env = pure false := by rfl) : DS X c (.Expr (.Call (.Attribute o "pop" apos) [] [] cpos) pos) (dPop i) :=
  wkS (ps_expr (pe_bm0 PySem.F.plainAttrs_list PySem.F.slot_list_pop PySem.F.type_list_pop mt_pop ho hbase hline) hsw) fun E σ H ⟨ρ, H0, B, ⟨L, R⟩, q, k⟩ => by
    obtain ⟨l, e, hne, q⟩ := ownAt_d q
    obtain ⟨v0, _, _, xs, h0, d0⟩ := R.own i l e
    have hx : ∃ y, xs[xs.length - 1]? = some y := by
      have hl := d0.len
      have : 0 < l.length := by cases l with
        | nil => exact absurd rfl hne
        | cons _ _ => exact Nat.succ_pos _
      exact ⟨xs[xs.length - 1]'(by omega), by simp [show xs.length - 1 < xs.length by omega]⟩
    obtain ⟨y, hy⟩ := hx
    exact ⟨_, v0, .inl ⟨rfl, xs, SqL.of h0⟩, L i, xs, y, rfl, rfl, h0, hy, k.nx _ _ H0 _ q ⟨L, R.mut e d0.dropLast⟩ (Same.refl _)⟩
def dClear (i : Nat) : DSv := fun B ρ => ownAt ρ i fun _ => B.nx (setO ρ i [])
theorem ds_clear {i : Nat} {apos cpos : Pos} {o : Expr} (ho : PE X o (tVar i))
    (hbase : attributeBase o "clear" X.env (eval o X.env) = eval o X.env := by rfl) (hline : (apos.endLine == cpos.line) = true := by rfl)
    (hsw : swapsWith (.Call (.Attribute o "clear" apos) [] [] cpos) none pos.line X.env = pure false := by rfl) : DS X c (.Expr (.Call (.Attribute o "clear" apos) [] [] cpos) pos) (dClear i) :=
  wkS (ps_expr (pe_bm0 PySem.F.plainAttrs_list PySem.F.slot_list_clear PySem.F.type_list_clear mt_clear ho hbase hline) hsw) fun E σ H ⟨ρ, H0, B, ⟨L, R⟩, q, k⟩ => by
    obtain ⟨l, e, q⟩ := ownAt_d q
    obtain ⟨v0, _, _, xs, h0, d0⟩ := R.own i l e
    exact ⟨_, v0, .inl ⟨rfl, xs, SqL.of h0⟩, L i, xs, rfl, rfl, h0, k.nx _ _ H0 _ q ⟨L, R.mut e DenL.nil⟩ (Same.refl _)⟩
/-- x[j] = v of an own list -/
def dSub (i : Nat) (dv di : DEv) : DSv := fun B ρ => dv ρ fun x ρ1 => ownAt ρ1 i fun _ => di ρ1 fun y ρ2 => asI y fun j => ownAt ρ2 i fun l => match ixN l.length j with
  | some n => B.nx (setO ρ2 i (l.set n x))
  | none => False
theorem ds_sub {i : Nat} {o ix : Expr} {di : DEv} {spos : Pos} (ho : PE X o (tVar i)) (hi : DE X c ix di) (hv : DE X c e da)
    (ha : ∀ v, assign (.Subscript o ix spos) X.env v = (do
      let ov ← holding [v] (eval o X.env)
      let iv ← holding [v, ov] (eval ix X.env)
      standAt spos
      holding [v, ov, iv] (setItem ov iv v)
      release [v, ov, iv] []) := by intro _; rfl)
    (hs : swapsWithSole [.Subscript o ix spos] e pos.line X.env = pure false := by rfl) (hw : swappedStores [.Subscript o ix spos] e X.env = pure none := by rfl)
    (h1 : (assignEach [.Subscript o ix spos] X.env).map (·.2) = [assign (.Subscript o ix spos) X.env] := by rfl) : DS X c (.Assign [.Subscript o ix spos] e pos) (dSub i da di) :=
  wkS (ps_asg hv (pg_sub ho hi set_list ha) hs hw h1) fun E σ H ⟨ρ, H0, B, R, q, k⟩ => ⟨ρ, H0, _, R, q, fun x ρ1 v H1 H01 q1 ⟨L, R1⟩ S1 D1 => by
    obtain ⟨l0, e0, q1⟩ := ownAt_d q1
    obtain ⟨v0, _⟩ := R1.own i l0 e0
    refine ⟨_, v0, ρ1, H01, _, ⟨L, R1⟩, q1, fun y ρ2 w H2 H02 q2 ⟨L2, R2⟩ S2 D2 => ?_⟩
    obtain ⟨j, rfl, rfl, q2⟩ := asI_d q2 D2
    obtain ⟨l, e, q2⟩ := ownAt_d q2
    obtain ⟨v1, _, _, xs, h1, d1⟩ := R2.own i l e
    have eL : L i = L2 i := by rw [v0] at v1; simpa using v1
    split at q2
    · rename_i n en
      refine ⟨L i, xs, j, n, rfl, rfl, by rw [eL]; exact h1, by rw [d1.len]; exact en, ?_⟩
      rw [eL]
      exact k.nx _ _ H02 _ q2 ⟨L2, R2.mut e (DenL.set (Den.mono S2 _ _ D1) n d1)⟩ (S1.trans S2)
    · exact q2.elim⟩
/-! ### x += e -/
def dAug (i : Nat) (g : Int → Int → Int) (da : DEv) : DSv := fun B ρ => dVar i ρ fun x ρ0 => asI x fun u => da ρ0 fun y ρ1 => asI y fun v => B.nx (setV ρ1 i (.int (g u v)))
theorem ds_augI {i : Nat} {y : Str} {op : Operator} {g : Int → Int → Int} {py : Pos} (hp : PIp X op (ipI g)) (hN : X.N.Nodup) (hi : X.N[i]? = some y) (hx : Loc X.env.scope y) (he : DE X c e da)
    (hf : X.fn y = true ∨ X.env.scope.names.lookup y = some .local := by first | exact .inl rfl | exact .inr rfl | assumption) : DS X c (.AugAssign (.Name y py) op e pos) (dAug i g da) :=
  wkS (ps_aug hN hi hx he hp hf) fun E σ H ⟨ρ, H0, B, ⟨L, R⟩, q, k⟩ => by
    unfold dAug dVar at q
    split at q
    · rename_i d ed
      obtain ⟨v, e1, e2⟩ := R.val i d ed
      obtain ⟨u, rfl, rfl, q⟩ := asI_d q e2
      refine ⟨_, e1, ρ, H0, _, ⟨L, R⟩, q, fun z ρ1 w H1 H01 q1 ⟨L1, R1⟩ S1 D1 => ?_⟩
      obtain ⟨t, rfl, rfl, q1⟩ := asI_d q1 D1
      exact ⟨u, t, rfl, rfl, k.nx _ _ H01 H1 q1 ⟨L1, R1.setV i den_int⟩ S1⟩
    · exact q.elim
/-! ### while -/
def dWhile (t : DTv) (body : DSv) : DSv := fun B ρ => ∃ W : Nat → En → Prop, (∃ m, W m ρ) ∧ ∀ m ρ, W m ρ →
  t ρ fun b ρ1 => Br b (body { B with nx := fun ρ2 => ∃ m', m' < m ∧ W m' ρ2, ct := fun ρ2 => ∃ m', m' < m ∧ W m' ρ2, bk := B.nx } ρ1) (B.nx ρ1)
theorem ds_while {cnd : Expr} {body : List Stmt} {t : DTv} (hp : PassesOwn (model X.prog X.w) X.A X.env X.xe) (hc : DT X c cnd t) (hb : DSs X c body ds) : DS X c (.While cnd body [] pos) (dWhile t ds) :=
  wkS (ps_while hp hc hb) fun E σ H ⟨ρ, H0, B, R, ⟨W, ⟨m0, w0⟩, turn⟩, k⟩ => by
    refine ⟨fun m σ H => ∃ ρ H0', Rel c ρ σ H0' H ∧ Same H0 H0' ∧ W m ρ, ⟨m0, ρ, H0, R, Same.refl _, w0⟩, ?_⟩
    rintro m σ H ⟨ρ, H0', R, S, w⟩
    refine ⟨ρ, H0', _, R, turn m ρ w, fun b ρ1 H1 H01 q1 R1 S1 => ?_⟩
    cases b with
    | true =>
      rw [if_pos rfl]
      refine ⟨fun σ' H' => ∃ m', m' < m ∧ ∃ ρ H0', Rel c ρ σ' H0' H' ∧ Same H0 H0' ∧ W m' ρ, fun σ' H' q => q, ρ1, H01, _, R1, q1.1 rfl, ?_⟩
      have k1 := k.later (S.trans S1)
      exact ⟨fun ρ2 σ2 H02 H2 ⟨m', hm, w2⟩ R2 S2 => ⟨m', hm, ρ2, H02, R2, (S.trans S1).trans S2, w2⟩, k1.nx, fun ρ2 σ2 H02 H2 ⟨m', hm, w2⟩ R2 S2 => ⟨m', hm, ρ2, H02, R2, (S.trans S1).trans S2, w2⟩, k1.rt, k1.ro⟩
    | false =>
      rw [if_neg Bool.false_ne_true]
      exact k.nx ρ1 σ H01 H1 (q1.2 rfl) R1 (S.trans S1)
/-! ### for -/
def DWalk (c : C) (l : List D) (H0 : Hp) (J : It) : Prop := ∃ (G : Hp → Prop) (Y : Nat → Hp → V → Hp → Prop), Walk J l.length G Y ∧ (∀ H, Same H0 H → G H) ∧
  ∀ i d (c' : C) ρ σ H01 H1 v H2, c'.toG = c.toG → l[i]? = some d → Rel c' ρ σ H01 H1 → Same H0 H01 → Y i H1 v H2 → ∃ H02, Rel c' ρ σ H02 H2 ∧ Same H01 H02 ∧ Den c.toG H02 d v
def iI (c : C) (it : DOv) : TI := fun σ H R => ∃ ρ H0 K, Rel c ρ σ H0 H ∧ it ρ K ∧ ∀ l ρ' H' H0' J, K l ρ' → Rel c ρ' σ H0' H' → Same H0 H0' → DWalk c l H0' J → R J H'
abbrev DI (X : Cx) (c : C) (tg iter : Expr) (it : DOv) : Prop := PI X tg iter (iI c it)
theorem wkI {tg iter : Expr} {w w' : TI} (h : PI X tg iter w) (k : ∀ σ H R, w' σ H R → w σ H R) : PI X tg iter w' := ⟨fun pins s σ H R I q => h.run pins s σ H R I (k σ H R q)⟩
def forD (t : DGv) (body : DSv) (B : DEnds) : List D → En → Prop
  | [], ρ => B.nx ρ
  | d :: l, ρ => t d ρ fun ρ1 => body { B with nx := forD t body B l, ct := forD t body B l, bk := B.nx } ρ1
def dFor (it : DOv) (t : DGv) (body : DSv) : DSv := fun B ρ => it ρ fun l ρ1 => forD t body B l ρ1
theorem drop_cons {α : Type} {l : List α} {i : Nat} (h : i < l.length) : ∃ d, l[i]? = some d ∧ l.drop i = d :: l.drop (i + 1) := ⟨l[i], by simp [h], by rw [List.drop_eq_getElem_cons h]⟩
theorem ds_for {ts : List Nat} {tg iter : Expr} {body : List Stmt} {it : DOv} {t : DGv} (hp : PassesOwn (model X.prog X.w) X.A X.env X.xe) (hc : X.calm = true) (hi : DI X c tg iter it) (hg : DG X c ts tg t) (hb : DSs X c body ds)
    (hs : ∀ x, foldedSetIterable iter X.env x = pure x := by intro _; rfl) : DS X c (.For tg iter body [] pos) (dFor it t ds) :=
  wkS (ps_for hp hc hi hg hb hs) fun E σ H ⟨ρ, H0, B, R, q, k⟩ => ⟨ρ, H0, _, R, q, fun l ρ1 H1 H01 J q1 R1 S1 ⟨G, Y, W, hG, hY⟩ => by
    refine for_it W (fun i σ H => ∃ ρ H0', Rel c ρ σ H0' H ∧ Same H01 H0' ∧ forD t ds B (l.drop i) ρ) ⟨ρ1, H01, R1, Same.refl _, q1⟩ (fun i σ H _ ⟨_, H0', R', S', _⟩ => hG H (S'.trans R'.same)) ?_ ?_
    · rintro i v σ H H' hlt ⟨ρ2, H02, R2, S2, q2⟩ y
      obtain ⟨d, e1, e2⟩ := drop_cons hlt
      obtain ⟨H03, R3, S3, D3⟩ := hY i d c ρ2 σ H02 H v H' rfl e1 R2 S2 y
      rw [e2] at q2
      refine ⟨ρ2, H03, d, _, R3, D3, q2, fun ρ' σ' q' R' _ => ⟨ρ', H03, _, R', q', ?_⟩⟩
      have k3 := k.later (S1.trans (S2.trans S3))
      exact ⟨fun ρ4 σ4 H04 H4 q4 R4 S4 => ⟨ρ4, H04, R4, (S2.trans S3).trans S4, q4⟩, k3.nx, fun ρ4 σ4 H04 H4 q4 R4 S4 => ⟨ρ4, H04, R4, (S2.trans S3).trans S4, q4⟩, k3.rt, k3.ro⟩
    · rintro σ H ⟨ρ2, H02, R2, S2, q2⟩
      rw [List.drop_length] at q2
      exact k.nx ρ2 σ H02 H q2 R2 (S1.trans S2)⟩
/-! what is walked -/
theorem dwalk_list {g : G} {K : PySem.W.Frag} {l : List D} {xs : List V} {a : Addr} {H0 : Hp} (hg : c.toG = g) (h : H0 a = some (.lst xs)) (d : DenL g H0 l xs) : DWalk c l H0 (Itl K a) := by
  subst hg
  refine ⟨fun H => SqL K H a xs, YAt xs, by rw [← d.len]; exact walk_list, fun H s => SqL.of (s _ _ h), fun i w c' ρ σ H01 H1 v H2 hc e R S ⟨eH, ev⟩ => ?_⟩
  subst eH
  obtain ⟨u, h1, h2⟩ := d.get e
  rw [h1] at ev; cases ev
  exact ⟨H01, R, Same.refl _, Den.mono S _ _ h2⟩
theorem dwalk_tup {l : List D} {xs : List V} {a : Addr} {H0 : Hp} (h : SqT c.K H0 a xs) (d : DenL c.toG H0 l xs) : DWalk c l H0 (Itt c.K a) := by
  refine ⟨fun H => SqT c.K H a xs, YAt xs, by rw [← d.len]; exact walk_tup, fun H s => sqT_same s h, fun i w c' ρ σ H01 H1 v H2 hc e R S ⟨eH, ev⟩ => ?_⟩
  subst eH
  obtain ⟨u, h1, h2⟩ := d.get e
  rw [h1] at ev; cases ev
  exact ⟨H01, R, Same.refl _, Den.mono S _ _ h2⟩
/-- over a list or a tuple -/
def iSeq (da : DEv) : DOv := fun ρ K => da ρ fun x ρ1 => asQ x fun l => K l ρ1
def iQ (K : PySem.W.Frag) (tl : TE) : TI := fun σ H R => tl σ H fun x H1 => ∃ a, x = .ref a ∧ (((∃ xs, SqL K H1 a xs) ∧ R (Itl K a) H1) ∨ ((∃ xs, SqT K H1 a xs) ∧ R (Itt K a) H1))
theorem pi_q {tg l : Expr} {tl : TE} (hl : PE X l tl) : PI X tg l (iQ X.K tl) := by
  refine ⟨fun pins s σ H R I h => thn (hl.run pins s σ H _ I h) fun v s1 ⟨x, H1, I1, r1, a, e, q⟩ => ?_⟩
  subst e
  cases r1
  have fr : ∀ (b : Addr), b ∈ [s1.heap.objs.size] → FpOk X pins H1 b := fun b hb => by
    have e := List.mem_singleton.mp hb
    subst e
    exact I1.fpOk (Nat.le_refl _) (I1.hok.fresh (Nat.le_refl _))
  rcases q with ⟨⟨xs, hq⟩, q⟩ | ⟨⟨xs, hq⟩, q⟩
  · obtain ⟨its, _, pl, _⟩ := I1.list hq
    exact wpAny_pyIter_list pl.isList ⟨_, [s1.heap.objs.size], _, _, H1, rfl, I1.kept (t' := s1.toks) fun b o z => Heap.get?_push_of_some _ z, turn_list a _, ⟨_, Heap.get?_push_size _ rfl, rfl, rfl⟩, fr, q⟩
  · obtain ⟨its, _, pl, _⟩ := I1.tuple hq
    exact wpAny_pyIter_tuple (show s1.heap.IsTuple a its.toArray from pl) ⟨_, [s1.heap.objs.size], _, _, H1, rfl, I1.kept (t' := s1.toks) fun b o z => Heap.get?_push_of_some _ z, turn_tuple a _, ⟨_, Heap.get?_push_size _ rfl, rfl, rfl⟩, fr, q⟩
theorem di_seq {tg : Expr} (ha : DE X c e da) (hK : X.K = c.K := by rfl) : DI X c tg e (iSeq da) := wkI (pi_q ha) fun σ H R ⟨ρ, H0, K, R0, q, k⟩ => ⟨ρ, H0, _, R0, q, fun x ρ1 v H1 H01 q1 R1 S1 D1 => by
  cases x with
  | tup l =>
    unfold Den at D1
    obtain ⟨a, xs, rfl, sx, ex⟩ := D1
    exact ⟨a, rfl, .inr ⟨⟨xs, by rw [hK]; exact sqT_same R1.same sx⟩, k _ _ _ _ _ q1 R1 S1 (by rw [hK]; exact dwalk_tup sx ex)⟩⟩
  | lst l =>
    unfold Den at D1
    obtain ⟨a, xs, rfl, sx, ex⟩ := D1
    exact ⟨a, rfl, .inl ⟨⟨xs, SqL.of (R1.same _ _ sx)⟩, k _ _ _ _ _ q1 R1 S1 (dwalk_list rfl sx ex)⟩⟩
  | _ => exact q1.elim⟩
/-- range -/
def rangeD (lo : Int) (n : Nat) : List D := (List.range n).map fun i => .int (lo + (i : Nat))
theorem dwalk_range {lo : Int} {n : Nat} {H0 : Hp} : DWalk c (rangeD lo n) H0 (Itr lo n) := by
  refine ⟨fun _ => True, YFn fun i => .int (lo + i), by rw [show (rangeD lo n).length = n by simp [rangeD]]; exact walk_range, fun _ _ => trivial, fun i w c' ρ σ H01 H1 v H2 hc e R S ⟨eH, ev⟩ => ?_⟩
  subst eH ev
  have : w = .int (lo + (i : Nat)) := by
    unfold rangeD at e
    rw [List.getElem?_map] at e
    by_cases hi : i < n
    · rw [List.getElem?_range hi] at e; simpa using e.symm
    · rw [List.getElem?_eq_none (by simpa using hi)] at e; cases e
  subst this
  exact ⟨H01, R, Same.refl _, den_int⟩
def iRange1 (dr : DAv) : DOv := fun ρ K => dr ρ fun ds ρ1 => as1 ds fun x => asI x fun n => -(2 ^ 62) ≤ n ∧ n < 2 ^ 62 ∧ K (rangeD 0 n.toNat) ρ1
def iRange2 (dr : DAv) : DOv := fun ρ K => dr ρ fun ds ρ1 => as2 ds fun x y => asI x fun i => asI y fun j => (-(2 ^ 62) ≤ i ∧ i < 2 ^ 62 ∧ -(2 ^ 62) ≤ j ∧ j < 2 ^ 62) ∧ K (rangeD i (j - i).toNat) ρ1
theorem di_range1 {tg : Expr} (hg : Gl X "range") (hm : X.mg "range" = none) (ha : DA X c [a] dr) (hs : starEach [a] X.env = [(false, eval a X.env)] := by rfl) : DI X c tg (.Call (.Name "range" p) [a] [] pos) (iRange1 dr) :=
  wkI (pi_range1 hg hm ha hs) fun σ H R ⟨ρ, H0, K, R0, q, k⟩ => ⟨ρ, H0, _, R0, q, fun ds ρ1 vs H1 H01 q1 R1 S1 D1 => by
    obtain ⟨x, v, rfl, D1, q1⟩ := as1_d q1 D1
    obtain ⟨n, rfl, rfl, h1, h2, q1⟩ := asI_d q1 D1
    exact ⟨n, rfl, h1, h2, k _ _ _ _ _ q1 R1 S1 dwalk_range⟩⟩
theorem di_range2 {tg : Expr} (hg : Gl X "range") (hm : X.mg "range" = none) (ha : DA X c [a, b] dr) (hs : starEach [a, b] X.env = [(false, eval a X.env), (false, eval b X.env)] := by rfl) (hs2 : starEach [b] X.env = [(false, eval b X.env)] := by rfl) : DI X c tg (.Call (.Name "range" p) [a, b] [] pos) (iRange2 dr) :=
  wkI (pi_range2 hg hm ha hs hs2) fun σ H R ⟨ρ, H0, K, R0, q, k⟩ => ⟨ρ, H0, _, R0, q, fun ds ρ1 vs H1 H01 q1 R1 S1 D1 => by
    obtain ⟨x, y, v, w, rfl, D1, D2, q1⟩ := as2_d q1 D1
    obtain ⟨n, rfl, rfl, q1⟩ := asI_d q1 D1
    obtain ⟨m, rfl, rfl, h, q1⟩ := asI_d q1 D2
    exact ⟨n, m, rfl, h, k _ _ _ _ _ q1 R1 S1 dwalk_range⟩⟩
end
end DL
namespace DL
open PySem PySem.Spec PyProof.Rows L2
/-! ### comprehensions -/
def noOwn (l : List (Option Sl)) : List (Option Sl) := l.map fun s => match s with
  | some (.v d) => some (.v d)
  | _ => none
def wipeE (l : List (Option Sl)) : List Nat → List (Option Sl)
  | [] => l
  | v :: vs => (wipeE l vs).set v none
theorem wipeE_len (l : List (Option Sl)) : ∀ vs : List Nat, (wipeE l vs).length = l.length
  | [] => rfl
  | v :: vs => by unfold wipeE; rw [List.length_set, wipeE_len l vs]
theorem wipeE_get {l : List (Option Sl)} {i : Nat} {s : Sl} : ∀ {vs : List Nat}, (wipeE l vs)[i]? = some (some s) → i ∉ vs ∧ l[i]? = some (some s)
  | [], h => ⟨by simp, h⟩
  | v :: vs, h => by
    unfold wipeE at h
    obtain ⟨h1, h2⟩ := get_set_none h
    obtain ⟨h3, h4⟩ := wipeE_get h2
    exact ⟨by simp [h1, h3], h4⟩
theorem noOwn_get {l : List (Option Sl)} {i : Nat} {s : Sl} (h : (noOwn l)[i]? = some (some s)) : ∃ d, s = .v d ∧ l[i]? = some (some (Sl.v d)) := by
  unfold noOwn at h
  rw [List.getElem?_map] at h
  cases e : l[i]? with
  | none => rw [e] at h; cases h
  | some o =>
    rw [e] at h
    cases o with
    | none => cases h
    | some s' =>
      cases s' with
      | v d => simp at h; exact ⟨d, h.symm, rfl⟩
      | own d => cases h
      | pin d => cases h
def lcD (t : DGv) (tt : DTv) (te : DEv) (env : List (Option Sl)) : List D → List D → Stt → (List D → Stt → Prop) → Prop
  | [], acc, st, K => K acc st
  | d :: l, acc, st, K => t d (env, st) fun ρ1 => tt ρ1 fun b ρ2 => Br b (te ρ2 fun x ρ3 => acc.length < 1000000 ∧ lcD t tt te env l (acc ++ [x]) ρ3.2 K) (lcD t tt te env l acc ρ2.2 K)
def dLc (it : DOv) (t : DGv) (tt : DTv) (te : DEv) (vs : List Nat) : DOv := fun ρ K => it ρ fun l ρ1 => lcD t tt te (wipeE (noOwn ρ1.1) vs) l [] ρ1.2 fun acc st => K acc (ρ1.1, st)
def dYes : DTv := fun ρ K => K true ρ
def xG (g : DL.G) (vs : List Nat) (t : DGv) : TG := fun v σ H Q => ∃ Hs H0s, tG ⟨g, Hs, H0s⟩ vs t v σ H Q
def xT (g : DL.G) (t : DTv) : TT := fun σ H Q => ∃ Hs H0s, tT ⟨g, Hs, H0s⟩ t σ H Q
def xD (g : DL.G) (d : DEv) : TE := fun σ H Q => ∃ Hs H0s, tD ⟨g, Hs, H0s⟩ d σ H Q
section
variable {X : Cx} {c : C} {e a b : Expr} {es : List Expr} {d da db : DEv} {dr : DAv} {pos p : Pos} {x : Str} {st : Stmt} {rest : List Stmt} {ds dt : DSv}
theorem RelL.block {ρ : En} {σ : L2.St} {H0 H : Hp} {L : Nat → Addr} (R : RelL c ρ σ H0 H L) (vs : List Nat) : RelL (c.here H0 H) (wipeE (noOwn ρ.1) vs, ρ.2) (wipe σ vs) H0 H L where
  toRelG := R.toRelG.enter
  len := by
    show (wipeE (noOwn ρ.1) vs).length = _
    rw [wipeE_len, wipe_length, ← R.len]; simp [noOwn]
  val := fun i d e => by
    obtain ⟨h1, h2⟩ := wipeE_get e
    obtain ⟨d', h3, h4⟩ := noOwn_get h2
    cases h3
    obtain ⟨v, e1, e2⟩ := R.val i d h4
    exact ⟨v, by rw [wipe_get, if_neg h1]; exact e1, e2⟩
  own := fun i l e => by
    obtain ⟨h1, h2⟩ := wipeE_get e
    obtain ⟨d', h3, h4⟩ := noOwn_get h2
    cases h3
  inj := fun i j l l' e e' => by
    obtain ⟨h1, h2⟩ := wipeE_get e
    obtain ⟨d', h3, h4⟩ := noOwn_get h2
    cases h3
  pin := fun i v e => by
    obtain ⟨h1, h2⟩ := wipeE_get e
    obtain ⟨d', h3, h4⟩ := noOwn_get h2
    cases h3
/-- the reading of a comprehension's loop from its data -/
theorem lc_read {it : DOv} {t : DGv} {tt : DTv} {te : DEv} {vs : List Nat} {σ : L2.St} {H : Hp} {Q : VK} (h : tO c (dLc it t tt te vs) σ H Q) : tLc (iI c it) (xG c.toG vs t) (xT c.toG tt) (xD c.toG te) vs σ H Q := by
  obtain ⟨ρ, H0, K, R, q, k⟩ := h
  refine ⟨ρ, H0, _, R, q, fun l ρ1 H1 H01 J q1 ⟨L, R1⟩ S1 ⟨Gd, Y, W, hG, hY⟩ N hN => ?_⟩
  -- N: the new list's place
  refine lc_it W (fun i H => ∃ st H0' acc xs, RelL c (ρ1.1, st) σ H0' H L ∧ Same H01 H0' ∧ H0' N = none ∧ H N = some (.lst xs) ∧ DenL c.toG H0' acc xs ∧
    (∀ j l', ρ1.1[j]? = some (some (Sl.own l')) → L j ≠ N) ∧ c.Hs N = none ∧ lcD t tt te (wipeE (noOwn ρ1.1) vs) (l.drop i) acc st fun acc st => K acc (ρ1.1, st)) ?_ (fun i H _ ⟨_, H0', _, _, R', S', _⟩ => hG H (S'.trans R'.same)) ?_ ?_
  · refine ⟨ρ1.2, H01, [], [], R1.beside _ hN, Same.refl _, R1.same.free hN, upd_same, DenL.nil, fun j l' e z => ?_, R1.toRelG.notHs hN, q1⟩
    obtain ⟨_, _, _, ys, f4, _⟩ := R1.own j l' e
    rw [z, hN] at f4; cases f4
  · rintro i v H2 H3 hlt ⟨st, H02, acc, xs, R2, S2, n2, h2, d2, ow, hs, q2⟩ y
    obtain ⟨d, e1, e2⟩ := drop_cons hlt
    have Rb := R2.block vs
    obtain ⟨H03, R3, S3, D3⟩ := hY i d (c.here H02 H2) _ _ H02 H2 v H3 rfl e1 ⟨L, Rb⟩ S2 y
    rw [e2] at q2
    -- behind the turn: what stands again
    have back : ∀ {ρ' : En} {σ' : L2.St} {H0' H' : Hp}, Rel (c.here H02 H2) ρ' σ' H0' H' → RelL c (ρ1.1, ρ'.2) σ H0' H' L ∧ Same H02 H0' ∧ H0' N = none ∧ H' N = some (.lst xs) := fun {ρ' σ' H0' H'} R' => by
      have g := R'.g
      have notS : ¬ isSt c N := fun ⟨p, ep, z⟩ => by
        obtain ⟨_, ⟨_, b⟩, ⟨_, b'⟩, _⟩ := R2.stt p ep
        rcases z with z | z
        · exact b (by rw [← z]; exact hs)
        · exact b' (by rw [← z]; exact hs)
      exact ⟨R2.back g, g.base, g.new N n2 (by rw [show (c.here H02 H2).Hs N = H2 N from rfl, h2]; exact fun z => nomatch z), g.keep N _ h2 notS⟩
    refine ⟨H2, H02, _, H03, d, _, R3, D3, q2, fun ρ4 σ4 q4 R4 T4 => ⟨T4.trans ?_, H2, H02, ρ4, H03, _, R4, q4, fun bb ρ5 H5 H05 q5 R5 S5 => ?_⟩⟩
    · apply List.ext_getElem?
      intro j
      rw [wipe_get, wipe_get, wipe_length]
      by_cases hj : j ∈ vs
      · rw [if_pos hj, if_pos hj]
      · rw [if_neg hj, if_neg hj]
    · cases bb with
      | true =>
        rw [if_pos rfl]
        refine ⟨H2, H02, ρ5, H05, _, R5, q5.1 rfl, fun w ρ6 u H6 H06 q6 R6 S6 D6 => ?_⟩
        obtain ⟨b1, b2, b3, b4⟩ := back R6
        refine ⟨xs, b4, by rw [d2.len]; exact Nat.lt_of_lt_of_le q6.1 (by rw [sizeLine_eq]; decide), ρ6.2, H06, acc ++ [w], xs ++ [u], ?_, S2.trans b2, b3, upd_same, (DenL.mono b2 _ _ d2).app (DenL.cons D6 DenL.nil), ow, hs, q6.2⟩
        -- the new list grows by one
        have nN : ∀ b, H06 b ≠ none → b ≠ N := fun b z y => z (by rw [y]; exact b3)
        refine ⟨⟨fun b u' q' => ?_, fun b u' q' z => ?_, b1.base, b1.new, fun p ep => ?_⟩, b1.len, b1.val, fun j l' e => ?_, b1.inj, b1.pin⟩
        · rw [upd_ne (nN b (by rw [q']; exact fun z => nomatch z))]; exact b1.same b u' q'
        · have : b ≠ N := fun y => by rw [y, hs] at q'; cases q'
          rw [upd_ne this]; exact b1.keep b u' q' z
        · obtain ⟨a1, a2, a3, a4, a5⟩ := b1.stt p ep
          have n1 : p.1 ≠ N := fun z => a2.2 (by rw [z]; exact hs)
          have n2' : p.2 ≠ N := fun z => a3.2 (by rw [z]; exact hs)
          exact ⟨a1, a2, a3, by rw [upd_ne n1]; exact a4, by rw [upd_ne n2']; exact a5⟩
        · obtain ⟨f1, f2, f3, zs, f4, f5⟩ := b1.own j l' e
          exact ⟨f1, f2, f3, zs, by rw [upd_ne (ow j l' e)]; exact f4, f5⟩
      | false =>
        rw [if_neg Bool.false_ne_true]
        obtain ⟨b1, b2, b3, b4⟩ := back R5
        exact ⟨ρ5.2, H05, acc, xs, b1, S2.trans b2, b3, b4, DenL.mono b2 _ _ d2, ow, hs, q5.2 rfl⟩
  · rintro H2 ⟨st, H02, acc, xs, R2, S2, n2, h2, d2, ow, hs, q2⟩
    rw [List.drop_length] at q2
    exact k acc _ N H2 H02 q2 ⟨L, R2⟩ (S1.trans S2) ⟨hs, fun j l' e z => by
      obtain ⟨f1, _⟩ := R2.own j l' e
      rw [f1] at z
      exact ow j l' e (by simpa using z), n2, xs, h2, d2⟩
theorem xg_of {Y : Cx} {vs : List Nat} {tg : Expr} {t : DGv} (h : ∀ Hs H0s, DG Y ⟨c.toG, Hs, H0s⟩ vs tg t) : PG Y tg (xG c.toG vs t) := ⟨fun pins s σ H v u Q I r ⟨Hs, H0s, q⟩ => (h Hs H0s).run pins s σ H v u Q I r q⟩
theorem xt_of {Y : Cx} {ifs : List Expr} {tt : DTv} (h : ∀ Hs H0s, PTs Y ifs (tT ⟨c.toG, Hs, H0s⟩ tt)) : PTs Y ifs (xT c.toG tt) := ⟨fun pins s σ H Q I ⟨Hs, H0s, q⟩ => (h Hs H0s).run pins s σ H Q I q⟩
theorem xd_of {Y : Cx} {te : DEv} (h : ∀ Hs H0s, DE Y ⟨c.toG, Hs, H0s⟩ e te) : PE Y e (xD c.toG te) := ⟨fun pins s σ H Q I ⟨Hs, H0s, q⟩ => (h Hs H0s).run pins s σ H Q I q⟩
theorem dts_nil {Y : Cx} {c' : C} : PTs Y [] (tT c' dYes) := ⟨fun pins s σ H Q I ⟨ρ, H0, K, R, q, k⟩ => pts_nil.run pins s σ H Q I (k _ _ _ _ q R (Same.refl _))⟩
theorem dts_one {Y : Cx} {c' : C} {tt : DTv} (h : DT Y c' e tt) : PTs Y [e] (tT c' tt) := pts_one h
theorem do_lc {elt tg iter : Expr} {ifs : List Expr} {scope : Scope} {own : List (Str × Nat)} {it : DOv} {t : DGv} {tt : DTv} {te : DEv} (hc : X.calm = true) (hN : X.N.Nodup) (hi : DI X c tg iter it) (ok : BlkOk X.N X.env.scope scope own)
    (hg : ∀ (Hs H0s : Hp) (s : Shared) (H : Hp) (C : Addr) (cl : List (Str × Addr)) (fp : List Addr), DG (X.blk s H scope (compEnvC scope cl C X.env) fp) ⟨c.toG, Hs, H0s⟩ (own.map (·.2)) tg t)
    (ht : ∀ (Hs H0s : Hp) (s : Shared) (H : Hp) (C : Addr) (cl : List (Str × Addr)) (fp : List Addr), PTs (X.blk s H scope (compEnvC scope cl C X.env) fp) ifs (tT ⟨c.toG, Hs, H0s⟩ tt))
    (he : ∀ (Hs H0s : Hp) (s : Shared) (H : Hp) (C : Addr) (cl : List (Str × Addr)) (fp : List Addr), DE (X.blk s H scope (compEnvC scope cl C X.env) fp) ⟨c.toG, Hs, H0s⟩ elt te) (hs : ∀ x, foldedSetIterable iter X.env x = pure x := by intro _; rfl) :
    DO X c (.ListComp elt [⟨tg, iter, ifs, 0⟩] scope pos) (dLc it t tt te (own.map (·.2))) :=
  wkE (pe_lc hc hN hi ok (fun s H C cl fp => xg_of fun Hs H0s => hg Hs H0s s H C cl fp) (fun s H C cl fp => xt_of fun Hs H0s => ht Hs H0s s H C cl fp) (fun s H C cl fp => xd_of fun Hs H0s => he Hs H0s s H C cl fp) hs) fun σ H Q h => lc_read h
/-- name = [..] on its own line: the rule of the store, a fresh list -/
theorem ds_lcO {i : Nat} {y : Str} {py : Pos} {elt tg iter : Expr} {ifs : List Expr} {scope : Scope} {own : List (Str × Nat)} {spos : Pos} {it : DOv} {t : DGv} {tt : DTv} {te : DEv} (hc : X.calm = true) (hN : X.N.Nodup) (hy : X.N[i]? = some y) (hyl : X.env.scope.names.lookup y = some .local)
    (hsw : swapsWith (.ListComp elt [⟨tg, iter, ifs, 0⟩] scope pos) (some (.Name y py)) spos.line X.env = pure true) (hi : DI X c tg iter it) (ok : BlkOk X.N X.env.scope scope own)
    (hg : ∀ (Hs H0s : Hp) (s : Shared) (H : Hp) (C : Addr) (cl : List (Str × Addr)) (fp : List Addr), DG (X.blk s H scope (compEnvC scope cl C X.env) fp) ⟨c.toG, Hs, H0s⟩ (own.map (·.2)) tg t)
    (ht : ∀ (Hs H0s : Hp) (s : Shared) (H : Hp) (C : Addr) (cl : List (Str × Addr)) (fp : List Addr), PTs (X.blk s H scope (compEnvC scope cl C X.env) fp) ifs (tT ⟨c.toG, Hs, H0s⟩ tt))
    (he : ∀ (Hs H0s : Hp) (s : Shared) (H : Hp) (C : Addr) (cl : List (Str × Addr)) (fp : List Addr), DE (X.blk s H scope (compEnvC scope cl C X.env) fp) ⟨c.toG, Hs, H0s⟩ elt te) (hs : ∀ x, foldedSetIterable iter X.env x = pure x := by intro _; rfl) :
    DS X c (.Assign [.Name y py] (.ListComp elt [⟨tg, iter, ifs, 0⟩] scope pos) spos) (dSetO i (dLc it t tt te (own.map (·.2)))) :=
  ds_setOG (ps_setLc hc hN hy hyl hsw hi ok (fun s H C cl fp => xg_of fun Hs H0s => hg Hs H0s s H C cl fp) (fun s H C cl fp => xt_of fun Hs H0s => ht Hs H0s s H C cl fp) (fun s H C cl fp => xd_of fun Hs H0s => he Hs H0s s H C cl fp) hs) fun σ H Q h => lc_read h
/-- .. as a value that stands still -/
def asV (d : DOv) : DEv := fun ρ K => d ρ fun l ρ' => K (.lst l) ρ'
theorem tO_val {d : DOv} {σ : L2.St} {H : Hp} {Q : VK} (h : tD c (asV d) σ H Q) : tO c d σ H Q := by
  obtain ⟨ρ, H0, K, R, q, k⟩ := h
  exact ⟨ρ, H0, _, R, q, fun l ρ' a H' H0' kl ⟨L, R'⟩ S F => by
    obtain ⟨H0'', R'', S', dn⟩ := R'.freeze F
    exact k _ ρ' _ H' H0'' kl ⟨L, R''⟩ (S.trans S') dn⟩
theorem ds_lcV {i : Nat} {y : Str} {py : Pos} {elt tg iter : Expr} {ifs : List Expr} {scope : Scope} {own : List (Str × Nat)} {spos : Pos} {it : DOv} {t : DGv} {tt : DTv} {te : DEv} (hc : X.calm = true) (hN : X.N.Nodup) (hy : X.N[i]? = some y) (hyl : X.env.scope.names.lookup y = some .local)
    (hsw : swapsWith (.ListComp elt [⟨tg, iter, ifs, 0⟩] scope pos) (some (.Name y py)) spos.line X.env = pure true) (hi : DI X c tg iter it) (ok : BlkOk X.N X.env.scope scope own)
    (hg : ∀ (Hs H0s : Hp) (s : Shared) (H : Hp) (C : Addr) (cl : List (Str × Addr)) (fp : List Addr), DG (X.blk s H scope (compEnvC scope cl C X.env) fp) ⟨c.toG, Hs, H0s⟩ (own.map (·.2)) tg t)
    (ht : ∀ (Hs H0s : Hp) (s : Shared) (H : Hp) (C : Addr) (cl : List (Str × Addr)) (fp : List Addr), PTs (X.blk s H scope (compEnvC scope cl C X.env) fp) ifs (tT ⟨c.toG, Hs, H0s⟩ tt))
    (he : ∀ (Hs H0s : Hp) (s : Shared) (H : Hp) (C : Addr) (cl : List (Str × Addr)) (fp : List Addr), DE (X.blk s H scope (compEnvC scope cl C X.env) fp) ⟨c.toG, Hs, H0s⟩ elt te) (hs : ∀ x, foldedSetIterable iter X.env x = pure x := by intro _; rfl) :
    DS X c (.Assign [.Name y py] (.ListComp elt [⟨tg, iter, ifs, 0⟩] scope pos) spos) (dSet i (asV (dLc it t tt te (own.map (·.2))))) :=
  ds_setG (ps_setLc hc hN hy hyl hsw hi ok (fun s H C cl fp => xg_of fun Hs H0s => hg Hs H0s s H C cl fp) (fun s H C cl fp => xt_of fun Hs H0s => ht Hs H0s s H C cl fp) (fun s H C cl fp => xd_of fun Hs H0s => he Hs H0s s H C cl fp) hs) fun σ H Q h => lc_read (tO_val h)

/-! ### a def's promise from its body -/
def ends (Kf : Sl → Stt → Prop) : DEnds := ⟨fun ρ => Kf (.v .non) ρ.2, fun d ρ => Kf (.v d) ρ.2, fun l ρ => Kf (.own l) ρ.2, fun _ => False, fun _ => False⟩
def startD (n : Nat) (args : List D) : List (Option Sl) := args.map (fun d => some (.v d)) ++ List.replicate n none
end
theorem fn_okD {cl : Nat → Addr} {P : Program} {w : World} {K : PySem.W.Frag} {mg : Str → Option Value} {base : Heap} {x qual : Str} {st : Stmt} {f : Addr} {fd : FuncData} {N ps : List Str} {k n m : Nat} {ds : DSv} {fn : DFn} (F : Fun K x qual st f fd) (S : FnScope N ps (defScope st))
    (hn : ps.length = n) (hm : N.length - n = m)
    (body : ∀ (sd : Option (Addr × Addr)) (Hs H0s : Hp) (cdv : Value) (A : Around) (outer : List Env) (s : Shared) (H : Hp) (E : XK), Room k (A.deeper (envOfC qual (defScope st) s.heap.objs.size f cdv)) →
      DSs (cxOf CX0 P w K mg base N qual (defScope st) f cdv A outer s H E).nox ⟨⟨K, sd, cl⟩, Hs, H0s⟩ (defBody st) ds)
    (data : ∀ (args : List D) (stt : Stt) (Kf : Sl → Stt → Prop), args.length = n → fn args stt Kf → ds (ends Kf) (startD m args, stt)) : FnOk P w K mg base CX0 (k + 1) f fd ps (spD n K cl fn) := by
  refine F.ok S (fun vs H Q E h => ?_) (fun cdv A outer s H vs Q E hr h => ?_)
  · obtain ⟨sd, dl, stt, H0, Kf, R, hl, D, _⟩ := h
    rw [D.len, hl, hn]
  · obtain ⟨sd, dl, stt, H0, Kf, R, hl, D, q, k1, k2⟩ := h
    refine ⟨_, body sd H H0 cdv A outer s H E hr, (startD m dl, stt), H0, ends Kf, ⟨fun _ => 0, R, ?_, fun i d e => ?_, fun i l e => ?_, fun i j l l' e => ?_, fun i v e => ?_⟩, data dl stt Kf hl q, ?_⟩
    · show (startD m dl).length = (L2.start N vs).length
      unfold startD L2.start
      rw [List.length_append, List.length_append, List.length_map, List.length_map, List.length_replicate, List.length_replicate, D.len, hl, hm]
    · have e : (startD m dl)[i]? = some (some (Sl.v d)) := e
      unfold startD at e
      unfold L2.start
      by_cases hi : i < dl.length
      · rw [List.getElem?_append_left (by simpa using hi), List.getElem?_map] at e
        cases ed : dl[i]? with
        | none => rw [ed] at e; cases e
        | some d' =>
          rw [ed] at e
          have : d' = d := by simpa using e
          subst this
          obtain ⟨v, e1, e2⟩ := D.get ed
          refine ⟨v, ?_, e2⟩
          rw [List.getElem?_append_left (by simpa [D.len] using hi), List.getElem?_map, e1]; rfl
      · rw [List.getElem?_append_right (by simpa using hi)] at e
        rw [List.getElem?_replicate] at e
        split at e <;> cases e
    · exfalso
      have e : (startD m dl)[i]? = some (some (Sl.own l)) := e
      unfold startD at e
      by_cases hi : i < dl.length
      · rw [List.getElem?_append_left (by simpa using hi), List.getElem?_map] at e
        cases ed : dl[i]? with
        | none => rw [ed] at e; cases e
        | some d' => rw [ed] at e; cases e
      · rw [List.getElem?_append_right (by simpa using hi), List.getElem?_replicate] at e
        split at e <;> cases e
    · exfalso
      have e : (startD m dl)[i]? = some (some (Sl.own l)) := e
      unfold startD at e
      by_cases hi : i < dl.length
      · rw [List.getElem?_append_left (by simpa using hi), List.getElem?_map] at e
        cases ed : dl[i]? with
        | none => rw [ed] at e; cases e
        | some d' => rw [ed] at e; cases e
      · rw [List.getElem?_append_right (by simpa using hi), List.getElem?_replicate] at e
        split at e <;> cases e
    · exfalso
      have e : (startD m dl)[i]? = some (some (Sl.pin v)) := e
      unfold startD at e
      by_cases hi : i < dl.length
      · rw [List.getElem?_append_left (by simpa using hi), List.getElem?_map] at e
        cases ed : dl[i]? with
        | none => rw [ed] at e; cases e
        | some d' => rw [ed] at e; cases e
      · rw [List.getElem?_append_right (by simpa using hi), List.getElem?_replicate] at e
        split at e <;> cases e
    · refine ⟨fun ρ σ H0' H' kf R' S' => ?_, fun _ _ _ _ z => z.elim, fun _ _ _ _ z => z.elim, fun d ρ σ v H0' H' kf R' S' dn => k1 d ρ.2 v H' H0' kf R'.g dn, fun l ρ σ a H0' H' kf R' S' F' => ?_⟩
      · exact k1 .non ρ.2 .non H' H0' kf R'.g den_non
      · obtain ⟨hs, _, h0, xs, h, dx⟩ := F'
        exact k2 l ρ.2 a xs H' H0' kf R'.g hs h0 h dx
end DL
namespace DL
open PySem PySem.Spec PyProof.Rows L2
section
variable {X : Cx} {c : C} {e a b : Expr} {es : List Expr} {d da db : DEv} {dr : DAv} {pos p : Pos} {x : Str} {st : Stmt} {rest : List Stmt} {ds dt : DSv}
/-! ### texts by == -/
def fEqS : F2 := fun x y P => asS x fun i => asS y fun j => P (.bl (decide (i = j)))
def fNeS : F2 := fun x y P => asS x fun i => asS y fun j => P (.bl (!decide (i = j)))
theorem r2_eqS : R2D c rEq fEqS := fun ρ σ H0 H dx dy x y P Q R Dx Dy h k => by
  obtain ⟨i, rfl, rfl, h⟩ := asS_d h Dx
  obtain ⟨j, rfl, rfl, h⟩ := asS_d h Dy
  refine ⟨rfl, ?_⟩
  have e : decide (V.str i = V.str j) = decide (i = j) := by simp
  rw [e]
  exact k _ _ H H0 h R (Same.refl _) den_bl
theorem r2_neS : R2D c rNe fNeS := fun ρ σ H0 H dx dy x y P Q R Dx Dy h k => by
  obtain ⟨i, rfl, rfl, h⟩ := asS_d h Dx
  obtain ⟨j, rfl, rfl, h⟩ := asS_d h Dy
  refine ⟨rfl, ?_⟩
  have e : decide (V.str i = V.str j) = decide (i = j) := by simp
  rw [e]
  exact k _ _ H H0 h R (Same.refl _) den_bl
/-! ### data by == -/
mutual
def pyD : D → PyData
  | .non => .none
  | .bl b => .bool b
  | .int i => .int i
  | .str x => .str x
  | .tup l => .tuple (pyL l)
  | .lst l => .list (pyL l)
  | .stt => .none
  | .ins _ _ => .none
def pyL : List D → List PyData
  | [] => []
  | d :: l => pyD d :: pyL l
end
mutual
def plainD : D → Bool
  | .stt => false
  | .ins _ _ => false
  | .tup l => plainL l
  | .lst l => plainL l
  | _ => true
def plainL : List D → Bool
  | [] => true
  | d :: l => plainD d && plainL l
end
mutual
theorem Den.dp {g : DL.G} {H0 H : Hp} (s : Same H0 H) : ∀ (d : D) (v : V), Den g H0 d v → plainD d = true → Dp g.K H v (pyD d)
  | .non, _, h, _ => by unfold Den at h; subst h; exact .non
  | .bl b, _, h, _ => by unfold Den at h; subst h; exact .bl b
  | .int b, _, h, _ => by unfold Den at h; subst h; exact .int b
  | .str b, _, h, _ => by unfold Den at h; subst h; exact .str b
  | .tup l, _, h, p => by
    unfold Den at h
    obtain ⟨a, xs, rfl, q, r⟩ := h
    unfold plainD at p
    exact .tup (sqT_same s q) (DenL.dp s l xs r p)
  | .lst l, _, h, p => by
    unfold Den at h
    obtain ⟨a, xs, rfl, q, r⟩ := h
    unfold plainD at p
    exact .lst (SqL.of (s _ _ q)) (DenL.dp s l xs r p)
  | .stt, _, _, p => by simp [plainD] at p
  | .ins _ _, _, _, p => by simp [plainD] at p
theorem DenL.dp {g : DL.G} {H0 H : Hp} (s : Same H0 H) : ∀ (l : List D) (xs : List V), DenL g H0 l xs → plainL l = true → DpAll g.K H xs (pyL l)
  | [], _, h, _ => by unfold DenL at h; subst h; exact .nil
  | d :: l, _, h, p => by
    unfold DenL at h
    obtain ⟨x, r, rfl, q, t⟩ := h
    unfold plainL at p
    rw [Bool.and_eq_true] at p
    exact .cons (Den.dp s d x q p.1) (DenL.dp s l r t p.2)
end
def okD (d : D) : Bool := plainD d && SeqAt.shaped (pyD d)
def eqD (x y : D) : Bool := PyData.eqv (pyD x) (pyD y)
def fEqD : F2 := fun x y P => okD x = true ∧ okD y = true ∧ P (.bl (eqD x y))
def fNeD : F2 := fun x y P => okD x = true ∧ okD y = true ∧ P (.bl (!eqD x y))
theorem r2_eqD : R2D c (rEqD c.K) fEqD := fun ρ σ H0 H dx dy x y P Q R Dx Dy h k => by
  obtain ⟨h1, h2, h⟩ := h
  unfold okD at h1 h2
  rw [Bool.and_eq_true] at h1 h2
  exact ⟨_, _, Den.dp R.same _ _ Dx h1.1, Den.dp R.same _ _ Dy h2.1, h1.2, h2.2, k _ _ H H0 h R (Same.refl _) den_bl⟩
theorem r2_neD : R2D c (rNeD c.K) fNeD := fun ρ σ H0 H dx dy x y P Q R Dx Dy h k => by
  obtain ⟨h1, h2, h⟩ := h
  unfold okD at h1 h2
  rw [Bool.and_eq_true] at h1 h2
  exact ⟨_, _, Den.dp R.same _ _ Dx h1.1, Den.dp R.same _ _ Dy h2.1, h1.2, h2.2, k _ _ H H0 h R (Same.refl _) den_bl⟩
/-! ### zip -/
def pairsD (l m : List D) : List D := (l.zip m).map fun p => .tup [p.1, p.2]
theorem pairsD_get {l m : List D} {i : Nat} {w : D} (h : (pairsD l m)[i]? = some w) : ∃ x y, l[i]? = some x ∧ m[i]? = some y ∧ w = .tup [x, y] := by
  unfold pairsD at h
  rw [List.getElem?_map] at h
  cases e : (l.zip m)[i]? with
  | none => rw [e] at h; cases h
  | some q =>
    rw [e] at h
    rw [List.getElem?_zip_eq_some] at e
    exact ⟨q.1, q.2, e.1, e.2, by simpa using h.symm⟩
theorem pairsD_len (l m : List D) : (pairsD l m).length = min l.length m.length := by simp [pairsD]
/-- a new pair at each turn -/
theorem dwalk_pair {l : List D} {J : It} {Gd : Hp → Prop} {xs ys : Nat → Option V} {H0 : Hp} (W : Walk J l.length Gd (YPair xs ys)) (hG : ∀ H, Same H0 H → Gd H)
    (h : ∀ i w, l[i]? = some w → ∃ x y, w = .tup [x, y] ∧ (∀ v, xs i = some v → Den c.toG H0 x v) ∧ ∀ v, ys i = some v → Den c.toG H0 y v) : DWalk c l H0 J := by
  refine ⟨Gd, YPair xs ys, W, hG, fun i w c' ρ σ H01 H1 v H2 hc e R S ⟨T, u, u', ev, nT, eH, e1, e2⟩ => ?_⟩
  subst ev eH
  obtain ⟨x, y, rfl, d1, d2⟩ := h i w e
  have R' := R
  obtain ⟨r, s, dn⟩ := R.newT (c := c') nT (l := [x, y]) (xs := [u, u']) (by rw [hc]; exact DenL.cons (Den.mono S _ _ (d1 u e1)) (DenL.cons (Den.mono S _ _ (d2 u' e2)) DenL.nil))
  rw [hc] at dn
  exact ⟨_, r, s, dn⟩
theorem walk_zipT {K : PySem.W.Frag} {a b : Addr} {xs ys : List V} {n : Nat} (hn : n = min xs.length ys.length) : Walk (RZ.ItzT K a b) n (fun H => SqT K H a xs ∧ SqT K H b ys) (YPair (fun i => xs[i]?) (fun i => ys[i]?)) := by
  subst hn
  refine ⟨fun i _ hi q => ⟨xs, ys, xs[i]'(by omega), ys[i]'(by omega), q.1, q.2, by simp, by simp⟩, fun _ q => ⟨xs, ys, q.1, q.2, by omega⟩, fun i H v H' _ q y => ?_⟩
  obtain ⟨T, x, y, h1, h2, h3, h4, h5⟩ := y
  exact ⟨T, x, y, h1, h2, h3, h4 xs q.1, h5 ys q.2⟩
def iZip (dr : DAv) : DOv := fun ρ K => dr ρ fun ds ρ1 => as2 ds fun x y => match x with
  | .lst l => asL y fun m => K (pairsD l m) ρ1
  | .tup l => asT y fun m => K (pairsD l m) ρ1
  | _ => False
theorem di_zip {tpos : Pos} {elts : List Expr} {kk : Nat} (hg : Gl X "zip") (hm : X.mg "zip" = none) (ha : DA X c [a, b] dr)
    (hs : starEach [a, b] X.env = (false, eval a X.env) :: starEach [b] X.env := by rfl) (hpl : (backTo pos (starEach [b] X.env)).any (·.1) = false := by rfl) (hK : X.K = c.K := by rfl) :
    DI X c (.Tuple elts kk tpos) (.Call (.Name "zip" p) [a, b] [] pos) (iZip dr) := wkI (RZ.pi_zipA hg hm ha hs hpl) fun σ H R ⟨ρ, H0, K, R0, q, k⟩ => ⟨ρ, H0, _, R0, q, fun ds ρ1 vs H1 H01 q1 R1 S1 D1 => by
    obtain ⟨x, y, v, w, rfl, D1, D2, q1⟩ := as2_d q1 D1
    cases x with
    | lst l =>
      unfold Den at D1
      obtain ⟨a1, xs, rfl, sx, ex⟩ := D1
      obtain ⟨m, b1, ys, rfl, sy, ey, q1⟩ := asL_d q1 D2
      refine ⟨a1, b1, xs, ys, rfl, .inl ⟨SqL.of (R1.same _ _ sx), SqL.of (R1.same _ _ sy), k _ _ _ _ _ q1 R1 S1 (dwalk_pair (walk_zip (K := X.K) (a := a1) (b := b1) (xs := xs) (ys := ys) (by rw [pairsD_len, ex.len, ey.len])) (fun H s => ⟨SqL.of (s _ _ sx), SqL.of (s _ _ sy)⟩) fun i w e => ?_)⟩⟩
      obtain ⟨u, u', e1, e2, rfl⟩ := pairsD_get e
      obtain ⟨v1, f1, g1⟩ := ex.get e1
      obtain ⟨v2, f2, g2⟩ := ey.get e2
      exact ⟨u, u', rfl, fun z hz => by rw [f1] at hz; cases hz; exact g1, fun z hz => by rw [f2] at hz; cases hz; exact g2⟩
    | tup l =>
      unfold Den at D1
      obtain ⟨a1, xs, rfl, sx, ex⟩ := D1
      obtain ⟨m, b1, ys, rfl, sy, ey, q1⟩ := asT_d q1 D2
      refine ⟨a1, b1, xs, ys, rfl, .inr ⟨by rw [hK]; exact sqT_same R1.same sx, by rw [hK]; exact sqT_same R1.same sy, k _ _ _ _ _ q1 R1 S1 (dwalk_pair (walk_zipT (K := X.K) (a := a1) (b := b1) (xs := xs) (ys := ys) (by rw [pairsD_len, ex.len, ey.len])) (fun H s => ⟨by rw [hK]; exact sqT_same s sx, by rw [hK]; exact sqT_same s sy⟩) fun i w e => ?_)⟩⟩
      obtain ⟨u, u', e1, e2, rfl⟩ := pairsD_get e
      obtain ⟨v1, f1, g1⟩ := ex.get e1
      obtain ⟨v2, f2, g2⟩ := ey.get e2
      exact ⟨u, u', rfl, fun z hz => by rw [f1] at hz; cases hz; exact g1, fun z hz => by rw [f2] at hz; cases hz; exact g2⟩
    | _ => exact q1.elim⟩
end
end DL
namespace DL
open PySem PySem.Spec PyProof.Rows L2
/-! ### what a reading comes to where the data are written -/
theorem asI_int {i : Int} {k : Int → Prop} : asI (.int i) k = k i := rfl
theorem asB_bl {i : Bool} {k : Bool → Prop} : asB (.bl i) k = k i := rfl
theorem asT_tup {i : List D} {k : List D → Prop} : asT (.tup i) k = k i := rfl
theorem asL_lst {i : List D} {k : List D → Prop} : asL (.lst i) k = k i := rfl
theorem asQ_tup {i : List D} {k : List D → Prop} : asQ (.tup i) k = k i := rfl
theorem asQ_lst {i : List D} {k : List D → Prop} : asQ (.lst i) k = k i := rfl
theorem asS_str {i : Str} {k : Str → Prop} : asS (.str i) k = k i := rfl
theorem as1_one {x : D} {k : D → Prop} : as1 [x] k = k x := rfl
theorem as2_two {x y : D} {k : D → D → Prop} : as2 [x, y] k = k x y := rfl
theorem frz_v {d : D} : frz (.v d) = d := rfl
theorem frz_own {l : List D} : frz (.own l) = .lst l := rfl
theorem dVar_mk {l : List (Option Sl)} {s : Stt} {i : Nat} {d : D} {K : D → En → Prop} (h : l[i]? = some (some (.v d))) : dVar i (l, s) K = K d (l, s) := by
  unfold dVar; rw [h]
theorem dVar_0 {d : D} {l : List (Option Sl)} {s : Stt} {K : D → En → Prop} : dVar 0 (some (.v d) :: l, s) K = K d (some (.v d) :: l, s) := rfl
theorem fAdd_int {i j : Int} {P : D → Prop} : fAdd (.int i) (.int j) P = P (.int (i + j)) := rfl
theorem fAdd_tup {l m : List D} {P : D → Prop} : fAdd (.tup l) (.tup m) P = (l.length + m.length ≤ 1000000 ∧ P (.tup (l ++ m))) := rfl
theorem fAdd_lst {l m : List D} {P : D → Prop} : fAdd (.lst l) (.lst m) P = (l.length + m.length ≤ 1000000 ∧ P (.lst (l ++ m))) := rfl
theorem fIx_tup {l : List D} {i : Int} {P : D → Prop} : fIx (.tup l) (.int i) P = (match atI l i with | some d => P d | none => False) := rfl
theorem fIx_lst {l : List D} {i : Int} {P : D → Prop} : fIx (.lst l) (.int i) P = (match atI l i with | some d => P d | none => False) := rfl
theorem atI_0 {α : Type} {x : α} {l : List α} : atI (x :: l) 0 = some x := by
  unfold atI ixN
  rw [if_pos (by decide), if_pos (by simp)]; rfl
theorem atI_1 {α : Type} {x y : α} {l : List α} : atI (x :: y :: l) 1 = some y := by
  unfold atI ixN
  rw [if_pos (by decide), if_pos (by simp; omega)]; rfl
theorem fIx_tup0 {d : D} {l : List D} {P : D → Prop} : fIx (.tup (d :: l)) (.int 0) P = P d := by rw [fIx_tup, atI_0]
theorem fIx_tup1 {d e : D} {l : List D} {P : D → Prop} : fIx (.tup (d :: e :: l)) (.int 1) P = P e := by rw [fIx_tup, atI_1]
theorem fIx_lst0 {d : D} {l : List D} {P : D → Prop} : fIx (.lst (d :: l)) (.int 0) P = P d := by rw [fIx_lst, atI_0]
theorem fIx_lst1 {d e : D} {l : List D} {P : D → Prop} : fIx (.lst (d :: e :: l)) (.int 1) P = P e := by rw [fIx_lst, atI_1]
theorem atI_some {α : Type} {l : List α} {j : Nat} (h : j < l.length) : atI l (j : Int) = some l[j] := atI_nat (by simp [h])
theorem fIx_at {l : List D} {i : Int} {P : D → Prop} {j : Nat} {d : D} (e : i = (j : Int)) (h : l[j]? = some d) (q : P d) : fIx (.lst l) (.int i) P := by
  subst e; rw [fIx_lst, atI_nat h]; exact q
theorem fIx_atT {l : List D} {i : Int} {P : D → Prop} {j : Nat} {d : D} (e : i = (j : Int)) (h : l[j]? = some d) (q : P d) : fIx (.tup l) (.int i) P := by
  subst e; rw [fIx_tup, atI_nat h]; exact q
theorem fLen_tup {l : List D} {P : D → Prop} : fLen [.tup l] P = P (.int l.length) := rfl
theorem fLen_lst {l : List D} {P : D → Prop} : fLen [.lst l] P = P (.int l.length) := rfl
theorem fInt_bl {b : Bool} {P : D → Prop} : fInt [.bl b] P = P (.int (if b then 1 else 0)) := rfl
theorem fTuple_tup {l : List D} {P : D → Prop} : fTuple [.tup l] P = P (.tup l) := rfl
theorem fTuple_lst {l : List D} {P : D → Prop} : fTuple [.lst l] P = P (.tup l) := rfl
theorem fIsN_non {x : D} {P : D → Prop} : fIsN x .non P = P (.bl (isNon x)) := rfl
theorem fNotN_non {x : D} {P : D → Prop} : fNotN x .non P = P (.bl (!isNon x)) := rfl
theorem Br_true {p q : Prop} : Br true p q = p := by
  apply propext; exact ⟨fun h => h.1 rfl, fun h => ⟨fun _ => h, fun z => nomatch z⟩⟩
theorem Br_false {p q : Prop} : Br false p q = q := by
  apply propext; exact ⟨fun h => h.2 rfl, fun h => ⟨fun z => (nomatch z), fun _ => h⟩⟩
theorem Br_dec {c p q : Prop} [Decidable c] : Br (decide c) p q = ((c → p) ∧ (¬ c → q)) := by
  apply propext
  exact ⟨fun h => ⟨fun z => h.1 (decide_eq_true z), fun z => h.2 (decide_eq_false z)⟩, fun h => ⟨fun z => h.1 (of_decide_eq_true z), fun z => h.2 (of_decide_eq_false z)⟩⟩
theorem Br_not {b : Bool} {p q : Prop} : Br (!b) p q = Br b q p := by
  cases b
  · rw [Br_false]; exact Br_true
  · rw [Br_true]; exact Br_false
theorem isN_int {i : Int} : isNon (.int i) = false := rfl
theorem isN_tup {i : List D} : isNon (.tup i) = false := rfl
theorem isN_lst {i : List D} : isNon (.lst i) = false := rfl
theorem isN_bl {i : Bool} : isNon (.bl i) = false := rfl
theorem isN_str {i : Str} : isNon (.str i) = false := rfl
theorem isN_non : isNon .non = true := rfl
theorem pt_non : plainTy .non = true := rfl
theorem isi_non_int : isiS (tyD .non) "int" = false := by simp [isiS, tyD]
theorem isi_non_bool : isiS (tyD .non) "bool" = false := by simp [isiS, tyD]
theorem isi_non_tuple : isiS (tyD .non) "tuple" = false := by simp [isiS, tyD]
theorem isi_non_list : isiS (tyD .non) "list" = false := by simp [isiS, tyD]
theorem isi_non_str : isiS (tyD .non) "str" = false := by simp [isiS, tyD]
theorem pt_bl {b : Bool} : plainTy (.bl b) = true := rfl
theorem isi_bl_int {b : Bool} : isiS (tyD (.bl b)) "int" = true := by simp [isiS, tyD]
theorem isi_bl_bool {b : Bool} : isiS (tyD (.bl b)) "bool" = true := by simp [isiS, tyD]
theorem isi_bl_tuple {b : Bool} : isiS (tyD (.bl b)) "tuple" = false := by simp [isiS, tyD]
theorem isi_bl_list {b : Bool} : isiS (tyD (.bl b)) "list" = false := by simp [isiS, tyD]
theorem isi_bl_str {b : Bool} : isiS (tyD (.bl b)) "str" = false := by simp [isiS, tyD]
theorem pt_int {i : Int} : plainTy (.int i) = true := rfl
theorem isi_int_int {i : Int} : isiS (tyD (.int i)) "int" = true := by simp [isiS, tyD]
theorem isi_int_bool {i : Int} : isiS (tyD (.int i)) "bool" = false := by simp [isiS, tyD]
theorem isi_int_tuple {i : Int} : isiS (tyD (.int i)) "tuple" = false := by simp [isiS, tyD]
theorem isi_int_list {i : Int} : isiS (tyD (.int i)) "list" = false := by simp [isiS, tyD]
theorem isi_int_str {i : Int} : isiS (tyD (.int i)) "str" = false := by simp [isiS, tyD]
theorem pt_str {s : Str} : plainTy (.str s) = true := rfl
theorem isi_str_int {s : Str} : isiS (tyD (.str s)) "int" = false := by simp [isiS, tyD]
theorem isi_str_bool {s : Str} : isiS (tyD (.str s)) "bool" = false := by simp [isiS, tyD]
theorem isi_str_tuple {s : Str} : isiS (tyD (.str s)) "tuple" = false := by simp [isiS, tyD]
theorem isi_str_list {s : Str} : isiS (tyD (.str s)) "list" = false := by simp [isiS, tyD]
theorem isi_str_str {s : Str} : isiS (tyD (.str s)) "str" = true := by simp [isiS, tyD]
theorem pt_tup {l : List D} : plainTy (.tup l) = true := rfl
theorem isi_tup_int {l : List D} : isiS (tyD (.tup l)) "int" = false := by simp [isiS, tyD]
theorem isi_tup_bool {l : List D} : isiS (tyD (.tup l)) "bool" = false := by simp [isiS, tyD]
theorem isi_tup_tuple {l : List D} : isiS (tyD (.tup l)) "tuple" = true := by simp [isiS, tyD]
theorem isi_tup_list {l : List D} : isiS (tyD (.tup l)) "list" = false := by simp [isiS, tyD]
theorem isi_tup_str {l : List D} : isiS (tyD (.tup l)) "str" = false := by simp [isiS, tyD]
theorem pt_lst {l : List D} : plainTy (.lst l) = true := rfl
theorem isi_lst_int {l : List D} : isiS (tyD (.lst l)) "int" = false := by simp [isiS, tyD]
theorem isi_lst_bool {l : List D} : isiS (tyD (.lst l)) "bool" = false := by simp [isiS, tyD]
theorem isi_lst_tuple {l : List D} : isiS (tyD (.lst l)) "tuple" = false := by simp [isiS, tyD]
theorem isi_lst_list {l : List D} : isiS (tyD (.lst l)) "list" = true := by simp [isiS, tyD]
theorem isi_lst_str {l : List D} : isiS (tyD (.lst l)) "str" = false := by simp [isiS, tyD]
theorem tt_imp {p : Prop} : (True → p) = p := by simp
/-- a cut between two statements -/
theorem seq_by {a b : DSv} {B : DEnds} {ρ : En} (M : En → Prop) (h : ∀ nx : En → Prop, (∀ ρ, M ρ → nx ρ) → a { B with nx := nx } ρ) (k : ∀ ρ, M ρ → b B ρ) : dSeq a b B ρ := h _ k
/-- a while by a word and a measure, at a state written out -/
theorem while_of {t : DTv} {body : DSv} {B : DEnds} {ρ : En} (W : Nat → En → Prop) (m : Nat) (h : W m ρ) (turn : ∀ m ρ, W m ρ → t ρ fun b ρ1 => Br b (body { B with nx := fun ρ2 => ∃ m', m' < m ∧ W m' ρ2, ct := fun ρ2 => ∃ m', m' < m ∧ W m' ρ2, bk := B.nx } ρ1) (B.nx ρ1)) : dWhile t body B ρ := ⟨W, ⟨m, h⟩, turn⟩
/-- the ends of a turn: what follows it is the rest of the loop -/
abbrev turnE (t : DGv) (body : DSv) (B : DEnds) (l : List D) : DEnds := { B with nx := forD t body B l, ct := forD t body B l, bk := B.nx }
/-- a for, by a word over what is left -/
theorem for_ind {t : DGv} {body : DSv} {B : DEnds} (W : List D → En → Prop) (hn : ∀ ρ, W [] ρ → B.nx ρ)
    (hc : ∀ d l ρ, W (d :: l) ρ → (∀ ρ', W l ρ' → forD t body B l ρ') → t d ρ fun ρ1 => body (turnE t body B l) ρ1) : ∀ (l : List D) (ρ : En), W l ρ → forD t body B l ρ
  | [], ρ, w => hn ρ w
  | d :: l, ρ, w => hc d l ρ w fun ρ' w' => for_ind W hn hc l ρ' w'
theorem rangeD_zero {lo : Int} : rangeD lo 0 = [] := rfl
theorem rangeD_succ {lo : Int} {n : Nat} : rangeD lo (n + 1) = .int lo :: rangeD (lo + 1) n := by
  unfold rangeD
  rw [List.range_succ_eq_map, List.map_cons, List.map_map]
  congr 1
  · simp
  · apply List.map_congr_left
    intro i _
    show D.int (lo + ((i + 1 : Nat) : Int)) = D.int (lo + 1 + (i : Int))
    congr 1
    omega
theorem rangeD_len {lo : Int} {n : Nat} : (rangeD lo n).length = n := by simp [rangeD]
theorem for_range_ind {t : DGv} {body : DSv} {B : DEnds} (W : Int → Nat → En → Prop) (hn : ∀ lo ρ, W lo 0 ρ → B.nx ρ)
    (hc : ∀ lo n ρ, W lo (n + 1) ρ → (∀ ρ', W (lo + 1) n ρ' → forD t body B (rangeD (lo + 1) n) ρ') → t (.int lo) ρ fun ρ1 => body (turnE t body B (rangeD (lo + 1) n)) ρ1) : ∀ (n : Nat) (lo : Int) (ρ : En), W lo n ρ → forD t body B (rangeD lo n) ρ
  | 0, lo, ρ, w => hn lo ρ w
  | n + 1, lo, ρ, w => by
    rw [rangeD_succ]
    exact hc lo n ρ w fun ρ' w' => for_range_ind W hn hc n (lo + 1) ρ' w'
theorem lc_ind {t : DGv} {tt : DTv} {te : DEv} {env : List (Option Sl)} {K : List D → Stt → Prop} (W : List D → List D → Stt → Prop) (hn : ∀ acc st, W [] acc st → K acc st)
    (hc : ∀ d l acc st, W (d :: l) acc st → (∀ acc' st', W l acc' st' → lcD t tt te env l acc' st' K) → t d (env, st) fun ρ1 => tt ρ1 fun b ρ2 => Br b (te ρ2 fun x ρ3 => acc.length < 1000000 ∧ lcD t tt te env l (acc ++ [x]) ρ3.2 K) (lcD t tt te env l acc ρ2.2 K)) :
    ∀ (l acc : List D) (st : Stt), W l acc st → lcD t tt te env l acc st K
  | [], acc, st, w => hn acc st w
  | d :: l, acc, st, w => hc d l acc st w fun acc' st' w' => lc_ind W hn hc l acc' st' w'
theorem lc_range_ind {t : DGv} {tt : DTv} {te : DEv} {env : List (Option Sl)} {K : List D → Stt → Prop} (W : Int → Nat → List D → Stt → Prop) (hn : ∀ lo acc st, W lo 0 acc st → K acc st)
    (hc : ∀ lo n acc st, W lo (n + 1) acc st → (∀ acc' st', W (lo + 1) n acc' st' → lcD t tt te env (rangeD (lo + 1) n) acc' st' K) → t (.int lo) (env, st) fun ρ1 => tt ρ1 fun b ρ2 => Br b (te ρ2 fun x ρ3 => acc.length < 1000000 ∧ lcD t tt te env (rangeD (lo + 1) n) (acc ++ [x]) ρ3.2 K) (lcD t tt te env (rangeD (lo + 1) n) acc ρ2.2 K)) :
    ∀ (n : Nat) (lo : Int) (acc : List D) (st : Stt), W lo n acc st → lcD t tt te env (rangeD lo n) acc st K
  | 0, lo, acc, st, w => hn lo acc st w
  | n + 1, lo, acc, st, w => by
    rw [rangeD_succ]
    exact hc lo n acc st w fun acc' st' w' => lc_range_ind W hn hc n (lo + 1) acc' st' w'
end DL
namespace DL
open PySem PySem.Spec PyProof.Rows L2
/-! ### the law's state: its dict -/
theorem ck_ne : ¬ (("cells" : Str) = "turn") := by decide +kernel
theorem tk_ne : ¬ (("turn" : Str) = "cells") := by decide +kernel
theorem stt_cells (p : Addr × Addr) (t : Int) : valV (sttF p t) (Sum.inr ("cells" : Str)) = some (.ref p.2) := valV_pos rfl
theorem stt_turn (p : Addr × Addr) (t : Int) : valV (sttF p t) (Sum.inr ("turn" : Str)) = some (.int t) := by
  unfold sttF
  rw [valV_neg (by intro h; injection h with h; exact ck_ne h)]
  exact valV_pos rfl
theorem stt_put (p : Addr × Addr) (t u : Int) : putK (sttF p t) (Sum.inr ("turn" : Str)) (.int u) = sttF p u := by
  have n : ¬ ((Sum.inr ("cells" : Str) : Key) = Sum.inr ("turn" : Str)) := by intro h; injection h with h; exact ck_ne h
  unfold putK sttF
  simp [n]
theorem RelG.turn {K : PySem.W.Frag} {cl : Nat → Addr} {p : Addr × Addr} {st : Stt} {H0 H H' : Hp} {cells : List Int} {t : Int} (R : RelG ⟨⟨K, some p, cl⟩, H, H0⟩ st H0 H) (k : ∀ b o, b ≠ p.1 → b ≠ p.2 → H b = some o → H' b = some o)
    (h1 : H' p.1 = some (.dK (sttF p t))) (h2 : H' p.2 = some (.lst (cells.map V.int))) : RelG ⟨⟨K, some p, cl⟩, H, H0⟩ (cells, t) H0 H' where
  same := fun b o e => by
    obtain ⟨n1, n2⟩ := R.sttO (p := p) rfl
    exact k b o (fun z => by rw [z, n1] at e; cases e) (fun z => by rw [z, n2] at e; cases e) (R.same b o e)
  keep := fun b o e ns => k b o (fun z => ns ⟨p, rfl, .inl z⟩) (fun z => ns ⟨p, rfl, .inr z⟩) e
  base := Same.refl _
  new := fun _ e _ => e
  stt := fun q e => by
    have e' : some p = some q := e
    cases e'
    obtain ⟨a1, a2, a3, _⟩ := R.stt p rfl
    exact ⟨a1, a2, a3, h1, h2⟩
/-- _law_begin: a state that stands at two new places -/
def spBegin (K : PySem.W.Frag) : Sp := fun vs H Q _ => ∃ (a : Addr) (ns : List Int), vs = [.ref a] ∧ SqL K H a (ns.map V.int) ∧ ns.length ≤ 63 ∧
  ∀ (p : Addr × Addr) (cells : List Int) (H' : Hp), Same H H' → H p.1 = none → H p.2 = none → p.1 ≠ p.2 → cells ≠ [] → H' p.1 = some (.dK (sttF p 0)) → H' p.2 = some (.lst (cells.map V.int)) → Q (.ref p.1) H'
def spLaw (K : PySem.W.Frag) : Sp := fun vs H Q _ => ∃ (a : Addr) (ns : List Int), vs = [.ref a] ∧ SqL K H a (ns.map V.int) ∧ ns.length ≤ 63 ∧ ∀ H', Q (.bl true) H'
/-- what a law is to come to -/
def endsL : DEnds := ⟨fun _ => False, fun d _ => d = .bl true, fun _ _ => False, fun _ => False, fun _ => False⟩
/-- its slots behind _law_begin: the script is out of sight, the state stands in slot 1 -/
def startLaw (n : Nat) : List (Option Sl) := none :: some (.v .stt) :: List.replicate n none
/-- the state may be drawn from m times more -/
structure Good (m : Int) (st : Stt) : Prop where
  ne : st.1 ≠ []
  lo : 0 ≤ st.2
  hi : st.2 + m ≤ 1000000000000000
def xS (K : PySem.W.Frag) (cl : Nat → Addr) (ds : DSv) : TS := fun E σ H => ∃ sd Hs H0s, tS ⟨⟨K, sd, cl⟩, Hs, H0s⟩ ds E σ H
theorem xs_of {X : Cx} {K : PySem.W.Frag} {cl : Nat → Addr} {sts : List Stmt} {ds : DSv} (h : ∀ sd Hs H0s, DSs X ⟨⟨K, sd, cl⟩, Hs, H0s⟩ sts ds) : PSs X sts (xS K cl ds) := ⟨fun pins s σ H D I ⟨sd, Hs, H0s, q⟩ => (h sd Hs H0s).run pins s σ H D I q⟩
theorem law_start {K : PySem.W.Frag} {cl : Nat → Addr} {n : Nat} {p : Addr × Addr} {cells : List Int} {H' : Hp} {a : Addr} {Q : VK} {ds : DSv} (ne : p.1 ≠ p.2) (hc : cells ≠ []) (h1 : H' p.1 = some (.dK (sttF p 0))) (h2 : H' p.2 = some (.lst (cells.map V.int)))
    (k : ∀ H', Q (.bl true) H') (d : ∀ st, Good 1000000000000 st → ds endsL (startLaw n, st)) : xS K cl ds { nx := fun _ H' => Q .non H', rt := Q } (some (.ref a) :: some (.ref p.1) :: List.replicate n none) H' := by
  let H0 : Hp := fun b => if b = p.1 ∨ b = p.2 then none else H' b
  have n1 : H0 p.1 = none := if_pos (.inl rfl)
  have n2 : H0 p.2 = none := if_pos (.inr rfl)
  have hx : ∀ (l : List D) (i : Nat), (startLaw n)[i]? ≠ some (some (Sl.own l)) := fun l i e => by
    unfold startLaw at e
    match i, e with
    | 0, e => simp at e
    | 1, e => simp at e
    | i + 2, e =>
      simp [List.getElem?_replicate] at e
  have hp : ∀ (v : V) (i : Nat), (startLaw n)[i]? ≠ some (some (Sl.pin v)) := fun l i e => by
    unfold startLaw at e
    match i, e with
    | 0, e => simp at e
    | 1, e => simp at e
    | i + 2, e =>
      simp [List.getElem?_replicate] at e
  refine ⟨some p, H', H0, (startLaw n, (cells, 0)), H0, endsL, ⟨fun _ => 0, ⟨fun b o e => ?_, fun b o e _ => e, Same.refl _, fun b e _ => e, fun q e => ?_⟩, ?_, fun i d e => ?_, fun i l e => absurd e (hx l i), fun i j l l' e => absurd e (hx l i), fun i v e => absurd e (hp v i)⟩, d _ ⟨hc, Int.le_refl _, by show (0 : Int) + 1000000000000 ≤ 1000000000000000; decide⟩, ?_⟩
  · by_cases z : b = p.1 ∨ b = p.2
    · rw [show H0 b = none from if_pos z] at e; cases e
    · rw [show H0 b = H' b from if_neg z] at e; exact e
  · have e' : some p = some q := e
    cases e'
    exact ⟨ne, ⟨n1, by show H' p.1 ≠ none; rw [h1]; exact fun z => nomatch z⟩, ⟨n2, by show H' p.2 ≠ none; rw [h2]; exact fun z => nomatch z⟩, h1, h2⟩
  · simp [startLaw]
  · have e : (startLaw n)[i]? = some (some (Sl.v d)) := e
    unfold startLaw at e
    match i, e with
    | 0, e => simp at e
    | 1, e =>
      have : d = .stt := by simpa using e.symm
      subst this
      exact ⟨.ref p.1, rfl, by unfold Den; exact ⟨p, rfl, rfl⟩⟩
    | i + 2, e =>
      simp [List.getElem?_replicate] at e
  · refine ⟨fun _ _ _ _ z => z.elim, fun _ _ _ _ z => z.elim, fun _ _ _ _ z => z.elim, fun d ρ σ v H0' H hd R S dn => ?_, fun _ _ _ _ _ _ z => z.elim⟩
    have hd : d = .bl true := hd
    subst hd
    unfold Den at dn
    subst dn
    exact k _
/-- what m draws at most leave -/
structure Left (m : Int) (st st' : Stt) : Prop where
  ne : st'.1 ≠ []
  lo : st.2 ≤ st'.2
  hi : st'.2 ≤ st.2 + m
def c_l_take : DFn := fun ds st Kf => ∃ n : Int, ds = [.stt, .int n] ∧ 0 < n ∧ n ≤ 1000000000000000000 ∧ Good 1 st ∧ ∀ (r : Int) st', 0 ≤ r → r < n → Left 1 st st' → Kf (.v (.int r)) st'
theorem MulOk.sl {i j : Int} (h : i.natAbs < 2 ^ 60) : MulOk i j := MulOk.of_left (Nat.le_trans (PyProof.Rows.intBits_le (a := i) (k := 60) h) (by decide))
theorem MulOk.sr {i j : Int} (h : j.natAbs < 2 ^ 60) : MulOk i j := MulOk.of_right (Nat.le_trans (PyProof.Rows.intBits_le (a := j) (k := 60) h) (by decide))
theorem small_mod (z : Int) : (z.fmod 2147483647).natAbs < 2 ^ 60 := by
  rw [Int.fmod_eq_emod_of_nonneg _ (by decide)]
  have h1 := Int.emod_nonneg z (show (2147483647 : Int) ≠ 0 by decide)
  have h2 := Int.emod_lt_of_pos z (show (0 : Int) < 2147483647 by decide)
  have : (2 : Nat) ^ 60 = 1152921504606846976 := by decide +kernel
  omega
theorem nz {j : Int} (h : j ≠ 0) : j ≠ 0 := h
theorem fmod_lt {a b : Int} (h : 0 < b) : 0 ≤ a.fmod b ∧ a.fmod b < b := by
  rw [Int.fmod_eq_emod_of_nonneg _ (by omega)]
  exact ⟨Int.emod_nonneg _ (by omega), Int.emod_lt_of_pos _ h⟩
theorem sz9000 {n : Int} (h0 : 0 < n) (h : n ≤ 1000000000000000000) : n.natAbs.log2 < 9000 :=
  PySem.Flt.log2_lt_of (by decide) (Nat.lt_of_lt_of_le (show n.natAbs < 2 ^ 60 by
    have : (2 : Nat) ^ 60 = 1152921504606846976 := by decide +kernel
    omega) (Nat.pow_le_pow_right (by decide) (by decide)))
/-- a promise that nobody may ask -/
theorem fn_no {P : Program} {w : World} {K : PySem.W.Frag} {mg : Str → Option Value} {base : Heap} {f : Addr} {fd : FuncData} {ps : List Str} {n : Nat} {cl : Nat → Addr} {k : Nat} : FnOk P w K mg base CX0 k f fd ps (spD n K cl fun _ _ _ => False) :=
  ⟨fun vs H Q E h => by obtain ⟨_, _, _, _, _, _, _, _, h, _⟩ := h; exact h.elim, fun A outer s H args us vs Q E _ _ _ _ h => by obtain ⟨_, _, _, _, _, _, _, _, h, _⟩ := h; exact h.elim⟩
end DL
namespace DL
open PySem PySem.Spec PyProof.Rows L2
/-! ### the head, where the base tells also that nobody looks on (for divisions of any size) -/
/-- the heap without the script, as the base of a law's call -/
structure Bare (K : PySem.W.Frag) (s : Shared) (a : Addr) (H : Hp) : Prop where
  only : ∀ b u, H b = some u → b = a
  out : ∀ u, H a = some u → K.lookup a = none
section
variable {K : PySem.W.Frag} {s : Shared} {a : Addr} {H : Hp} {vs : Array Value}
theorem Bare.keepO (B : Bare K s a H) (ha : s.heap.get? a = some { cls := .type "list", data := .seq vs }) {b : Addr} {o : Obj} (e : s.heap.get? b = some o) (hd : ∀ z n, o.data ≠ .seq z n) : (hidT s.heap H).get? b = some o := by
  refine hidT_get e ?_
  cases q : H b with
  | none => rfl
  | some u =>
    have z := B.only b u q
    subst z
    rw [ha] at e
    cases e
    exact absurd rfl (hd _ _)
theorem Bare.keepNs (B : Bare K s a H) (ha : s.heap.get? a = some { cls := .type "list", data := .seq vs }) {b : Addr} {m : Str → Option Value} (h : s.heap.Ns b m) : (hidT s.heap H).Ns b m := by
  obtain ⟨o, es, ep, e, d, r⟩ := h
  exact ⟨o, es, ep, B.keepO ha e (fun z n w => by rw [d] at w; cases w), d, r⟩
theorem Bare.keepK (B : Bare K s a H) (X : K.In s.heap) : K.In (hidT s.heap H) := fun b o e => hidT_get (X b o e) (by
  cases q : H b with
  | none => rfl
  | some u =>
    have z := B.only b u q
    subst z
    rw [B.out u q] at e
    cases e)
theorem Bare.keepSeer (B : Bare K s a H) (ha : s.heap.get? a = some { cls := .type "list", data := .seq vs }) (h : s.heap.NoSeer) (hm : ∀ mg bm ob, s.heap.Ns mainGlobals mg → mg "__builtins__" = some (.ref bm) → s.heap.get? bm = some ob → ∀ z n, ob.data ≠ .seq z n) : (hidT s.heap H).NoSeer where
  statics := let ⟨mc, n, e⟩ := h.statics; ⟨mc, B.keepNs ha n, e⟩
  mods := let ⟨mm, n, e⟩ := h.mods; ⟨mm, B.keepNs ha n, e⟩
  imp := let ⟨mb, n, e⟩ := h.imp; ⟨mb, B.keepNs ha n, e⟩
  main := let ⟨mg, bm, ob, n, e1, e2, e3, e4⟩ := h.main; ⟨mg, bm, ob, B.keepNs ha n, e1, B.keepO ha e2 (hm mg bm ob n e1 e2), e3, e4⟩
end
theorem law_callS {P : Program} {w : World} {K : PySem.W.Frag} {mg mb : Str → Option Value} {k : Nat} {fa a : Addr} {fd : FuncData} {x : Str} {sp : Sp} {s : Shared} {vs : List Value} {ns : List Int}
    (X : K.In s.heap) (hns : s.heap.Ns mainGlobals mg) (hb : s.heap.Ns builtinsNs mb) (hbb : ∀ y : Str, y ≠ "__name__" → mb y = bootBuiltins y) (hlim : s.heap.NoLimit) (hgen : s.gens = #[]) (hseer : s.heap.NoSeer)
    (hmain : ∀ bm ob, mg "__builtins__" = some (.ref bm) → s.heap.get? bm = some ob → ∀ z n, ob.data ≠ .seq z n)
    (ha : s.heap.get? a = some { cls := .type "list", data := .seq vs.toArray }) (hi : IntsAre vs ns) (hl : ns.length ≤ sizeLine) (hr : Room k callerA)
    (F : ∀ base : Heap, K.In base → base.Ns mainGlobals mg → base.NoSeer → FnOk P w K mg base CX0 k fa fd [x] sp) (hbind : ∀ (s : Shared) (u : Value), BindsTo s fd ⟨[u], []⟩ [(x, u)])
    (hsp : ∀ H : Hp, SqL K H a (ns.map V.int) → sp [.ref a] H (fun v _ => v = .bl true) fun _ _ _ => False) :
    codeAny (model P w) callerA (.call (.ref fa) ⟨[.ref a], []⟩) (fun r t => r = .ok (.ret (.bool true)) ∧ OldK s.heap t.heap ∧ t.os = s.os ∧ AllBare t.gens) s := by
  have rv := vals_ints hi
  have hlen := hi.length
  have mainU : ∀ mg', s.heap.Ns mainGlobals mg' → mg' = mg := fun mg' h' => by
    obtain ⟨o, es, ep, e, d, n, f⟩ := hns
    obtain ⟨o', es', ep', e', d', n', f'⟩ := h'
    rw [e] at e'; cases e'
    rw [d] at d'; injection d' with d1 d2
    subst d1
    funext y
    rw [← f, ← f']
  have run : ∀ H : Hp, Only H → SqL K H a (ns.map V.int) → HOk P w H s.heap → Bare K s a H →
      codeAny (model P w) callerA (.call (.ref fa) ⟨[.ref a], []⟩) (fun r t => r = .ok (.ret (.bool true)) ∧ OldK s.heap t.heap ∧ t.os = s.os ∧ AllBare t.gens) s := fun H hO hS hok B => by
    have nolim : (hidT s.heap H).NoLimit := let ⟨mc, n, e⟩ := hlim; ⟨mc, B.keepNs ha n, e⟩
    have modB : Mod K mg (hidT s.heap H) := ⟨B.keepK X, B.keepNs ha hns, ⟨mb, B.keepNs ha hb, hbb⟩, nolim⟩
    have env : Env0 P w K mg (hidT s.heap H) callerA [] s H :=
      ⟨rfl, modB, fun b o e => of_hidT e, Nat.le_of_eq (hidT_size _ _), trivial, fun b hb => (List.not_mem_nil hb).elim, hok, .of_eq hgen⟩
    have seerB := B.keepSeer ha hseer fun mg' bm ob n e1 e2 => hmain bm ob (by rw [← mainU mg' n]; exact e1) e2
    refine codeAny_mono ((F _ modB.kin modB.glob seerB).run callerA [] s H ⟨[.ref a], []⟩ [.ref a] [.ref a] _ _ hr env (hbind s (.ref a)) (.cons rfl .nil) (hsp H hS)) fun r t h => ?_
    match r, h with
    | .error e, h => exact h.elim
    | .ok .next, h => exact h.elim
    | .ok .brk, h => exact h.elim
    | .ok .cont, h => exact h.elim
    | .ok (.ret u), ⟨v, H', os, bare, un, hok', ru, q⟩ =>
      have q : v = .bl true := q
      subst q
      have ru : u = Value.bool true := ru
      subst ru
      refine ⟨rfl, OldK.of_keep fun b o e => ?_, os, bare⟩
      cases hq : H b with
      | none => exact un.keep b o e hq List.not_mem_nil List.not_mem_nil
      | some u =>
        rcases hO b with z | ⟨ob, xs, z⟩
        · rw [hq] at z; cases z
        · have g1 := (hok b _ z).1
          have g2 := (hok' b _ (un.frzs b ob _ z)).1
          rw [e] at g1; cases g1
          exact g2
  cases hk : K.lookup a with
  | some o =>
    have e := X a o hk
    rw [ha] at e
    cases e
    refine run (fun _ => none) (fun _ => .inl rfl) (.inr ⟨_, vs.toArray, _, hk, rfl, rfl, rfl, ?_, ?_⟩) (fun _ _ z => nomatch z) ⟨fun _ _ z => (nomatch z), fun _ z => nomatch z⟩
    · simpa [hlen] using hl
    · simpa using rv
  | none =>
    refine run (fun b => if b = a then some (.frz { cls := .type "list", data := .seq vs.toArray } (.lst (ns.map V.int))) else none) (fun b => ?_) (.inl (.inr ⟨_, if_pos rfl⟩)) (fun b u z => ?_) ⟨fun b u z => ?_, fun _ _ => hk⟩
    · by_cases q : b = a
      · exact .inr ⟨_, _, if_pos q⟩
      · exact .inl (if_neg q)
    · by_cases q : b = a
      · have z2 := (if_pos q).symm.trans z
        cases z2
        rw [q]
        exact ⟨ha, by simpa using hl, vs, 0, rv, ha⟩
      · have z2 := (if_neg q).symm.trans z
        cases z2
    · by_cases q : b = a
      · exact q
      · have z2 := (if_neg q).symm.trans z
        cases z2

/-- the head of a law of this making: the def's promise may lean on a base where nobody looks on -/
theorem walkS {l : PySem.W.OpenLaw} {k : Nat} {q : Program} {loose : List Str} {XP : (Str → Option Value) → Heap → Prop} {YP : World → Heap → Prop} {d : DefRec} {K : Params → PySem.W.Frag} (hn : l.most = some 63) (hdf : d.params.defaults = []) (hr : Room k callerA) (hi : importsNone q = true)
    (hY : ∀ (w : World) (h : Heap), YP w h → (K w.params).In h)
    (F : ∀ (w : World) (mg : Str → Option Value) (fa : Addr) (h : Heap), (K w.params).In h → h.Ns mainGlobals mg → mg d.name = some (.ref fa) →
      ∃ fd : FuncData, (∀ (s : Shared) (u : Value), BindsTo s fd ⟨[u], []⟩ [("_law_script", u)]) ∧ ∀ base : Heap, (K w.params).In base → base.Ns mainGlobals mg → base.NoSeer → FnOk l.prog w (K w.params) mg base CX0 k fa fd ["_law_script"] (spLaw (K w.params))) :
    PySem.W.WalkO q loose XP YP l.row.toRowW d [] (fun f vs => PySem.call f vs) := by
  refine Att.attach_call hn hdf fun w s₀ s₁ mg mb fa o pm cd doc a vs ns G Y ho hd hcd hmg hobj hints hlen hg => ?_
  have KX := hY w _ Y
  obtain ⟨fd, hb, hF⟩ := F w mg fa _ KX G.T.g hmg
  refine law_callS KX G.T.g G.T.b G.T.builtins G.T.nolimit hg (G.T.seer hi) (fun bm ob e1 e2 z n w => ?_) hobj hints (Nat.le_trans hlen (by decide)) hr hF hb fun H hS => ⟨a, ns, rfl, hS, hlen, fun _ => rfl⟩
  obtain ⟨bm', ob', f1, f2, f3, f4, f5, f6⟩ := G.T.bmain
  rw [f1] at e1
  cases e1
  rw [f3] at e2
  cases e2
  rw [f6] at w
  cases w
/-! ### // of any size -/
/-- what a body bears where nobody looks on -/
structure Big (X : Cx) : Prop where
  seer : X.base.NoSeer
  tree : X.prog.given.tree = none
  room : X.A.depth + Builtin.pylongFrames < recursionLimit
  head : ∃ e l, X.stack = e :: l ∧ e.scope.isGenerator = false ∧ e.scope.isCoroutine = false ∧ e.builtins = builtinsNs ∧ e.globals = mainGlobals
theorem Big.blk {X : Cx} (B : Big X) {s : Shared} {H : Hp} {scope : Scope} {cenv : Env} {fp : List Addr} : Big (X.blk s H scope cenv fp) := ⟨B.seer, B.tree, B.room, B.head⟩
theorem Big.body {P : Program} {w : World} {K : PySem.W.Frag} {mg : Str → Option Value} {base : Heap} {N : List Str} {qual : Str} {scope : Scope} {f : Addr} {cdv : Value} {A : Around} {outer : List Env} {s : Shared} {H : Hp} {E : XK} {k : Nat}
    (hS : base.NoSeer) (ht : P.given.tree = none) (hr : Room k (A.deeper (envOfC qual scope s.heap.objs.size f cdv))) (hk : 32 ≤ k) (hg : scope.isGenerator = false) (hc : scope.isCoroutine = false) : Big (cxOf CX0 P w K mg base N qual scope f cdv A outer s H E).nox :=
  ⟨hS, ht, (by have := hr.dp; show (A.deeper (envOfC qual scope s.heap.objs.size f cdv)).depth + 100 < _; omega), _, _, rfl, hg, hc, rfl, rfl⟩
theorem Big.of {X : Cx} (B : Big X) {pins : List (Addr × Obj)} {σ : List (Option V)} {H : Hp} {s : Shared} (I : Inv X pins σ H s) : PySem.PylongRoom (model X.prog X.w) X.A s := by
  obtain ⟨e, l, e1, e2, e3, e4, e5⟩ := B.head
  exact PySem.PylongRoom.of I.nolimit B.room (PySem.SeerAt.of (B.seer.keeps I.bk) B.tree (I.ok.frames.trans (congrArg some e1)) e2 e3 e4 e5)
section
variable {X : Cx} {c : C} {a b : Expr} {da db : DEv} {pos : Pos}
/-- what is asked of a division without a bound of its size -/
structure DivE (i j : Int) : Prop where
  ne : j ≠ 0
def fDivE : F2 := fI DivE fun i j => .int (i.fdiv j)
theorem op_divE (B : Big X) : OpR X (binaryOp .FloorDiv) (rI DivE fun i j => .int (i.fdiv j)) := fun pins s σ H x y v u Q I hx hy h => by
  obtain ⟨i, j, rfl, rfl, hc, q⟩ := h
  obtain ⟨t, rfl⟩ := hx
  obtain ⟨t', rfl⟩ := hy
  exact floordiv_int hc.ne ⟨.int (i.fdiv j), H, I.tok _, ⟨_, rfl⟩, q⟩ (.inr (B.of I))
theorem de_divE (B : Big X) (ha : DE X c a da) (hb : DE X c b db) : DE X c (.BinOp a .FloorDiv b pos) (d2 fDivE da db) := de_op (op_divE B) (r2I fun _ _ _ => den_int) ha hb
end
end DL
namespace DL
open PySem PySem.Spec PyProof.Rows L2
/-! ### classes: a bare instance, its methods -/
section
variable {X : Cx} {pins : List (Addr × Obj)} {σ : L2.St} {H : Hp} {s : Shared} {Cl : Addr} {Q : VK}
theorem run_bare (hm : PySem.W.makesIn X.K Cl = true) (hi : PySem.W.findIn X.K (.ref Cl) "__init__" = some (some (.builtin "object.__init__"))) (I : Inv X pins σ H s)
    (h : ∀ x dx, H x = none → H dx = none → dx ≠ x → Q (.ref x) (upd (upd H dx (.own x)) x (.ins Cl dx []))) : wpAny (model X.prog X.w) X.A (call (.ref Cl) []) (EP X pins σ Q) X.xe s := by
  have hq := h (s.heap.objs.size + 1) s.heap.objs.size (I.hok.fresh (Nat.le_succ _)) (I.hok.fresh (Nat.le_refl _)) (Nat.ne_of_lt (Nat.lt_succ_self _))
  have I2 := Inv.made (C := Cl) I
  obtain ⟨hh, g, d, t, os⟩ := s
  have kin := I.kIn
  have Y := PySem.W.makes_of (M := model X.prog X.w) kin hm
  refine wpAny_call (PySem.W.make_core Y (PySem.W.looks_findIn kin hi) (fun self => PySem.W.Looks.of_pure (PySem.W.oi_bind self)) (.inr ⟨rfl, rfl⟩) ?_)
  have hx : ((hh.push PySem.W.emptyDict).push (PySem.W.instObj Cl hh.objs.size)).get? (hh.objs.size + 1) = some (PySem.W.instObj Cl hh.objs.size) := by
    have := Heap.get?_push_size (hh.push PySem.W.emptyDict) (o := PySem.W.instObj Cl hh.objs.size) rfl
    rwa [Heap.size_push] at this
  have t1 : PySem.W.Looks (model X.prog X.w) ((hh.push PySem.W.emptyDict).push (PySem.W.instObj Cl hh.objs.size)) (typeOf (.ref (hh.objs.size + 1))) (.ref Cl) := (PySem.W.Looks.ld hx).andThen .now
  have t2 : PySem.W.Looks (model X.prog X.w) ((hh.push PySem.W.emptyDict).push (PySem.W.instObj Cl hh.objs.size)) (isInstance (.ref (hh.objs.size + 1)) (.type "object")) true := t1.andThen (Y.top.keeps fun b o e => Heap.get?_push_of_some _ (Heap.get?_push_of_some _ e))
  refine codeAny_call_builtin PySem.W.oi_plain PySem.W.entry_oi (@PySem.W.check_slot (model X.prog X.w) _ _ _ "object.__init__" "object" "__init__" (.ref (hh.objs.size + 1)) [] [] _ PySem.W.oi_kind PySem.W.oi_split t2 (PySem.W.oi_args (.ref (hh.objs.size + 1))) ?_)
  rw [PySem.W.oi_run]
  exact wpAny_pure (And.intro rfl ⟨V.ref (hh.objs.size + 1), _, I2, rfl, hq⟩)
end
/-- what a class without an own __init__ is -/
structure Bare0 (K : PySem.W.Frag) (mg : Str → Option Value) (x : Str) (a : Addr) : Prop where
  at_ : mg x = some (.ref a)
  makes : PySem.W.makesIn K a = true
  init : PySem.W.findIn K (.ref a) "__init__" = some (some (.builtin "object.__init__"))
  kp : PySem.W.keepIn K (.ref a) = true
  cls : Cls K a
section
variable {X : Cx} {c : C} {e a b o : Expr} {es : List Expr} {d da db : DEv} {dr : DAv} {pos p apos : Pos} {x m : Str} {Cl f : Addr} {k n t : Nat} {fd : FuncData} {ps : List Str} {fn : DFn}
theorem pe_bare (B : Bare0 X.K X.mg x Cl) (hg : Gl X x) (hdb : (x == ("__debug__" : Str)) = false := by decide) :
    PE X (.Call (.Name x p) [] [] pos) (fun σ H Q => ∀ y dx, H y = none → H dx = none → dx ≠ y → Q (.ref y) (upd (upd H dx (.own y)) y (.ins Cl dx []))) := by
  refine ⟨fun pins s σ H Q I h => ?_⟩
  refine wpAny_Call_Name_kw (ld_glob I hg B.at_ ?_ hdb)
  exact PySem.W.callWith_K0 I.kIn B.kp (run_bare B.makes B.init I h)
/-- C(), no fields -/
theorem de_bare (B : Bare0 X.K X.mg x (c.cls t)) (hg : Gl X x) (hdb : (x == ("__debug__" : Str)) = false := by decide) :
    DE X c (.Call (.Name x p) [] [] pos) (dC (.ins t none)) := wkE (pe_bare B hg hdb) fun σ H Q ⟨ρ, H0, K, R, q, k⟩ y dx ny nd ne => by
  obtain ⟨R1, S1⟩ := R.grow (.own y) nd
  have ny1 : upd H dx (.own y) y = none := by rw [upd_ne (fun z => ne z.symm)]; exact ny
  obtain ⟨R2, S2⟩ := R1.grow (.ins (c.cls t) dx []) ny1
  exact k _ _ _ _ _ q R2 (S1.trans S2) (by unfold Den; exact ⟨y, dx, rfl, upd_same⟩)
/-- o.m(..) of an instance of class t -/
def dMeth (t : Nat) (f : DFn) (n : Nat) (o : DEv) (dr : DAv) : DEv := fun ρ K => o ρ fun z ρ1 => (∃ p, z = .ins t p) ∧ dr ρ1 fun ds ρ2 => ds.length = n ∧ f (z :: ds) ρ2.2 fun r st => K (frz r) (ρ2.1, st)
theorem meth_D {cl : Nat → Addr} {vs : List V} {ds : List D} {z : D} {y : V} {ρ : En} {σ : L2.St} {H0 H : Hp} {Q : VK} {K : D → En → Prop} (hK : X.K = c.K) (hC : cl = c.cls) (hn : ds.length = n) (R : Rel c ρ σ H0 H) (Dz : Den c.toG H0 z y) (Dn : DenL c.toG H0 ds vs)
    (q : fn (z :: ds) ρ.2 fun r st => K (frz r) (ρ.1, st)) (k : ∀ d ρ' v H' H0', K d ρ' → Rel c ρ' σ H0' H' → Same H0 H0' → Den c.toG H0' d v → Q v H') : spD (n + 1) X.K cl fn (y :: (vs ++ [])) H Q E0 := by
  rw [List.append_nil]
  obtain ⟨L, R⟩ := R
  refine call_D (ds := z :: ds) hK hC (by simp [hn]) R (DenL.cons Dz Dn) q (fun d st' v H' H0' kf R' S' D' => k _ _ _ _ _ kf ⟨L, R'⟩ S' D') fun l st' a H' H0' kf R' S' F' => ?_
  obtain ⟨H0'', R'', S'', dn⟩ := R'.freeze F'
  exact k _ _ _ _ _ kf ⟨L, R''⟩ (S'.trans S'') dn
theorem lookup_ins {m : Str} (h : (m == ("size" : Str)) = false) : ∀ p : Option Int, (insF p).lookup m = none
  | none => rfl
  | some p => by unfold insF; simp only [List.lookup, h]
theorem de_meth {cl : Nat → Addr} {pl : Sem Bool} (ho : DE X c o d) (hc : Cls X.K (c.cls t)) (hm : Meth X.K (c.cls t) m f) (F : FnOk X.prog X.w X.K X.mg X.base CX0 k f fd ps (spD (n + 1) X.K cl fn)) (hr : Room k X.A) (hb : Binds X.K fd ps []) (ha : DA X c (e :: es) dr) (hl : (m == ("size" : Str)) = false := by decide)
    (hst : starEach (e :: es) X.env = (false, eval e X.env) :: starEach es X.env := by rfl) (hpl : (backTo pos (starEach es X.env)).any (·.1) = false := by rfl)
    (ht : eval (.Call (.Attribute o m apos) (e :: es) [] pos) X.env = (do
      let ov ← eval o X.env
      standAt apos.atName
      let (f, first) ← holding [ov] (getMethod ov m pl)
      callWith pos f first (backTo pos (starEach (e :: es) X.env)) (backToKw pos (keywordEach [] X.env))) := by rfl) (hK : X.K = c.K := by rfl) (hC : cl = c.cls := by rfl) :
    DE X c (.Call (.Attribute o m apos) (e :: es) [] pos) (dMeth t fn n d dr) := wkE (pe_meth ho hc hm F hr hb .nil pass0 ha hst hpl ht) fun σ H Q ⟨ρ, H0, K, R, q, k⟩ =>
  ⟨ρ, H0, _, R, q, fun z ρ1 y H1 H01 q1 R1 S1 Dz => by
    obtain ⟨⟨p, rfl⟩, q1⟩ := q1
    have Dz' := Dz
    unfold Den at Dz'
    obtain ⟨a, dx, rfl, ea⟩ := Dz'
    exact ⟨a, dx, _, rfl, R1.same _ _ ea, lookup_ins hl p, ρ1, H01, _, R1, q1, fun ds ρ2 vs H2 H02 q2 R2 S2 Dn => meth_D hK hC q2.1 R2 (Den.mono S2 _ _ Dz) Dn q2.2 fun d ρ' v H' H0' kf R' S' D' => k _ _ _ _ _ kf R' (S1.trans (S2.trans S')) D'⟩⟩
theorem de_meth0 {cl : Nat → Addr} {pl : Sem Bool} (ho : DE X c o d) (hc : Cls X.K (c.cls t)) (hm : Meth X.K (c.cls t) m f) (F : FnOk X.prog X.w X.K X.mg X.base CX0 k f fd ps (spD (0 + 1) X.K cl fn)) (hr : Room k X.A) (hb : Binds X.K fd ps []) (hl : (m == ("size" : Str)) = false := by decide)
    (ht : eval (.Call (.Attribute o m apos) [] [] pos) X.env = (do
      let ov ← eval o X.env
      standAt apos.atName
      let (f, first) ← holding [ov] (getMethod ov m pl)
      callWith pos f first (backTo pos (starEach [] X.env)) (backToKw pos (keywordEach [] X.env))) := by rfl) (hK : X.K = c.K := by rfl) (hC : cl = c.cls := by rfl) :
    DE X c (.Call (.Attribute o m apos) [] [] pos) (dMeth t fn 0 d dNil) := wkE (pe_meth0 ho hc hm F hr hb .nil pass0 ht) fun σ H Q ⟨ρ, H0, K, R, q, k⟩ =>
  ⟨ρ, H0, _, R, q, fun z ρ1 y H1 H01 q1 R1 S1 Dz => by
    obtain ⟨⟨p, rfl⟩, q1⟩ := q1
    have Dz' := Dz
    unfold Den at Dz'
    obtain ⟨a, dx, rfl, ea⟩ := Dz'
    exact ⟨a, dx, _, rfl, R1.same _ _ ea, lookup_ins hl p, meth_D (vs := []) hK hC q1.1 R1 Dz DenL.nil q1.2 fun d ρ' v H' H0' kf R' S' D' => k _ _ _ _ _ kf R' (S1.trans S') D'⟩⟩
end
end DL
namespace DL
open PySem PySem.Spec PyProof.Rows L2
/-! ### enumerate of a tuple -/
def IteT (K : PySem.W.Frag) (a : Addr) : It :=
  ⟨fun i H => ∃ (xs : List V) (x : V), SqT K H a xs ∧ xs[i]? = some x, fun i H v H' => ∃ T x, v = .ref T ∧ H T = none ∧ H' = upd H T (.tup [.int (i : Nat), x]) ∧ ∀ xs, SqT K H a xs → xs[i]? = some x, fun i H => ∃ xs : List V, SqT K H a xs ∧ i = xs.length⟩
theorem turn_enumT {P : Program} {w : World} {K : PySem.W.Frag} {elts : List Expr} {kk : Nat} {tpos : Pos} (a e it : Addr) (hai : a ≠ it) (hae : a ≠ e) :
    Turn P w K (.Tuple elts kk tpos) (IteT K a) [e, it] e (fun i h => (∃ old, IsEnum h e it ((0 : Int) + (i : Int)) old) ∧ h.IsTupleIter it a i ∧ e ≠ it) where
  mem := by simp
  obj := fun i h st b hb => by
    obtain ⟨⟨old, he⟩, ⟨o, ho, hc, hd⟩, _⟩ := st
    have e' : b = e ∨ b = it := by simpa using hb
    rcases e' with z | z
    · rw [z]; exact ⟨_, he, fun v q => nomatch q⟩
    · rw [z]; exact ⟨o, ho, fun v q => by rw [hd] at q; cases q⟩
  keep := fun i h h' st k => let ⟨⟨old, he⟩, hi, hne⟩ := st; ⟨⟨old, k e (by simp) _ he⟩, hi.at fun o q => k it (by simp) o q, hne⟩
  item := by
    intro X hP hw hK hc i pins s σ H E I hf st hg
    subst hP hw hK
    obtain ⟨⟨old, he⟩, hit, hne⟩ := st
    obtain ⟨xs, x, hq, hx⟩ := hg
    obtain ⟨its, rv, p, hz⟩ := I.tuple hq
    obtain ⟨u, hu, ru⟩ := rv.get hx
    have D := Draws.tuple (prog := X.prog) (w := X.w) (A := X.A.in1) (I.ok.hd hc) it a hai its.toArray
    have G := GoesN.enumFrom (elts := elts) (x1 := kk) (pos := tpos) 0 D e hne (by simp; exact ⟨hne, fun z => hae z.symm⟩) (by simp)
    have hel : e < s.heap.objs.size := Heap.lt_size he
    have hil : it < s.heap.objs.size := by obtain ⟨_, q, _⟩ := hit; exact Heap.lt_size q
    have hi : i < its.toArray.size := by
      have := (List.getElem?_eq_some_iff.mp hu).1
      simpa using this
    refine G.goes i s _ _ hi ⟨⟨old, he⟩, hit, p⟩ fun v h' tk Y st' hk htk => ?_
    obtain ⟨T, t, y, rfl, hT, hy, o, ho, hoc, n, hod⟩ := Y
    have hyu : y = u := by
      have h1 : its.toArray[i]? = some y := hy
      simp only [List.getElem?_toArray] at h1
      rw [hu] at h1; cases h1; rfl
    subst hyu
    obtain ⟨⟨old', he'⟩, hit', _⟩ := st'
    have new : ObjOk X.prog X.w (upd H T (.tup [.int (i : Nat), x])) h' T (.tup [.int (i : Nat), x]) :=
      ⟨by show 2 ≤ sizeLine; decide, [.int ((0 : Int) + i) t, y], .cons ⟨t, by rw [Int.zero_add]⟩ (.cons ru .nil), ⟨o, ho, hoc, n, hod⟩⟩
    have I1 : Inv X pins σ (upd H T (.tup [.int (i : Nat), x])) { s with heap := h', toks := tk } :=
      I.turnedNew (ch := [e, it]) (fun b ob hb q => hk b ob hb q) hf hT new
    refine ⟨.ref T, _, I1, rfl, ⟨_, x, rfl, I.hok.fresh hT, rfl, fun ys hy => by rw [I.tuple_inj hy hq]; exact hx⟩, ⟨⟨old', he'⟩, hit', hne⟩, fun b hb => ?_⟩
    have hb' : b < s.heap.objs.size := by
      have e' : b = e ∨ b = it := by simpa using hb
      rcases e' with z | z
      · rw [z]; exact hel
      · rw [z]; exact hil
    rw [upd_ne (Nat.ne_of_lt (Nat.lt_of_lt_of_le hb' hT))]
    exact (hf b hb).1
  done := by
    intro X hP hw hK hc i pins s σ H E I hf st hg
    subst hP hw hK
    obtain ⟨⟨old, he⟩, hit, hne⟩ := st
    obtain ⟨xs, hq, hx⟩ := hg
    obtain ⟨its, rv, p, hz⟩ := I.tuple hq
    have hl := rv.length
    have D := Draws.tuple (prog := X.prog) (w := X.w) (A := X.A.in1) (I.ok.hd hc) it a hai its.toArray
    have G := GoesN.enumFrom (elts := elts) (x1 := kk) (pos := tpos) 0 D e hne (by simp; exact ⟨hne, fun z => hae z.symm⟩) (by simp)
    have hi : i = its.toArray.size := by simp; omega
    subst hi
    exact G.stops s (fun s1 => Inv X pins σ H s1) _ ⟨⟨old, he⟩, hit, p⟩ fun h' tk hk htk => I.turnedL (ch := [e, it]) hk hf
  self := fun A i s Q E st h => let ⟨⟨_, he⟩, _⟩ := st; wpAny_pyIter_enum he h

theorem meets_enumerate_new1 {v : Value} {o : Obj} {H : Heap → Prop} (B : Begins v o H) :
    Meets (Builtin.«enumerate.__new__» ⟨[.type "enumerate", v], []⟩) (fun _ R s => H s.heap ∧
      R (.ok (.ret (.ref (s.heap.push o).objs.size))) { s with heap := (s.heap.push o).push { cls := .type "enumerate", data := .fields #[.none, .bool false, .ref s.heap.objs.size, rawInt 0, .none, .none] } }) :=
  .of_wp fun prog w A R s h => by
    obtain ⟨hp, g, d, tk, os⟩ := s; obtain ⟨h1, h⟩ := h
    have hsub := sub_enumerate
    have q1 : ∀ {A' : Around} {E : Value → Shared → Prop} {Q : Value → Shared → Prop}, Q (.ref hp.objs.size) ⟨hp.push o, g, d, tk, os⟩ → wpAny (model prog w) A' (pyIter v) Q E ⟨hp, g, d, tk, os⟩ :=
      fun q => B.iter prog w _ _ ⟨hp, g, d, tk, os⟩ _ h1 q
    wp_walk using q1
    refine wpAny_stack_any fun st => wpAny_pure ?_
    split
    · rename_i c _ _ _ _ _
      cases (c == Value.type "enumerate")
      · wp_walk using q1
        exact ⟨_, rfl, h⟩
      · wp_walk using q1
        exact ⟨_, rfl, h⟩
    · wp_walk using q1
      exact ⟨_, rfl, h⟩
section
variable {prog : Program} {w : World} {A : Around} {E : Value → Shared → Prop} {s : Shared}
theorem enum_begins1 {v : Value} {o : Obj} {H : Heap → Prop} {Q : Value → Shared → Prop} (B : Begins v o H) (h1 : H s.heap)
    (h : ∀ h', IsEnum h' (s.heap.objs.size + 1) s.heap.objs.size 0 .none → h'.get? s.heap.objs.size = some o →
      (∀ b o, s.heap.get? b = some o → h'.get? b = some o) → Q (.ref (s.heap.objs.size + 1)) { s with heap := h' }) :
    wpAny (model prog w) A (call (.type "enumerate") [v]) Q E s := by
  refine callType_new F.called_enumerate (by decide) (F.typeCall_enumerate_1 _) (F.newCall_enumerate_1 _) (fun obj => F.args_object_init_2 obj _) F.entry_enumerate_new
    (meets_enumerate_new1 B) ⟨h1, ?_⟩
  have hz : (s.heap.push o).objs.size = s.heap.objs.size + 1 := Heap.size_push ..
  show _ ∧ _
  rw [hz]
  have he : IsEnum ((s.heap.push o).push { cls := .type "enumerate", data := .fields #[.none, .bool false, .ref s.heap.objs.size, rawInt 0, .none, .none] }) (s.heap.objs.size + 1) s.heap.objs.size 0 .none := by
    have := Heap.get?_push_size (s.heap.push o) (o := { cls := .type "enumerate", data := .fields #[.none, .bool false, .ref s.heap.objs.size, rawInt 0, .none, .none] }) rfl
    rw [hz] at this; exact this
  exact ⟨⟨_, he, rfl⟩, h _ he (Heap.get?_push_of_some _ (Heap.get?_push_size _ B.free)) fun b o x => Heap.get?_push_of_some _ (Heap.get?_push_of_some _ x)⟩
end
def iEnumA (K : PySem.W.Frag) (ta : TA) : TI := fun σ H R => ta σ H fun vs H1 => ∃ (a : Addr) (xs : List V), vs = [.ref a] ∧ ((SqL K H1 a xs ∧ R (Ite K a) H1) ∨ (SqT K H1 a xs ∧ R (IteT K a) H1))
theorem pi_enumA {X : Cx} {e : Expr} {ta : TA} {p pos tpos : Pos} {elts : List Expr} {kk : Nat} (hg : Gl X "enumerate") (hm : X.mg "enumerate" = none) (ha : PA X [e] ta) (hs : starEach [e] X.env = [(false, eval e X.env)] := by rfl) :
    PI X (.Tuple elts kk tpos) (.Call (.Name "enumerate" p) [e] [] pos) (iEnumA X.K ta) := by
  refine ⟨fun pins s σ H R I h => ?_⟩
  refine Call_ (ld_blt I hg hm boot_enumerate (PyProof.Rows.callWith_type1 (thn (ha.run pos pins s σ H _ I h) fun us s1 ⟨vs, H1, I1, r1, q1⟩ => ?_) hs rfl))
  obtain ⟨a, xs, ex, q⟩ := q1
  subst ex
  cases r1 with
  | cons r rr =>
    cases rr
    cases r
    have fr : ∀ b, b ∈ [s1.heap.objs.size + 1, s1.heap.objs.size] → FpOk X pins H1 b := fun b hb => by
      have e' : b = s1.heap.objs.size + 1 ∨ b = s1.heap.objs.size := by simpa using hb
      have hle : s1.heap.objs.size ≤ b := by
        rcases e' with z | z
        · rw [z]; exact Nat.le_add_right _ _
        · rw [z]; exact Nat.le_refl _
      exact I1.fpOk hle (I1.hok.fresh hle)
    rcases q with ⟨hq, q⟩ | ⟨hq, q⟩
    · obtain ⟨its, rv, p', hz⟩ := I1.list hq
      refine call_enumerate_list p'.isList fun h' he hit hsz hk => wpAny_pyIter_enum he ?_
      have I2 : Inv X pins σ H1 { s1 with heap := h' } := I1.kept (t' := s1.toks) hk
      exact ⟨s1.heap.objs.size + 1, [s1.heap.objs.size + 1, s1.heap.objs.size], _, _, H1, rfl, I2, turn_enum a (s1.heap.objs.size + 1) s1.heap.objs.size, ⟨⟨.none, he⟩, hit, Nat.succ_ne_self _⟩, fr, q⟩
    · obtain ⟨its, rv, p', hz⟩ := I1.tuple hq
      obtain ⟨o1, ho1, _⟩ := id p'
      have al := Heap.lt_size ho1
      refine enum_begins1 (begins_tuple a its.toArray) p' fun h' he hit hk => wpAny_pyIter_enum he ?_
      have I2 : Inv X pins σ H1 { s1 with heap := h' } := I1.kept (t' := s1.toks) hk
      exact ⟨s1.heap.objs.size + 1, [s1.heap.objs.size + 1, s1.heap.objs.size], _, _, H1, rfl, I2, turn_enumT a (s1.heap.objs.size + 1) s1.heap.objs.size (Nat.ne_of_lt al) (Nat.ne_of_lt (Nat.lt_succ_of_lt al)), ⟨⟨.none, he⟩, ⟨_, hit, rfl, rfl⟩, Nat.succ_ne_self _⟩, fr, q⟩
theorem walk_enumT {K : PySem.W.Frag} {a : Addr} {xs : List V} : Walk (IteT K a) xs.length (fun H => SqT K H a xs) (YPair (fun i => some (.int (i : Nat))) (fun i => xs[i]?)) := by
  refine ⟨fun i _ hi q => ⟨xs, xs[i], q, by simp [hi]⟩, fun _ q => ⟨xs, q, rfl⟩, fun i H v H' _ q y => ?_⟩
  obtain ⟨T, x, h1, h2, h3, h4⟩ := y
  exact ⟨T, .int (i : Nat), x, h1, h2, h3, rfl, h4 xs q⟩
/-- the numbered items -/
def numD (l : List D) : List D := pairsD (rangeD 0 l.length) l
theorem numD_get {l : List D} {i : Nat} {w : D} (h : (numD l)[i]? = some w) : ∃ y, l[i]? = some y ∧ w = .tup [.int (i : Nat), y] := by
  obtain ⟨x, y, h1, h2, rfl⟩ := pairsD_get h
  refine ⟨y, h2, ?_⟩
  have : x = .int (0 + (i : Nat)) := by
    unfold rangeD at h1
    rw [List.getElem?_map] at h1
    cases e : (List.range l.length)[i]? with
    | none => rw [e] at h1; cases h1
    | some j =>
      rw [e] at h1
      obtain ⟨_, e2⟩ := List.getElem?_eq_some_iff.mp e
      simp at e2
      subst e2
      simpa using h1.symm
  rw [this, Int.zero_add]
theorem numD_len (l : List D) : (numD l).length = l.length := by unfold numD; rw [pairsD_len]; simp [rangeD]
section
variable {X : Cx} {c : C} {e a b d : Expr} {da db : DEv} {dr : DAv} {pos p : Pos}
def iEnum (dr : DAv) : DOv := fun ρ K => dr ρ fun ds ρ1 => as1 ds fun x => asQ x fun l => K (numD l) ρ1
theorem di_enum {tpos : Pos} {elts : List Expr} {kk : Nat} (hg : Gl X "enumerate") (hm : X.mg "enumerate" = none) (ha : DA X c [a] dr) (hs : starEach [a] X.env = [(false, eval a X.env)] := by rfl) (hK : X.K = c.K := by rfl) :
    DI X c (.Tuple elts kk tpos) (.Call (.Name "enumerate" p) [a] [] pos) (iEnum dr) := wkI (pi_enumA hg hm ha hs) fun σ H R ⟨ρ, H0, K, R0, q, k⟩ => ⟨ρ, H0, _, R0, q, fun ds ρ1 vs H1 H01 q1 R1 S1 D1 => by
    obtain ⟨x, v, rfl, D1, q1⟩ := as1_d q1 D1
    cases x with
    | lst l =>
      unfold Den at D1
      obtain ⟨a1, xs, rfl, sx, ex⟩ := D1
      refine ⟨a1, xs, rfl, .inl ⟨SqL.of (R1.same _ _ sx), k _ _ _ _ _ q1 R1 S1 (dwalk_pair (by rw [numD_len, ← ex.len]; exact walk_enum (K := X.K) (a := a1) (xs := xs)) (fun H s => SqL.of (s _ _ sx)) fun i w e => ?_)⟩⟩
      obtain ⟨y, e1, rfl⟩ := numD_get e
      obtain ⟨v1, f1, g1⟩ := ex.get e1
      exact ⟨_, y, rfl, fun z hz => by cases hz; exact den_int, fun z hz => by rw [f1] at hz; cases hz; exact g1⟩
    | tup l =>
      unfold Den at D1
      obtain ⟨a1, xs, rfl, sx, ex⟩ := D1
      refine ⟨a1, xs, rfl, .inr ⟨by rw [hK]; exact sqT_same R1.same sx, k _ _ _ _ _ q1 R1 S1 (dwalk_pair (by rw [numD_len, ← ex.len]; exact walk_enumT (K := X.K) (a := a1) (xs := xs)) (fun H s => by rw [hK]; exact sqT_same s sx) fun i w e => ?_)⟩⟩
      obtain ⟨y, e1, rfl⟩ := numD_get e
      obtain ⟨v1, f1, g1⟩ := ex.get e1
      exact ⟨_, y, rfl, fun z hz => by cases hz; exact den_int, fun z hz => by rw [f1] at hz; cases hz; exact g1⟩
    | _ => exact q1.elim⟩
/-! ### reversed -/
theorem walk_revT {K : PySem.W.Frag} {a : Addr} {xs : List V} : Walk (RT.ItvT K a xs.length) xs.length (fun H => SqT K H a xs) (fun i H x H' => H' = H ∧ xs[xs.length - 1 - i]? = some x) :=
  ⟨fun i _ hi q => ⟨hi, xs, xs[xs.length - 1 - i]'(by omega), q, by simp [show xs.length - 1 - i < xs.length by omega]⟩, fun _ _ => Nat.le_refl _, fun _ _ _ _ _ q y => ⟨y.1, y.2 xs q⟩⟩
def iRev (da : DEv) : DOv := fun ρ K => da ρ fun x ρ1 => asQ x fun l => K l.reverse ρ1
theorem dwalk_rev {l : List D} {xs : List V} {J : It} {Gd : Hp → Prop} {H0 : Hp} (W : Walk J xs.length Gd (fun i H x H' => H' = H ∧ xs[xs.length - 1 - i]? = some x)) (hG : ∀ H, Same H0 H → Gd H) (d : DenL c.toG H0 l xs) : DWalk c l.reverse H0 J := by
  refine ⟨Gd, (fun i H x H' => H' = H ∧ xs[xs.length - 1 - i]? = some x), by rw [List.length_reverse, ← d.len]; exact W, hG, fun i w c' ρ σ H01 H1 v H2 hc e R S ⟨eH, ev⟩ => ?_⟩
  subst eH
  have hi : i < l.length := by have := (List.getElem?_eq_some_iff.mp e).1; simpa using this
  rw [List.getElem?_reverse hi, ← d.len] at e
  obtain ⟨u, h1, h2⟩ := d.get e
  rw [h1] at ev; cases ev
  exact ⟨H01, R, Same.refl _, Den.mono S _ _ h2⟩
theorem di_rev {tg : Expr} (hg : Gl X "reversed") (hm : X.mg "reversed" = none) (ha : DE X c a da) (hs : starEach [a] X.env = (false, eval a X.env) :: starEach [] X.env := by rfl) (hK : X.K = c.K := by rfl) :
    DI X c tg (.Call (.Name "reversed" p) [a] [] pos) (iRev da) := wkI (RT.pi_revA hg hm ha hs) fun σ H R ⟨ρ, H0, K, R0, q, k⟩ => ⟨ρ, H0, _, R0, q, fun x ρ1 v H1 H01 q1 R1 S1 D1 => by
    cases x with
    | lst l =>
      unfold Den at D1
      obtain ⟨a1, xs, rfl, sx, ex⟩ := D1
      exact ⟨a1, xs, rfl, .inl ⟨SqL.of (R1.same _ _ sx), k _ _ _ _ _ q1 R1 S1 (dwalk_rev walk_rev (fun H s => SqL.of (s _ _ sx)) ex)⟩⟩
    | tup l =>
      unfold Den at D1
      obtain ⟨a1, xs, rfl, sx, ex⟩ := D1
      exact ⟨a1, xs, rfl, .inr ⟨by rw [hK]; exact sqT_same R1.same sx, k _ _ _ _ _ q1 R1 S1 (dwalk_rev walk_revT (fun H s => by rw [hK]; exact sqT_same s sx) ex)⟩⟩
    | _ => exact q1.elim⟩
/-! ### range, downwards -/
def rangeDn (lo : Int) (n : Nat) : List D := (List.range n).map fun i => .int (lo - (i : Nat))
theorem dwalk_rangeDn {lo : Int} {n : Nat} {H0 : Hp} : DWalk c (rangeDn lo n) H0 (Itc lo (-1) n) := by
  refine ⟨fun _ => True, YFn fun i => .int (lo + (i : Nat) * (-1)), by rw [show (rangeDn lo n).length = n by simp [rangeDn]]; exact walk_rangeC, fun _ _ => trivial, fun i w c' ρ σ H01 H1 v H2 hc e R S ⟨eH, ev⟩ => ?_⟩
  subst eH ev
  have : w = .int (lo + (i : Nat) * (-1)) := by
    unfold rangeDn at e
    rw [List.getElem?_map] at e
    cases e1 : (List.range n)[i]? with
    | none => rw [e1] at e; cases e
    | some j =>
      rw [e1] at e
      obtain ⟨_, e2⟩ := List.getElem?_eq_some_iff.mp e1
      simp at e2
      subst e2
      have e' : D.int (lo - (i : Nat)) = w := by simpa using e
      rw [← e']
      congr 1
      omega
  subst this
  exact ⟨H01, R, Same.refl _, den_int⟩
def as3 (ds : List D) (k : D → D → D → Prop) : Prop := match ds with
  | [x, y, z] => k x y z
  | _ => False
theorem as3_three {x y z : D} {k : D → D → D → Prop} : as3 [x, y, z] k = k x y z := rfl
def iRange3 (dr : DAv) : DOv := fun ρ K => dr ρ fun ds ρ1 => as3 ds fun x y z => asI x fun i => asI y fun j => asI z fun m => (m = -1 ∧ -(2 ^ 62) ≤ i ∧ i < 2 ^ 62 ∧ -(2 ^ 62) ≤ j ∧ j < 2 ^ 62) ∧ K (rangeDn i (i - j).toNat) ρ1
theorem di_range3 {tg : Expr} (hg : Gl X "range") (hm : X.mg "range" = none) (ha : DA X c [a, b, d] dr) (hs : starEach [a, b, d] X.env = (false, eval a X.env) :: starEach [b, d] X.env := by rfl) (hpl : (backTo pos (starEach [b, d] X.env)).any (·.1) = false := by rfl) :
    DI X c tg (.Call (.Name "range" p) [a, b, d] [] pos) (iRange3 dr) := wkI (pi_range3 hg hm ha hs hpl) fun σ H R ⟨ρ, H0, K, R0, q, k⟩ => ⟨ρ, H0, _, R0, q, fun ds ρ1 vs H1 H01 q1 R1 S1 D1 => by
    match ds, q1 with
    | [x, y, z], q1 =>
      unfold DenL at D1
      obtain ⟨v1, r1, rfl, d1, D1⟩ := D1
      unfold DenL at D1
      obtain ⟨v2, r2, rfl, d2, D1⟩ := D1
      obtain ⟨v3, r3, rfl, d3, D1⟩ := D1
      unfold DenL at D1
      subst D1
      have q1 : asI x _ := q1
      obtain ⟨i, rfl, rfl, q1⟩ := asI_d q1 d1
      obtain ⟨j, rfl, rfl, q1⟩ := asI_d q1 d2
      obtain ⟨m, rfl, rfl, hm, q4⟩ := asI_d q1 d3
      obtain ⟨rfl, h1, h2, h3, h4⟩ := hm
      exact ⟨i, j, -1, _, rfl, RgC.neg h1 h2 h3 h4, k _ _ _ _ _ q4 R1 S1 dwalk_rangeDn⟩⟩
/-! ### an own list by == -/
def dCmpO (i : Nat) (f : D → D → D) (db : DEv) : DEv := fun ρ K => ownAt ρ i fun _ => db ρ fun y ρ1 => ownAt ρ1 i fun l => okD (.lst l) = true ∧ okD y = true ∧ K (f (.lst l) y) ρ1
def eqB (x y : D) : D := .bl (eqD x y)
def neB (x y : D) : D := .bl (!eqD x y)
theorem cmpO_d {i : Nat} {g : D → D → D} {gb : Bool → Bool} (hg : ∀ x y, g x y = .bl (gb (eqD x y))) (hK : X.K = c.K) {σ : L2.St} {H : Hp} {Q : VK} {tb : TE} (hb : tb = tD c db) (q : tD c (dCmpO i g db) σ H Q) :
    tOp (fun x y H Q => ∃ d e, Dp X.K H x d ∧ Dp X.K H y e ∧ SeqAt.shaped d = true ∧ SeqAt.shaped e = true ∧ Q (.bl (gb (PyData.eqv d e))) H) (tVar i) tb σ H Q := by
  subst hb
  obtain ⟨ρ, H0, K, ⟨L0, R0⟩, q, k⟩ := q
  obtain ⟨l0, e0, q⟩ := ownAt_d q
  obtain ⟨v0, _⟩ := R0.own i l0 e0
  refine ⟨_, v0, ρ, H0, _, ⟨L0, R0⟩, q, fun y ρ1 v2 H2 H02 q2 ⟨L, R2⟩ S2 D2 => ?_⟩
  obtain ⟨l, e, h1, h2, q2⟩ := ownAt_d q2
  obtain ⟨e1, e2, e3, xs, e4, e5⟩ := R2.own i l e
  rw [v0] at e1
  have e1' : L0 i = L i := by simpa using e1
  unfold okD at h1 h2
  rw [Bool.and_eq_true] at h1 h2
  have pl : plainL l = true := by have := h1.1; unfold plainD at this; exact this
  refine ⟨.list (pyL l), pyD y, by rw [hK, e1']; exact .lst (SqL.of e4) (DenL.dp R2.same l xs e5 pl), by rw [hK]; exact Den.dp R2.same _ _ D2 h2.1, h1.2, h2.2, ?_⟩
  have := k _ _ _ _ _ q2 ⟨L, R2⟩ S2 (by rw [hg]; exact den_bl)
  exact this
theorem de_eqO {i : Nat} (ho : OpR X (compareOp .Eq) (rEqD X.K)) (ha : PE X a (tVar i)) (hb : DE X c b db) (hm : behindInMarks .Eq b = false) (hK : X.K = c.K := by rfl) : DE X c (.Compare a [.Eq] [b] pos) (dCmpO i eqB db) :=
  wkE (pe_cmpR ho ha hb hm) fun σ H Q q => cmpO_d (gb := id) (fun _ _ => rfl) hK rfl q
theorem de_neO {i : Nat} (ho : OpR X (compareOp .NotEq) (rNeD X.K)) (ha : PE X a (tVar i)) (hb : DE X c b db) (hm : behindInMarks .NotEq b = false) (hK : X.K = c.K := by rfl) : DE X c (.Compare a [.NotEq] [b] pos) (dCmpO i neB db) :=
  wkE (pe_cmpR ho ha hb hm) fun σ H Q q => cmpO_d (gb := Bool.not) (fun _ _ => rfl) hK rfl q
theorem tB_d {t : TE} {d : DEv} (w : ∀ σ H Q, tD c d σ H Q → t σ H Q) : ∀ σ H Q, tT c (dB d) σ H Q → tTest t σ H Q := fun σ H Q ⟨ρ, H0, K, R, q, k⟩ => w σ H _ ⟨ρ, H0, _, R, q, fun z ρ1 v H1 H01 q1 R1 S1 D1 => by
    obtain ⟨b, e, q2⟩ := asB_d q1 D1
    exact ⟨b, e, k _ _ _ _ q2 R1 S1⟩⟩
theorem dt_eqO {i : Nat} (ho : OpR X (compareOp .Eq) (rEqD X.K)) (ha : PE X a (tVar i)) (hb : DE X c b db) (hm : behindInMarks .Eq b = false) (hK : X.K = c.K := by rfl) : DT X c (.Compare a [.Eq] [b] pos) (dB (dCmpO i eqB db)) :=
  wkT (pt_cmpR ho ha hb hm) (tB_d fun σ H Q q => cmpO_d (gb := id) (fun _ _ => rfl) hK rfl q)
theorem dt_neO {i : Nat} (ho : OpR X (compareOp .NotEq) (rNeD X.K)) (ha : PE X a (tVar i)) (hb : DE X c b db) (hm : behindInMarks .NotEq b = false) (hK : X.K = c.K := by rfl) : DT X c (.Compare a [.NotEq] [b] pos) (dB (dCmpO i neB db)) :=
  wkT (pt_cmpR ho ha hb hm) (tB_d fun σ H Q q => cmpO_d (gb := Bool.not) (fun _ _ => rfl) hK rfl q)
/-! ### what is never reached -/
def dNever : DSv := fun _ _ => False
theorem ds_never {s : Stmt} : DS X c s dNever := ⟨fun pins st σ H E I ⟨_, _, _, _, q, _⟩ => q.elim⟩
/-! ### the module's own constants -/
structure KCst (K : PySem.W.Frag) (mg : Str → Option Value) (x : Str) (d : D) : Prop where
  at_ : ∃ v u, mg x = some u ∧ RelV v u ∧ ∀ sd cls H, Den ⟨K, sd, cls⟩ H d v
theorem de_k {x : Str} {d : D} (k : KCst X.K X.mg x d) (hg : Gl X x) (hd : (x == ("__debug__" : Str)) = false := by decide) (hK : X.K = c.K := by rfl) : DE X c (.Name x pos) (dC d) := by
  obtain ⟨v, u, h1, h2, h3⟩ := k.at_
  refine wkE (pe_glob hg h1 h2 hd) fun σ H Q ⟨ρ, H0, K, R, q, k⟩ => k _ _ _ _ H0 q R (Same.refl _) (by rw [hK] at h3; exact h3 c.sd c.cls H0)
end
end DL
namespace DL
open PySem PySem.Spec PyProof.Rows L2
section
variable {X : Cx} {c : C} {e a b d : Expr} {da db dd : DEv} {dr : DAv} {pos p : Pos}
/-! ### a < b < c -/
def dChain (f g : F2) (da db dd : DEv) : DEv := fun ρ K => da ρ fun x ρ1 => db ρ1 fun y ρ2 => f x y fun z => asB z fun k => Br k (dd ρ2 fun w ρ3 => g y w fun u => K u ρ3) (K (.bl false) ρ2)
theorem chain_d {r r' : R2} {f g : F2} (rd : R2D c r f) (rd' : R2D c r' g) {σ : L2.St} {H : Hp} {Q : VK} (q : tD c (dChain f g da db dd) σ H Q) : tChain r r' (tD c da) (tD c db) (tD c dd) σ H Q := by
  obtain ⟨ρ, H0, K, R, q, k⟩ := q
  refine ⟨ρ, H0, _, R, q, fun x ρ1 v1 H1 H01 q1 R1 S1 D1 => ⟨ρ1, H01, _, R1, q1, fun y ρ2 v2 H2 H02 q2 R2 S2 D2 => ?_⟩⟩
  refine rd ρ2 σ H02 H2 x y v1 v2 _ _ R2 (Den.mono S2 _ _ D1) D2 q2 fun z v3 H3 H03 q3 R3 S3 D3 => ?_
  obtain ⟨b, rfl, q3⟩ := asB_d q3 D3
  refine ⟨b, rfl, ?_⟩
  cases b with
  | false =>
    rw [if_neg Bool.false_ne_true]
    exact k _ _ _ _ _ (q3.2 rfl) R3 (S1.trans (S2.trans S3)) den_bl
  | true =>
    rw [if_pos rfl]
    refine ⟨ρ2, H03, _, R3, q3.1 rfl, fun w ρ4 v4 H4 H04 q4 R4 S4 D4 => ?_⟩
    refine rd' ρ4 σ H04 H4 y w v2 v4 _ _ R4 (Den.mono (S3.trans S4) _ _ D2) D4 q4 fun u v5 H5 H05 q5 R5 S5 D5 => ?_
    exact k _ _ _ _ _ q5 R5 (S1.trans (S2.trans (S3.trans (S4.trans S5)))) D5
theorem de_chain {op op' : CmpOp} {r r' : R2} {f g : F2} (ho : OpR X (compareOp op) r) (rd : R2D c r f) (ho' : OpR X (compareOp op') r') (rd' : R2D c r' g) (ha : DE X c a da) (hb : DE X c b db) (hd : DE X c d dd)
    (hm : lastMarks [op, op'] [b, d] = false := by with_unfolding_all rfl) : DE X c (.Compare a [op, op'] [b, d] pos) (dChain f g da db dd) := wkE (pe_chain ho ho' ha hb hd hm) fun σ H Q q => chain_d rd rd' q
theorem dt_chain {op op' : CmpOp} {r r' : R2} {f g : F2} (ho : OpR X (compareOp op) r) (rd : R2D c r f) (ho' : OpR X (compareOp op') r') (rd' : R2D c r' g) (ha : DE X c a da) (hb : DE X c b db) (hd : DE X c d dd)
    (hm : lastMarks [op, op'] [b, d] = false := by with_unfolding_all rfl) : DT X c (.Compare a [op, op'] [b, d] pos) (dB (dChain f g da db dd)) := wkT (pt_chain ho ho' ha hb hd hm) (tB_d fun σ H Q q => chain_d rd rd' q)
end
end DL
namespace DL
open PySem PySem.Spec PyProof.Rows L2
theorem denL_ints {g : DL.G} {H : Hp} : ∀ l : List Int, DenL g H (l.map D.int) (l.map V.int)
  | [] => DenL.nil
  | i :: l => DenL.cons den_int (denL_ints l)
theorem kcst_tup {K : PySem.W.Frag} {mg : Str → Option Value} {x : Str} {a : Addr} {xs : List Int} {its : Array Value} {nk : Nat} (h : mg x = some (.ref a)) (l : K.lookup a = some ⟨.type "tuple", none, .seq its nk, #[]⟩) (hz : its.size ≤ 1000) (hv : Vals (xs.map V.int) its.toList) :
    KCst K mg x (.tup (xs.map D.int)) := by
  refine ⟨.ref a, .ref a, h, rfl, fun sd cls H => ?_⟩
  unfold Den
  exact ⟨a, _, rfl, .inr ⟨_, its, nk, l, rfl, rfl, Nat.le_trans hz (by decide), hv⟩, denL_ints xs⟩
end DL
namespace DL
open PySem PySem.Spec PyProof.Rows L2
/-! ### an own list lent to an expression that tells something flat -/
def flatD : D → Bool
  | .non => true
  | .bl _ => true
  | .int _ => true
  | .str _ => true
  | _ => false
theorem fl_bl {b : Bool} : flatD (.bl b) = true := rfl
theorem Den.flat {g : DL.G} {H H' : Hp} {d : D} {v : V} (h : Den g H d v) (f : flatD d = true) : Den g H' d v := by
  cases d <;> first | (simp [flatD] at f; done) | (unfold Den at h ⊢; exact h)
/-- slot i's list is read as it stands, and is own again behind it -/
def dBor (i : Nat) (d : DEv) : DEv := fun ρ K => ownAt ρ i fun l => d (noOwn (ρ.1.set i (some (.v (.lst l)))), ρ.2) fun x ρ1 => flatD x = true ∧ K x (ρ.1, ρ1.2)
theorem RelL.hide {c : C} {ρ : En} {σ : L2.St} {H0 H : Hp} {L : Nat → Addr} (R : RelL c ρ σ H0 H L) : RelL (c.here H0 H) (noOwn ρ.1, ρ.2) σ H0 H L where
  toRelG := R.toRelG.enter
  len := by
    show (noOwn ρ.1).length = _
    rw [← R.len]; simp [noOwn]
  val := fun i d e => by
    obtain ⟨d', h3, h4⟩ := noOwn_get e
    cases h3
    exact R.val i d h4
  own := fun i l e => by
    obtain ⟨d', h3, h4⟩ := noOwn_get e
    cases h3
  inj := fun i j l l' e e' z => by
    obtain ⟨d', h3, h4⟩ := noOwn_get e
    cases h3
  pin := fun i v e => by
    obtain ⟨d', h3, h4⟩ := noOwn_get e
    cases h3
section
variable {c : C}
theorem RelL.stillU {ρ : En} {σ : L2.St} {H0 H : Hp} {L : Nat → Addr} (R : RelL c ρ σ H0 H L) {i : Nat} {l : List D} (e : ρ.1[i]? = some (some (Sl.own l))) :
    ∃ xs, H (L i) = some (.lst xs) ∧ RelL c (ρ.1.set i (some (Sl.v (.lst l))), ρ.2) σ (upd H0 (L i) (.lst xs)) H L ∧ Same H0 (upd H0 (L i) (.lst xs)) := by
  obtain ⟨e1, e2, e3, xs, e4, e5⟩ := R.own i l e
  have sm : Same H0 (upd H0 (L i) (.lst xs)) := same_upd e2
  have hi : i < ρ.1.length := (List.getElem?_eq_some_iff.mp e).1
  have dn : Den c.toG (upd H0 (L i) (.lst xs)) (.lst l) (.ref (L i)) := den_lst upd_same (DenL.mono sm _ _ e5)
  refine ⟨xs, e4, ⟨⟨fun b u q => ?_, R.keep, fun b u q => sm _ _ (R.base b u q), fun b q z => ?_, R.stt⟩, ?_, fun j d q => ?_, fun j m q => ?_, fun j k m m' q q' => ?_, fun j v q => ?_⟩, sm⟩
  · by_cases z : b = L i
    · subst z; rw [upd_same] at q; rw [e4]; exact q
    · rw [upd_ne z] at q; exact R.same b u q
  · have : b ≠ L i := fun y => z (by rw [y]; exact e3)
    rw [upd_ne this]; exact R.new b q z
  · show (ρ.1.set i _).length = _
    rw [List.length_set]; exact R.len
  · by_cases hj : j = i
    · subst hj
      have q : (ρ.1.set j (some (Sl.v (.lst l))))[j]? = some (some (Sl.v d)) := q
      rw [List.getElem?_set_self hi] at q
      have : d = .lst l := by simpa using q.symm
      subst this
      exact ⟨_, e1, dn⟩
    · have q : (ρ.1.set i (some (Sl.v (.lst l))))[j]? = some (some (Sl.v d)) := q
      rw [List.getElem?_set_ne (Ne.symm hj)] at q
      obtain ⟨v, f1, f2⟩ := R.val j d q
      exact ⟨v, f1, Den.mono sm _ _ f2⟩
  · have q : (ρ.1.set i (some (Sl.v (.lst l))))[j]? = some (some (Sl.own m)) := q
    by_cases hj : j = i
    · subst hj
      rw [List.getElem?_set_self hi] at q
      cases q
    · rw [List.getElem?_set_ne (Ne.symm hj)] at q
      obtain ⟨f1, f2, f3, ys, f4, f5⟩ := R.own j m q
      have ne : L j ≠ L i := fun z => hj (R.inj j i m l q e z)
      exact ⟨f1, by rw [upd_ne ne]; exact f2, f3, ys, f4, DenL.mono sm _ _ f5⟩
  · have q : (ρ.1.set i (some (Sl.v (.lst l))))[j]? = some (some (Sl.own m)) := q
    have q' : (ρ.1.set i (some (Sl.v (.lst l))))[k]? = some (some (Sl.own m')) := q'
    by_cases hj : j = i
    · subst hj; rw [List.getElem?_set_self hi] at q; cases q
    · by_cases hk : k = i
      · subst hk; rw [List.getElem?_set_self hi] at q'; cases q'
      · rw [List.getElem?_set_ne (Ne.symm hj)] at q
        rw [List.getElem?_set_ne (Ne.symm hk)] at q'
        exact R.inj j k m m' q q'
  · have q : (ρ.1.set i (some (Sl.v (.lst l))))[j]? = some (some (Sl.pin v)) := q
    by_cases hj : j = i
    · subst hj; rw [List.getElem?_set_self hi] at q; cases q
    · rw [List.getElem?_set_ne (Ne.symm hj)] at q; exact R.pin j v q
end
section
variable {X : Cx} {c : C} {e : Expr} {d : DEv}
theorem de_bor {i : Nat} (h : ∀ Hs H0s : Hp, DE X ⟨c.toG, Hs, H0s⟩ e d) : DE X c e (dBor i d) := ⟨fun pins s σ H Q I ⟨ρ, H0, K, ⟨L, R⟩, q, k⟩ => by
  obtain ⟨l, ei, q⟩ := ownAt_d q
  obtain ⟨xs, hx, R', S'⟩ := R.stillU ei
  obtain ⟨_, n0, ns, xs0, hx0, dx0⟩ := R.own i l ei
  refine (h H (upd H0 (L i) (.lst xs))).run pins s σ H Q I ⟨_, _, _, ⟨L, R'.hide⟩, q, fun x ρ1 v H1 H01 q1 ⟨L1, R1⟩ S1 D1 => ?_⟩
  obtain ⟨f1, q1⟩ := q1
  let H2 : Hp := fun b => if b = L i then none else H01 b
  have h2n : ∀ b, b ≠ L i → H2 b = H01 b := fun b z => if_neg z
  have h2s : H2 (L i) = none := if_pos rfl
  have S02 : Same H0 H2 := fun b o e => by
    have z : b ≠ L i := fun z => by rw [z, n0] at e; cases e
    rw [h2n b z]; exact S1 _ _ (S' _ _ e)
  have G : RelG (c.here H0 H) ρ1.2 H2 H1 := by
    refine ⟨fun b o e => ?_, R1.keep, S02, fun b e z => ?_, fun p hp => ?_⟩
    · by_cases z : b = L i
      · rw [z, h2s] at e; cases e
      · rw [h2n b z] at e; exact R1.same b o e
    · by_cases y : b = L i
      · rw [y]; exact h2s
      · rw [h2n b y]
        refine R1.new b ?_ z
        show upd H0 (L i) _ b = none
        rw [upd_ne y]; exact e
    · obtain ⟨a1, a2, a3, a4, a5⟩ := R1.stt p hp
      obtain ⟨b1, b2, b3, b4, b5⟩ := R.stt p hp
      exact ⟨a1, ⟨(R.toRelG.sttO hp).1, a2.2⟩, ⟨(R.toRelG.sttO hp).2, a3.2⟩, a4, a5⟩
  exact k x (ρ.1, ρ1.2) v H1 H2 q1 ⟨L, R.back G⟩ S02 (D1.flat f1)⟩
end
end DL
namespace DL
open PySem PySem.Spec PyProof.Rows L2
/-! ### displays of written things: read at once -/
section
variable {X : Cx} {c : C} {e : Expr} {es : List Expr} {pos : Pos} {d : D} {l : List D}
def dLit (l : List D) : DAv := fun ρ K => K l ρ
def dLitO (l : List D) : DOv := fun ρ K => K l ρ
theorem da_lit0 : DA X c [] (dLit []) := da_nil
theorem da_lit (ha : DE X c e (dC d)) (hr : DA X c es (dLit l)) (hs : starEach (e :: es) X.env = (false, eval e X.env) :: starEach es X.env := by rfl) : DA X c (e :: es) (dLit (d :: l)) := da_cons ha hr hs
theorem de_tupL {x1} (h : DA X c es (dLit l)) (hl : l.length ≤ 1000000 := by decide) : DE X c (.Tuple es x1 pos) (dC (.tup l)) := wkE (de_tup h) fun σ H Q ⟨ρ, H0, K, R, q, k⟩ => ⟨ρ, H0, K, R, ⟨hl, q⟩, k⟩
theorem do_lstL (h : DA X c es (dLit l)) (hl : l.length ≤ 1000000 := by decide) : DO X c (.List es pos) (dLitO l) := wkE (do_lst h) fun σ H Q ⟨ρ, H0, K, R, q, k⟩ => ⟨ρ, H0, K, R, ⟨hl, q⟩, k⟩
theorem de_negC {i : Int} (ha : DE X c e (dC (.int i))) : DE X c (.UnaryOp .USub e pos) (dC (.int (-i))) := de_neg ha
theorem de_lstL (h : DA X c es (dLit l)) (hl : l.length ≤ 1000000 := by decide) : DE X c (.List es pos) (dC (.lst l)) := DO.val (do_lstL h hl)
end
end DL
namespace DL
open PySem PySem.Spec PyProof.Rows L2
section
variable {X : Cx} {c : C} {e a b : Expr} {db : DEv} {pos : Pos}
/-- an own list + .. : a new one, the own one stands -/
def dCatO (i : Nat) (db : DEv) : DOv := fun ρ K => ownAt ρ i fun _ => db ρ fun y ρ1 => ownAt ρ1 i fun l => asL y fun m => Mil (l.length + m.length) ∧ K (l ++ m) ρ1
theorem do_catO {i : Nat} (ha : PE X a (tVar i)) (hb : DE X c b db) : DO X c (.BinOp a .Add b pos) (dCatO i db) := wkE (pe_op op_cat ha hb) fun σ H Q ⟨ρ, H0, K, ⟨L0, R0⟩, q, k⟩ => by
  obtain ⟨l0, e0, q⟩ := ownAt_d q
  obtain ⟨v0, _⟩ := R0.own i l0 e0
  refine ⟨_, v0, ρ, H0, _, ⟨L0, R0⟩, q, fun y ρ1 v2 H2 H02 q2 ⟨L, R2⟩ S2 D2 => ?_⟩
  obtain ⟨l, e, q2⟩ := ownAt_d q2
  obtain ⟨e1, e2, e3, xs, e4, e5⟩ := R2.own i l e
  rw [v0] at e1
  have e1' : L0 i = L i := by simpa using e1
  obtain ⟨m, b, ys, rfl, sy, ey, h1, q2⟩ := asL_d q2 D2
  refine ⟨L0 i, b, xs, ys, rfl, rfl, by rw [e1']; exact e4, R2.same _ _ sy, by rw [e5.len, ey.len]; exact mil h1, fun p hp => ?_⟩
  obtain ⟨r, f⟩ := Rel.newO ⟨L, R2⟩ hp (e5.app ey)
  exact k _ _ _ _ _ q2 r S2 f
end
end DL
namespace DL
open PySem PySem.Spec PyProof.Rows L2
/-! ### an own list lent to an expression that tells something flat, or a tuple of such -/
def flatT : D → Bool
  | .tup l => l.all flatD
  | d => flatD d
theorem flT_bl {b : Bool} : flatT (.bl b) = true := rfl
theorem DenL.flat {g : DL.G} {H H' : Hp} : ∀ {l : List D} {xs : List V}, DenL g H l xs → l.all flatD = true → DenL g H' l xs
  | [], xs, d, _ => by unfold DenL at d ⊢; exact d
  | x :: l, xs, d, f => by
    unfold DenL at d ⊢
    obtain ⟨v, r, e, d1, d2⟩ := d
    rw [List.all_cons, Bool.and_eq_true] at f
    exact ⟨v, r, e, d1.flat f.1, d2.flat f.2⟩
theorem Den.flatT {g : DL.G} {H H2 : Hp} {d : D} {v : V} {p : Addr} {xs : List V} (h : Den g H d v) (f : flatT d = true) (hp : H p = some (.lst xs)) (h2 : ∀ b, b ≠ p → H2 b = H b) : Den g H2 d v := by
  cases d with
  | tup l =>
    unfold Den at h ⊢
    obtain ⟨a, ys, e, s, dl⟩ := h
    refine ⟨a, ys, e, ?_, dl.flat f⟩
    rcases s with s | s
    · left
      rcases s with s | ⟨o, s⟩
      · exact .inl (by rw [h2 a (fun z => by rw [z, hp] at s; cases s)]; exact s)
      · exact .inr ⟨o, by rw [h2 a (fun z => by rw [z, hp] at s; cases s)]; exact s⟩
    · exact .inr s
  | non => exact h.flat f
  | bl b => exact h.flat f
  | int i => exact h.flat f
  | str s => exact h.flat f
  | lst l => exact absurd f (by simp [DL.flatT, flatD])
  | stt => exact absurd f (by simp [DL.flatT, flatD])
  | ins t n => exact absurd f (by simp [DL.flatT, flatD])
/-- slot i's list is read as it stands, and is own again behind it -/
def dBorT (i : Nat) (d : DEv) : DEv := fun ρ K => ownAt ρ i fun l => d (noOwn (ρ.1.set i (some (.v (.lst l)))), ρ.2) fun x ρ1 => flatT x = true ∧ K x (ρ.1, ρ1.2)
section
variable {X : Cx} {c : C} {e : Expr} {d : DEv}
theorem de_borT {i : Nat} (h : ∀ Hs H0s : Hp, DE X ⟨c.toG, Hs, H0s⟩ e d) : DE X c e (dBorT i d) := ⟨fun pins s σ H Q I ⟨ρ, H0, K, ⟨L, R⟩, q, k⟩ => by
  obtain ⟨l, ei, q⟩ := ownAt_d q
  obtain ⟨xs, hx, R', S'⟩ := R.stillU ei
  obtain ⟨_, n0, ns, xs0, hx0, dx0⟩ := R.own i l ei
  refine (h H (upd H0 (L i) (.lst xs))).run pins s σ H Q I ⟨_, _, _, ⟨L, R'.hide⟩, q, fun x ρ1 v H1 H01 q1 ⟨L1, R1⟩ S1 D1 => ?_⟩
  obtain ⟨f1, q1⟩ := q1
  let H2 : Hp := fun b => if b = L i then none else H01 b
  have h2n : ∀ b, b ≠ L i → H2 b = H01 b := fun b z => if_neg z
  have h2s : H2 (L i) = none := if_pos rfl
  have S02 : Same H0 H2 := fun b o e => by
    have z : b ≠ L i := fun z => by rw [z, n0] at e; cases e
    rw [h2n b z]; exact S1 _ _ (S' _ _ e)
  have G : RelG (c.here H0 H) ρ1.2 H2 H1 := by
    refine ⟨fun b o e => ?_, R1.keep, S02, fun b e z => ?_, fun p hp => ?_⟩
    · by_cases z : b = L i
      · rw [z, h2s] at e; cases e
      · rw [h2n b z] at e; exact R1.same b o e
    · by_cases y : b = L i
      · rw [y]; exact h2s
      · rw [h2n b y]
        refine R1.new b ?_ z
        show upd H0 (L i) _ b = none
        rw [upd_ne y]; exact e
    · obtain ⟨a1, a2, a3, a4, a5⟩ := R1.stt p hp
      obtain ⟨b1, b2, b3, b4, b5⟩ := R.stt p hp
      exact ⟨a1, ⟨(R.toRelG.sttO hp).1, a2.2⟩, ⟨(R.toRelG.sttO hp).2, a3.2⟩, a4, a5⟩
  exact k x (ρ.1, ρ1.2) v H1 H2 q1 ⟨L, R.back G⟩ S02 (D1.flatT f1 (S1 _ _ upd_same) h2n)⟩
end
/-! ### x.reverse() -/
theorem DenL.reverse {g : G} {H : Hp} : ∀ {l : List D} {xs : List V}, DenL g H l xs → DenL g H l.reverse xs.reverse
  | [], xs, d => by unfold DenL at d; subst d; exact DenL.nil
  | x :: l, xs, d => by
    unfold DenL at d
    obtain ⟨v, r, rfl, d1, d2⟩ := d
    rw [List.reverse_cons, List.reverse_cons]
    exact d2.reverse.app (DenL.cons d1 DenL.nil)
section
variable {X : Cx} {c : C} {pos : Pos}
def dTurn (i : Nat) : DSv := fun B ρ => ownAt ρ i fun l => B.nx (setO ρ i l.reverse)
theorem ds_turn {i : Nat} {apos cpos : Pos} {o : Expr} (ho : PE X o (tVar i))
    (hbase : attributeBase o "reverse" X.env (eval o X.env) = eval o X.env := by rfl) (hline : (apos.endLine == cpos.line) = true := by rfl)
    (hsw : swapsWith (.Call (.Attribute o "reverse" apos) [] [] cpos) none pos.line X.env = pure false := by rfl) : DS X c (.Expr (.Call (.Attribute o "reverse" apos) [] [] cpos) pos) (dTurn i) :=
  wkS (ps_expr (pe_bm0 PySem.F.plainAttrs_list PySem.F.slot_list_reverse PySem.F.type_list_reverse mt_reverse ho hbase hline) hsw) fun E σ H ⟨ρ, H0, B, ⟨L, R⟩, q, k⟩ => by
    obtain ⟨l, e, q⟩ := ownAt_d q
    obtain ⟨v0, _, _, xs, h0, d0⟩ := R.own i l e
    exact ⟨_, v0, .inl ⟨rfl, xs, SqL.of h0⟩, L i, xs, rfl, rfl, h0, k.nx _ _ H0 _ q ⟨L, R.mut e d0.reverse⟩ (Same.refl _)⟩
/-! ### a, b = a list or a tuple -/
def aTupQ (n : Nat) (t : DGs) : DGv := fun x ρ K => asQ x fun l => l.length = n ∧ t l ρ K
theorem dg_tupQ {es : List Expr} {ts : List Nat} {t : DGs} {kk n : Nat} (hc : X.calm = true) (h : PGs X es (tGs c ts t)) (hn : (assignEach es X.env).length = n := by rfl) (hst : (assignEach es X.env).findIdx? (·.1) = none := by rfl) (hK : X.K = c.K := by rfl) : DG X c ts (.Tuple es kk pos) (aTupQ n t) :=
  ⟨fun pins s σ H v u Q I r ⟨ρ, H0, d, K, R, D, q, k⟩ => by
    obtain ⟨l, a, xs, rfl, sx, ex, hl, q⟩ := asQ_d q D
    rcases sx with sx | sx
    · exact (pg_unl hc h hn hst).run pins s σ H _ u Q I r ⟨a, xs, rfl, SqL.of (R.same _ _ sx), by rw [ex.len]; exact hl, ρ, H0, l, K, R, ex, q, k⟩
    · exact (pg_tup hc h hn hst).run pins s σ H _ u Q I r ⟨a, xs, rfl, by rw [hK]; exact sqT_same R.same sx, by rw [ex.len]; exact hl, ρ, H0, l, K, R, ex, q, k⟩⟩
/-! ### a slice of a list: a new one -/
def dSlO (da : DEv) (dl dh : DPv) : DOv := fun ρ K => da ρ fun x ρ1 => dl ρ1 fun lo ρ2 => dh ρ2 fun hi ρ3 => asL x fun l => K (cutD l lo hi) ρ3
theorem do_sl {a : Expr} {da : DEv} {lo hi : Option Expr} {dl dh : DPv} {p2 : Pos} (ha : DE X c a da) (hl : DP X c lo dl) (hh : DP X c hi dh) : DO X c (.Subscript a (.Slice lo hi none p2) pos) (dSlO da dl dh) :=
  wkE (pe_slice sl_list ha hl hh) fun σ H Q ⟨ρ, H0, K, R, q, k⟩ => ⟨ρ, H0, _, R, q, fun x ρ1 v1 H1 H01 q1 R1 S1 D1 => ⟨ρ1, H01, _, R1, q1, fun o1 ρ2 H2 H02 q2 R2 S2 => ⟨ρ2, H02, _, R2, q2, fun o2 ρ3 H3 H03 q3 R3 S3 => by
    have D3 := Den.mono (S2.trans S3) _ _ D1
    have S := S1.trans (S2.trans S3)
    obtain ⟨l, a, xs, rfl, sx, ex, q3⟩ := asL_d q3 D3
    refine ⟨a, xs, rfl, SqL.of (R3.same _ _ sx), fun p hp => ?_⟩
    obtain ⟨r, f⟩ := Rel.newO R3 hp (ex.cut o1 o2)
    exact k _ _ _ _ _ q3 r S f⟩⟩⟩
end
end DL
namespace DL
open PySem PySem.Spec PyProof.Rows L2 RT
/-! ### list(reversed(x)), x a list -/
section
variable {prog : Program} {w : World} {A : Around} {E : Value → Shared → Prop} {s : Shared}
theorem extend_rev {R : Result → Shared → Prop} {it l S : Addr} {items : Array Value} (hh : A.handled = none) (hit : s.heap.IsRevIter it l ((items.size : Int) - 1)) (hl : s.heap.IsList l items) (hne : l ≠ it) (hSi : S ≠ it) (hSl : S ≠ l) (res : Value) (c₀ : Nat)
    (hS : s.heap.get? S = some { cls := .type "list", data := .seq #[] c₀ }) (hn : items.size ≤ sizeLine)
    (hR : ∀ h' tk acc' c', (∀ b o, b ≠ S → b ≠ it → s.heap.get? b = some o → h'.get? b = some o) → h'.get? S = some { cls := .type "list", dict := none, data := .seq acc' c', slots := #[] } →
      ItemsOf (fun i v => items[items.size - 1 - i]? = some v) acc' items.size → R (.ok (.ret res)) { s with heap := h', toks := tk }) :
    wpAny (model prog w) A.in1 (Builtin.List.listExtendWith (.ref S) (.ref it) res)
      (fun fin s' => match fin with | .done f => R (.ok f) s' | .again c' => c'.quiet = true ∧ codeAny (model prog w) A c' R s') (fun e s' => R (.error e) s') s := by
  have W := (Walks.listRev (prog := prog) (w := w) (A := A.in1) hh it l hne items).toS
  have hSf : S ∉ [it, l] := by simp only [List.mem_cons, List.not_mem_nil, or_false, not_or]; exact ⟨hSi, hSl⟩
  have hT : s.TypeIs (.ref it) "list_reverseiterator" := hit.typeIs
  have h1 : Builtin.List.listSameRef (.ref S) (.ref it) = false := by simp [Builtin.List.listSameRef, hSi]
  unfold Builtin.List.listExtendWith
  refine wpAny_bind (wpAny_typeOf hT ?_)
  rw [if_neg (by rw [h1]; decide)]
  refine wpAny_bind (wpAny_pyIter_revIter hit ?_)
  refine wpAny_bind (wpAny_holding ?_)
  unfold Builtin.List.listLengthHint
  refine wpAny_bind (wpAny_specialOf hT nolen_lri ?_)
  show wpAny _ A.in1 (specialOf (Value.ref it) (Str.ofString "__length_hint__") >>= _) _ _ _
  refine wpAny_bind (wpAny_specialOf hT hint_lri ?_)
  generalize hid : ("list_reverseiterator.__length_hint__" : String) = id0
  wp_delta
  rw [show splitId id0 = some ("list_reverseiterator", "__length_hint__") from by subst hid; decide +kernel]
  subst hid
  refine wpAny_bind (wpAny_isInstance (b := true) hT (by rw [isSubtype_type]; kernel_rfl) ?_)
  refine wpAny_pure ?_
  rw [if_neg (by decide)]
  have e0 : ((items.size : Nat) : Int) - 1 - ((0 : Nat) : Int) = (items.size : Int) - 1 := by omega
  refine wpAny_pure ⟨plainId_quiet F.plain_extend_loop _, codeAny_extend_loopS W hn _ hSf _ items.size 0 _ _ _ rfl (Nat.zero_le _) ⟨Nat.zero_le _, by rw [e0]; exact hit, hl⟩ hS (ItemsOf.nil _) fun s' acc' c' hm hS' hacc => ?_⟩
  rw [Moved.eq_with hm]
  refine hR s'.heap s'.toks acc' c' (fun b ob hb hb2 e => hm.heap b ob (fun hmem => ?_) e) hS' hacc
  rcases List.mem_cons.mp hmem with e' | hmem
  · exact hb e'
  · exact hb2 (List.mem_singleton.mp hmem)

theorem list_init_rev {R : Result → Shared → Prop} {it l S : Addr} {items : Array Value} (hh : A.handled = none) (hit : s.heap.IsRevIter it l ((items.size : Int) - 1)) (hl : s.heap.IsList l items) (hne : l ≠ it) (hSi : S ≠ it) (hSl : S ≠ l)
    (hS : s.heap.get? S = some { cls := .type "list", data := .seq #[] }) (hn : items.size ≤ sizeLine)
    (hR : ∀ h' tk acc' c', (∀ b o, b ≠ S → b ≠ it → s.heap.get? b = some o → h'.get? b = some o) → h'.get? S = some { cls := .type "list", dict := none, data := .seq acc' c', slots := #[] } →
      ItemsOf (fun i v => items[items.size - 1 - i]? = some v) acc' items.size → R (.ok (.ret .none)) { s with heap := h', toks := tk }) :
    wpAny (model prog w) A.in1 (Builtin.«list.__init__» ⟨[.ref S, .ref it], []⟩)
      (fun fin s' => match fin with | .done f => R (.ok f) s' | .again c' => c'.quiet = true ∧ codeAny (model prog w) A c' R s') (fun e s' => R (.error e) s') s := by
  show wpAny _ _ (do let old ← Builtin.List.listItems (.ref S); Builtin.List.listUpdate (.ref S) (fun _ => #[]); letGo old.toList.reverse; Builtin.List.listExtendWith (.ref S) (.ref it) .none) _ _ s
  refine wpAny_bind ?_
  unfold Builtin.List.listItems
  refine wpAny_bind (wpAny_seqItems hS rfl (wpAny_pure ?_))
  show wpAny _ _ (updateSeq S (fun _ => #[]) >>= fun _ => letGo (#[] : Array Value).toList.reverse >>= fun _ => Builtin.List.listExtendWith (.ref S) (.ref it) .none) _ _ s
  refine wpAny_bind (wpAny_updateSeq hS rfl ?_)
  have hS₂ := Heap.get?_update_self (Obj.mapSeq (fun _ => (#[] : Array Value))) hS rfl
  have oth : ∀ b o, b ≠ S → s.heap.get? b = some o → (s.heap.update S (Obj.mapSeq (fun _ => (#[] : Array Value)))).get? b = some o :=
    fun b o hb e => (Heap.get?_update_other _ _ (Ne.symm hb)).trans e
  refine wpAny_bind (wpAny_letGo ?_)
  have hit2 : (s.heap.update S (Obj.mapSeq (fun _ => (#[] : Array Value)))).IsRevIter it l ((items.size : Int) - 1) := hit.at fun o e => oth it o (Ne.symm hSi) e
  have hl2 : (s.heap.update S (Obj.mapSeq (fun _ => (#[] : Array Value)))).IsList l items := by
    obtain ⟨o, ho, r⟩ := hl
    exact ⟨o, oth l o (Ne.symm hSl) ho, r⟩
  refine extend_rev (s := { s with heap := s.heap.update S (Obj.mapSeq (fun _ => (#[] : Array Value))) }) hh hit2 hl2 hne hSi hSl .none _ hS₂ hn fun h' tk acc' c' hk hS' hacc => ?_
  exact hR h' tk acc' c' (fun b o hb hb2 e => hk b o hb hb2 (oth b o hb e)) hS' hacc

theorem call_list_rev {it l : Addr} {items : Array Value} {Q : Value → Shared → Prop} (hh : A.handled = none) (hit : s.heap.IsRevIter it l ((items.size : Int) - 1)) (hl : s.heap.IsList l items) (hne : l ≠ it) (hn : items.size ≤ sizeLine)
    (hQ : ∀ h' tk acc' c', (∀ b o, b ≠ it → s.heap.get? b = some o → h'.get? b = some o) →
      h'.get? s.heap.objs.size = some { cls := .type "list", dict := none, data := .seq acc' c', slots := #[] } → ItemsOf (fun i v => items[items.size - 1 - i]? = some v) acc' items.size → Q (.ref s.heap.objs.size) { s with heap := h', toks := tk }) :
    wpAny (model prog w) A (call (.type "list") [.ref it]) Q E s := by
  obtain ⟨oi, hoi, _⟩ := id hit
  obtain ⟨ol, hol, _⟩ := id hl
  have hSi : s.heap.objs.size ≠ it := Nat.ne_of_gt (Heap.lt_size hoi)
  have hSl : s.heap.objs.size ≠ l := Nat.ne_of_gt (Heap.lt_size hol)
  refine callType_codes (Q₁ := fun obj s₁ => obj = .ref s.heap.objs.size ∧ s₁ = { s with heap := s.heap.push { cls := .type "list", data := .seq #[] } }) F.called_list (F.typeCall_list_1 _) F.entry_list_init
    (code_list_new _ ⟨rfl, rfl⟩) fun obj s₁ h₁ => ?_
  obtain ⟨rfl, rfl⟩ := h₁
  have hS : (s.heap.push { cls := .type "list", data := .seq #[] }).get? s.heap.objs.size = some { cls := .type "list", data := .seq #[] } := Heap.get?_push_size _ rfl
  refine ⟨⟨_, hS, rfl⟩, F.args_list_init_2 _ _, list_init_rev (A := A.in1) (s := { s with heap := s.heap.push { cls := .type "list", data := .seq #[] } }) hh (hit.at fun o e => Heap.get?_push_of_some _ e) (hl.push _) hne hSi hSl hS hn fun h' tk acc' c' hk hS' hacc => ?_⟩
  exact ⟨rfl, hQ h' tk acc' c' (fun b o hb e => hk b o (Nat.ne_of_lt (Heap.lt_size e)) hb (Heap.get?_push_of_some _ e)) hS' hacc⟩
end
section
variable {X : Cx}
def tListRev (K : PySem.W.Frag) (te : TE) : TE := fun σ H Q => te σ H fun v H1 => ∃ (a : Addr) (xs : List V), v = .ref a ∧ SqL K H1 a xs ∧ ∀ q, H1 q = none → Q (.ref q) (upd H1 q (.lst xs.reverse))
theorem pe_listRev {e : Expr} {te : TE} {p p2 pos pos2 : Pos} (hc : X.calm = true) (hg : Gl X "list") (hm : X.mg "list" = none) (hg2 : Gl X "reversed") (hm2 : X.mg "reversed" = none) (he : PE X e te)
    (hs : starEach [e] X.env = (false, eval e X.env) :: starEach [] X.env := by rfl)
    (hs2 : starEach [.Call (.Name "reversed" p2) [e] [] pos2] X.env = (false, eval (.Call (.Name "reversed" p2) [e] [] pos2) X.env) :: starEach [] X.env := by rfl) :
    PE X (.Call (.Name "list" p) [.Call (.Name "reversed" p2) [e] [] pos2] [] pos) (tListRev X.K te) := by
  refine ⟨fun pins s σ H Q I h => ?_⟩
  refine Call_ (ld_blt I hg hm boot_list (PyProof.Rows.callWith_type1 (args_cons (Call_ (ld_blt I hg2 hm2 PyProof.Rows.boot_reversed (PyProof.Rows.callWith_type1 (args_cons (thn (he.run pins s σ H _ I h) fun u s1 ⟨v, H1, I1, r1, q1⟩ => args_nil ?_) hs) hs rfl))) hs2) hs2 rfl))
  obtain ⟨a, xs, ev, hq, q⟩ := q1
  subst ev
  obtain rfl : u = Value.ref a := r1
  obtain ⟨its, rv, p', hz⟩ := I1.list hq
  refine call_reversed_list p'.isList (args_nil ?_)
  have k0 : ∀ b o, s1.heap.get? b = some o → (s1.heap.push (revObj a ((its.toArray.size : Int) - 1))).get? b = some o := fun b o e => Heap.get?_push_of_some _ e
  have I2 : Inv X pins σ H1 { s1 with heap := s1.heap.push (revObj a ((its.toArray.size : Int) - 1)) } := I1.kept (t' := s1.toks) k0
  obtain ⟨f0, f1, f2, f3, f4, f5⟩ := I1.fpOk (H' := H1) (b := s1.heap.objs.size) (Nat.le_refl _) (I1.hok.fresh (Nat.le_refl _))
  have hl := p'.isList
  obtain ⟨ol, hol, _⟩ := id hl
  have hne : a ≠ s1.heap.objs.size := Nat.ne_of_lt (Heap.lt_size hol)
  have hn : its.toArray.size ≤ sizeLine := by rw [List.size_toArray, ← rv.length]; exact hz
  have hsz : (s1.heap.push (revObj a ((its.toArray.size : Int) - 1))).objs.size = s1.heap.objs.size + 1 := Heap.size_push ..
  refine call_list_rev (s := { s1 with heap := s1.heap.push (revObj a ((its.toArray.size : Int) - 1)) }) (I1.ok.hd hc) ⟨_, Heap.get?_push_size _ rfl, rfl, rfl⟩ (hl.push _) hne hn fun h' tk acc c' hk hS hi => ?_
  rw [hsz] at hS ⊢
  have fr := I1.hok.fresh (Nat.le_succ s1.heap.objs.size)
  have fp := I1.fpOk (H' := H1) (b := s1.heap.objs.size) (Nat.le_refl _) (I1.hok.fresh (Nat.le_refl _))
  let L : Obj := { cls := .type "list", dict := none, data := .seq acc c', slots := #[] }
  let G1 : Heap := (s1.heap.push (revObj a ((its.toArray.size : Int) - 1))).push L
  have gL : G1.get? (s1.heap.objs.size + 1) = some L := by
    have := Heap.get?_push_size (s1.heap.push (revObj a ((its.toArray.size : Int) - 1))) (o := L) rfl
    rw [hsz] at this; exact this
  have o : ObjOk X.prog X.w (upd H1 (s1.heap.objs.size + 1) (.lst xs.reverse)) G1 (s1.heap.objs.size + 1) (.lst xs.reverse) := ⟨by rw [List.length_reverse]; exact hz, acc.toList, c', vals_rev rv hi, by rw [Array.toArray_toList]; exact gL⟩
  have I4 : Inv X pins σ (upd H1 (s1.heap.objs.size + 1) (.lst xs.reverse)) { s1 with heap := G1, toks := s1.toks } := I2.laid (t' := s1.toks) (h' := G1) (fun c o e => Heap.get?_push_of_some _ e) (Nat.le_of_eq hsz) o
  have hz1 : G1.objs.size = s1.heap.objs.size + 1 + 1 := by show (Heap.push _ _).objs.size = _; rw [Heap.size_push, hsz]
  obtain ⟨g0, g1, g2, g3, g4, g5⟩ := I1.fpOk (H' := upd H1 (s1.heap.objs.size + 1) (.lst xs.reverse)) (b := s1.heap.objs.size) (Nat.le_refl _) (by rw [upd_ne (Nat.ne_of_lt (Nat.lt_succ_self _))]; exact I1.hok.fresh (Nat.le_refl _))
  have I5 : Inv X pins σ (upd H1 (s1.heap.objs.size + 1) (.lst xs.reverse)) { s1 with heap := h', toks := tk } := I4.turned (t' := tk) (fun b o hb e => by
    by_cases z : b = s1.heap.objs.size + 1
    · subst z
      rw [gL] at e; cases e; exact hS
    · rcases Heap.get?_push_cases e with ⟨z', _⟩ | e'
      · exact absurd (z'.trans hsz) z
      · exact hk b o hb e') g0 g1 g3 g4 g5
  exact ⟨.ref (s1.heap.objs.size + 1), _, I5, rfl, q _ fr⟩
end
section
variable {X : Cx} {c : C} {e : Expr} {da : DEv} {pos p p2 pos2 : Pos}
/-- list(reversed(x)), x an own list -/
def dRevO (i : Nat) : DOv := fun ρ K => ownAt ρ i fun l => K l.reverse ρ
theorem do_listRevO {i : Nat} (hc : X.calm = true) (hg : Gl X "list") (hm : X.mg "list" = none) (hg2 : Gl X "reversed") (hm2 : X.mg "reversed" = none) (ha : PE X e (tVar i))
    (hs : starEach [e] X.env = (false, eval e X.env) :: starEach [] X.env := by rfl)
    (hs2 : starEach [.Call (.Name "reversed" p2) [e] [] pos2] X.env = (false, eval (.Call (.Name "reversed" p2) [e] [] pos2) X.env) :: starEach [] X.env := by rfl) :
    DO X c (.Call (.Name "list" p) [.Call (.Name "reversed" p2) [e] [] pos2] [] pos) (dRevO i) :=
  wkE (pe_listRev hc hg hm hg2 hm2 ha hs hs2) fun σ H Q ⟨ρ, H0, K, ⟨L, R⟩, q, k⟩ => by
    obtain ⟨l, e0, q⟩ := ownAt_d q
    obtain ⟨v0, _, _, xs, h0, d0⟩ := R.own i l e0
    refine ⟨_, v0, L i, xs, rfl, SqL.of h0, fun p hp => ?_⟩
    obtain ⟨r, f⟩ := Rel.newO ⟨L, R⟩ hp d0.reverse
    exact k _ _ _ _ _ q r (Same.refl _) f
/-- list(reversed(x)), x a list that stands -/
def dRevL (da : DEv) : DOv := fun ρ K => da ρ fun x ρ1 => asL x fun l => K l.reverse ρ1
theorem do_listRev (hc : X.calm = true) (hg : Gl X "list") (hm : X.mg "list" = none) (hg2 : Gl X "reversed") (hm2 : X.mg "reversed" = none) (ha : DE X c e da)
    (hs : starEach [e] X.env = (false, eval e X.env) :: starEach [] X.env := by rfl)
    (hs2 : starEach [.Call (.Name "reversed" p2) [e] [] pos2] X.env = (false, eval (.Call (.Name "reversed" p2) [e] [] pos2) X.env) :: starEach [] X.env := by rfl) :
    DO X c (.Call (.Name "list" p) [.Call (.Name "reversed" p2) [e] [] pos2] [] pos) (dRevL da) :=
  wkE (pe_listRev hc hg hm hg2 hm2 ha hs hs2) fun σ H Q ⟨ρ, H0, K, R, q, k⟩ => ⟨ρ, H0, _, R, q, fun x ρ1 v H1 H01 q1 R1 S1 D1 => by
    obtain ⟨l, a, xs, rfl, sx, ex, q1⟩ := asL_d q1 D1
    refine ⟨a, xs, rfl, SqL.of (R1.same _ _ sx), fun p hp => ?_⟩
    obtain ⟨r, f⟩ := Rel.newO R1 hp ex.reverse
    exact k _ _ _ _ _ q1 r S1 f⟩
end
end DL
namespace DL
open PySem PySem.Spec PyProof.Rows L2
/-! ### enumerate(zip(a, b)): the zip's own tuple is out, or free, or gone -/
abbrev ZipF (h : Heap) (z TI TO : Addr) (f0 : Value) (f : Bool) : Prop :=
  h.get? z = some { cls := .type "zip", dict := none, data := .fields #[f0, .bool f, .bool false, .ref TI, .ref TO], slots := #[] }
def ZipAt (h : Heap) (z TI TO : Addr) : Prop := ∃ (f0 : Value) (f : Bool), (f0 = .none ∨ ∃ T : Nat, f0 = rawInt T) ∧ ZipF h z TI TO f0 f
theorem ZipAt.get {h : Heap} {z TI TO : Addr} (x : ZipAt h z TI TO) : ∃ o, h.get? z = some o ∧ (∀ v, o.data ≠ .cell v) := by
  obtain ⟨f0, f, _, e⟩ := x
  exact ⟨_, e, fun v q => nomatch q⟩
theorem ZipAt.at {h h' : Heap} {z TI TO : Addr} (x : ZipAt h z TI TO) (k : ∀ o, h.get? z = some o → h'.get? z = some o) : ZipAt h' z TI TO := by
  obtain ⟨f0, f, c, e⟩ := x
  exact ⟨f0, f, c, k _ e⟩
section
variable {prog : Program} {w : World} {A : Around} {E : Value → Shared → Prop} {s : Shared} {z TI TO i1 i2 : Addr} {fp1 fp2 : List Addr} {n1 n2 i : Nat} {P1 P2 : Nat → Value → Prop} {St1 St2 : Nat → Heap → Prop} {a1 a2 : Value}
theorem alive_any {a : Addr} {Q : Option Obj → Shared → Prop} (h : Q (s.heap.get? a) s) : wpAny (model prog w) A (loadIfAlive a) Q E s := fun _ _ _ => h
theorem zip_free {f0 : Value} {f : Bool} {Q : Bool → Shared → Prop} (hf : f0 = .none ∨ ∃ T : Nat, f0 = rawInt T) (hz : ZipF s.heap z TI TO f0 f)
    (h : ∀ b h' f', ZipF h' z TI TO f0 f' → Heap.SameBut z s.heap h' → Q b { s with heap := h' }) : wpAny (model prog w) A (Builtin.SmallTypes.ownedTupleIsFree (.ref z)) Q E s := by
  unfold Builtin.SmallTypes.ownedTupleIsFree
  refine wpAny_bind (wpAny_field hz rfl (x := f0) rfl ?_)
  rcases hf with rfl | ⟨T, rfl⟩
  · exact wpAny_pure (h true s.heap f hz (Heap.SameBut.refl _ _))
  · show wpAny _ _ (loadIfAlive ((T : Int).toNat) >>= _) _ _ _
    rw [Int.toNat_natCast]
    refine wpAny_bind (alive_any ?_)
    cases hT : s.heap.get? T with
    | none =>
      simp only [Option.isNone_none, if_true]
      exact wpAny_pure (h true s.heap f hz (Heap.SameBut.refl _ _))
    | some oT =>
      simp only [Option.isNone_some, Bool.false_eq_true, if_false]
      refine wpAny_bind (wpAny_field hz rfl (x := .bool f) rfl ?_)
      cases f with
      | true =>
        rw [if_neg (show ¬ ((Value.bool true != Value.bool true) = true) from Bool.false_ne_true)]
        exact wpAny_pure (h false s.heap true hz (Heap.SameBut.refl _ _))
      | false =>
        rw [if_pos (show (Value.bool false != Value.bool true) = true from rfl)]
        exact wpAny_bind (wpAny_setField_rec hz (by simp) fun h₁ hz₁ hs₁ => wpAny_pure (h false h₁ true hz₁ hs₁))
theorem zipA_item {Q : Value → Shared → Prop} (S : ZipSep2 z TI TO i1 i2 fp1 fp2) (D1 : Draws prog w A i1 fp1 n1 P1 St1) (D2 : Draws prog w A i2 fp2 n2 P2 St2)
    (hz : ZipAt s.heap z TI TO) (hTI : IsTupOf2 s.heap TI (.ref i1) (.ref i2)) (hTO : IsTupOf2 s.heap TO a1 a2) (st1 : St1 i s.heap) (st2 : St2 i s.heap) (hlt1 : i < n1) (hlt2 : i < n2)
    (hQ : ∀ x1 x2 h' tk, P1 i x1 → P2 i x2 → ZipAt h' z TI TO → (∃ a1 a2, IsTupOf2 h' TO a1 a2) → St1 (i + 1) h' → St2 (i + 1) h' → IsTupOf2 h' s.heap.objs.size x1 x2 → h'.objs.size = s.heap.objs.size + 1 →
      (∀ c o, c ≠ z → c ≠ TO → c ≠ i1 → c ≠ i2 → s.heap.get? c = some o → h'.get? c = some o) → Q (.ref s.heap.objs.size) { s with heap := h', toks := tk }) :
    wpAny (model prog w) A (Builtin.«zip.__next__» ⟨[.ref z], []⟩) (fun fin s' => ∃ v, fin = .done (.ret v) ∧ Q v s') E s := by
  obtain ⟨f00, f00b, hff, hz⟩ := hz
  obtain ⟨hp, g, d, tk0, os⟩ := s
  show wpAny _ _ (field (.ref z) 2 >>= _) _ _ _
  refine wpAny_bind (wpAny_field hz rfl (x := .bool false) rfl ?_)
  show wpAny _ _ (field (.ref z) 3 >>= _) _ _ _
  refine wpAny_bind (wpAny_field hz rfl (x := .ref TI) rfl ?_)
  refine wpAny_bind (wpAny_seqItems hTI rfl ?_)
  show wpAny _ _ (Builtin.SmallTypes.ownedTupleIsFree (.ref z) >>= _) _ _ _
  refine wpAny_bind (zip_free hff hz fun b g00 f0b hz hs00 => ?_)
  replace hz : ZipF g00 z TI TO f00 f0b := hz
  replace hs00 : Heap.SameBut z hp g00 := hs00
  cases b with
  | true =>
    simp only [if_true]
    refine wpAny_bind (wpAny_rule ?_)
    refine wpAny_bind (wpAny_field hz rfl (x := .ref TO) rfl ?_)
    refine wpAny_bind (wpAny_setField_rec hz (by simp) fun g0 hz0 hs0' => ?_)
    replace hz0 : ZipF g0 z TI TO .ellipsis f0b := hz0
    replace hs0' : Heap.SameBut z g00 g0 := hs0'
    have hs0 : Heap.SameBut z hp g0 := ⟨hs0'.1.trans hs00.1, fun b hb => (hs0'.2 b hb).trans (hs00.2 b hb)⟩
    refine wpAny_bind ?_
    simp only [List.zipIdx_cons, List.zipIdx_nil, List.forIn_cons, List.forIn_nil]
    refine wpAny_bind (wpAny_bind (wpAny_onRaise ?_))
    show wpAny _ _ (Builtin.SmallTypes.nextOf (.ref i1) >>= _) _ _ ⟨g0, g, d, tk0, os⟩
    refine wpAny_bind (D1.item i _ _ _ hlt1 (D1.over st1 hs0 S.zf1) fun x1 p1 tk1 hx1 sn1 hp1 => wpAny_pure ?_)
    replace hp1 : Heap.SameBut i1 g0 p1 := hp1
    have hU1 : IsTupOf2 p1 TO a1 a2 := hp1.extBut _ _ S.Ti1 (hs0.extBut _ _ S.TOz hTO)
    refine wpAny_bind (wpAny_seqItems (s := ⟨p1, g, d, tk1, os⟩) hU1 rfl ?_)
    refine wpAny_bind (updateSeq_IsTupOf2 (s := ⟨p1, g, d, tk1, os⟩) hU1 fun g1 hT1 hs1 => ?_)
    replace hT1 : IsTupOf2 g1 TO x1 a2 := hT1
    replace hs1 : Heap.SameBut TO p1 g1 := hs1
    refine wpAny_bind (wpAny_letGo (wpAny_pure ?_))
    refine wpAny_bind (wpAny_bind (wpAny_onRaise ?_))
    show wpAny _ _ (Builtin.SmallTypes.nextOf (.ref i2) >>= _) _ _ ⟨g1, g, d, tk1, os⟩
    refine wpAny_bind (D2.item i _ _ _ hlt2 (D2.over (D2.over (D2.over st2 hs0 S.zf2) hp1 S.sep1_2) hs1 S.Tf2) fun x2 p2 tk2 hx2 sn2 hp2 => wpAny_pure ?_)
    replace hp2 : Heap.SameBut i2 g1 p2 := hp2
    have hU2 : IsTupOf2 p2 TO x1 a2 := hp2.extBut _ _ S.Ti2 hT1
    refine wpAny_bind (wpAny_seqItems (s := ⟨p2, g, d, tk2, os⟩) hU2 rfl ?_)
    refine wpAny_bind (updateSeq_IsTupOf2 (s := ⟨p2, g, d, tk2, os⟩) hU2 fun g2 hT2 hs2 => ?_)
    replace hT2 : IsTupOf2 g2 TO x1 x2 := hT2
    replace hs2 : Heap.SameBut TO p2 g2 := hs2
    refine wpAny_bind (wpAny_letGo (wpAny_pure (wpAny_pure ?_)))
    refine wpAny_bind (wpAny_seqItems (s := ⟨g2, g, d, tk2, os⟩) hT2 rfl ?_)
    refine wpAny_bind (wpAny_newTuple ?_)
    have hsz : g2.objs.size = hp.objs.size := by rw [hs2.1, hp2.1, hs1.1, hp1.1, hs0.1]
    have hzz : ZipF g2 z TI TO .ellipsis f0b := (hs2.extBut _ _ S.TOz.symm (hp2.extBut _ _ S.zi2 (hs1.extBut _ _ S.TOz.symm (hp1.extBut _ _ S.zi1 hz0))))
    have hkk : ∀ c o, c ≠ z → c ≠ TO → c ≠ i1 → c ≠ i2 → hp.get? c = some o → g2.get? c = some o := fun c o cz cT c1 c2 e =>
      (hs2.extBut _ _ cT (hp2.extBut _ _ c2 (hs1.extBut _ _ cT (hp1.extBut _ _ c1 (hs0.extBut _ _ cz e)))))
    have hj1 : St1 (i + 1) g2 := (D1.over (D1.over (D1.over sn1 hs1 S.Tf1) hp2 S.sep2_1) hs2 S.Tf1)
    have hj2 : St2 (i + 1) g2 := (D2.over sn2 hs2 S.Tf2)
    have hzlt : z < g2.objs.size := Heap.lt_size hzz
    show wpAny _ _ (Builtin.SmallTypes.ownedTupleHandOut (.ref z) (.ref g2.objs.size) >>= _) _ _ ⟨g2.push { cls := .type "tuple", data := .seq #[x1, x2] }, g, d, tk2, os⟩
    refine wpAny_bind ?_
    unfold Builtin.SmallTypes.ownedTupleHandOut
    have hz₆ : ZipF (g2.push { cls := .type "tuple", data := .seq #[x1, x2] }) z TI TO .ellipsis f0b := Heap.get?_push_of_some _ hzz
    refine wpAny_bind (wpAny_setField_rec hz₆ (by simp) fun h₇ hz₇ hs₇ => ?_)
    replace hz₇ : ZipF h₇ z TI TO (rawInt g2.objs.size) f0b := hz₇
    refine wpAny_setField_rec hz₇ (by simp) fun h₈ hz₈ hs₈ => ?_
    replace hz₈ : ZipF h₈ z TI TO (rawInt g2.objs.size) false := hz₈
    replace hs₇ : Heap.SameBut z (g2.push { cls := .type "tuple", data := .seq #[x1, x2] }) h₇ := hs₇
    replace hs₈ : Heap.SameBut z h₇ h₈ := hs₈
    have up : ∀ c o, c ≠ z → g2.get? c = some o → h₈.get? c = some o := fun c o c1 e => hs₈.extBut _ _ c1 (hs₇.extBut _ _ c1 (Heap.get?_push_of_some _ e))
    have hT₈ : IsTupOf2 h₈ g2.objs.size x1 x2 := hs₈.extBut _ _ (Nat.ne_of_gt hzlt) (hs₇.extBut _ _ (Nat.ne_of_gt hzlt) (Heap.get?_push_size _ rfl))
    have hz8 : h₈.objs.size = g2.objs.size + 1 := by rw [hs₈.1, hs₇.1, Heap.size_push]
    rw [hsz] at hz₈ hT₈ hz8
    refine wpAny_pure ⟨_, rfl, ?_⟩
    show Q (.ref g2.objs.size) ⟨h₈, g, d, tk2, os⟩
    rw [hsz]
    exact hQ x1 x2 h₈ tk2 hx1 hx2 ⟨_, _, .inr ⟨_, rfl⟩, hz₈⟩ ⟨_, _, up _ _ S.TOz hT2⟩ (D1.frame _ _ _ hj1 fun b hb o e => up b o (fun q => S.zf1 (q ▸ hb)) e) (D2.frame _ _ _ hj2 fun b hb o e => up b o (fun q => S.zf2 (q ▸ hb)) e) hT₈ hz8 fun c o cz cT c1 c2 e => up c o cz (hkk c o cz cT c1 c2 e)
  | false =>
    simp only [Bool.false_eq_true, if_false]
    refine wpAny_bind ?_
    rw [← Array.forIn_toList]
    simp only [List.forIn_cons, List.forIn_nil]
    refine wpAny_bind (wpAny_bind (wpAny_holding ?_))
    show wpAny _ _ (Builtin.SmallTypes.nextOf (.ref i1) >>= _) _ _ ⟨g00, g, d, tk0, os⟩
    refine wpAny_bind (D1.item i _ _ _ hlt1 (D1.over st1 hs00 S.zf1) fun x1 p1 tk1 hx1 sn1 hp1 => wpAny_pure ?_)
    replace hp1 : Heap.SameBut i1 g00 p1 := hp1
    refine wpAny_pure ?_
    refine wpAny_bind (wpAny_bind (wpAny_holding ?_))
    show wpAny _ _ (Builtin.SmallTypes.nextOf (.ref i2) >>= _) _ _ ⟨p1, g, d, tk1, os⟩
    refine wpAny_bind (D2.item i _ _ _ hlt2 (D2.over (D2.over st2 hs00 S.zf2) hp1 S.sep1_2) fun x2 p2 tk2 hx2 sn2 hp2 => wpAny_pure ?_)
    replace hp2 : Heap.SameBut i2 p1 p2 := hp2
    refine wpAny_pure (wpAny_pure ?_)
    show wpAny _ _ (newTuple [x1, x2] >>= _) _ _ ⟨p2, g, d, tk2, os⟩
    refine wpAny_bind (wpAny_newTuple ?_)
    have hsz : p2.objs.size = hp.objs.size := by rw [hp2.1, hp1.1, hs00.1]
    have hz3 : ZipF p2 z TI TO f00 f0b := hp2.extBut _ _ S.zi2 (hp1.extBut _ _ S.zi1 hz)
    have hk : ∀ c o, c ≠ z → c ≠ TO → c ≠ i1 → c ≠ i2 → hp.get? c = some o → p2.get? c = some o := fun c o cz cT c1 c2 e => hp2.extBut _ _ c2 (hp1.extBut _ _ c1 (hs00.extBut _ _ cz e))
    have hTO2 : IsTupOf2 p2 TO a1 a2 := hp2.extBut _ _ S.Ti2 (hp1.extBut _ _ S.Ti1 (hs00.extBut _ _ S.TOz hTO))
    have hj1 : St1 (i + 1) p2 := D1.over sn1 hp2 S.sep2_1
    have up : ∀ c o, p2.get? c = some o → (p2.push { cls := .type "tuple", data := .seq #[x1, x2] }).get? c = some o := fun c o e => Heap.get?_push_of_some _ e
    refine wpAny_pure ⟨_, rfl, ?_⟩
    show Q (.ref p2.objs.size) _
    have hp' : IsTupOf2 (p2.push { cls := .type "tuple", data := .seq #[x1, x2] }) p2.objs.size x1 x2 := Heap.get?_push_size _ rfl
    have hz4 : (p2.push { cls := .type "tuple", data := .seq #[x1, x2] }).objs.size = p2.objs.size + 1 := Heap.size_push ..
    rw [hsz] at hp' hz4 ⊢
    exact hQ x1 x2 _ tk2 hx1 hx2 ⟨f00, f0b, hff, up _ _ hz3⟩ ⟨_, _, up _ _ hTO2⟩ (D1.frame _ _ _ hj1 fun b _ o e => up b o e) (D2.frame _ _ _ sn2 fun b _ o e => up b o e) hp' hz4 fun c o cz cT c1 c2 e => up c o (hk c o cz cT c1 c2 e)

theorem zipA_end {Q : Fin → Shared → Prop} (S : ZipSep2 z TI TO i1 i2 fp1 fp2) (D1 : Draws prog w A i1 fp1 n1 P1 St1) (D2 : Draws prog w A i2 fp2 n2 P2 St2)
    (hz : ZipAt s.heap z TI TO) (hTI : IsTupOf2 s.heap TI (.ref i1) (.ref i2)) (hTO : IsTupOf2 s.heap TO a1 a2) (st1 : St1 i s.heap) (st2 : St2 i s.heap) (hle1 : i ≤ n1) (hle2 : i ≤ n2) (hend : i = n1 ∨ i = n2)
    (hE : ∀ h' tk e, (∀ c o, c ≠ z → c ≠ TO → c ≠ i1 → c ≠ i2 → s.heap.get? c = some o → h'.get? c = some o) → (∃ o, h'.get? e = some o ∧ o.cls = .type "StopIteration") → E (.ref e) { s with heap := h', toks := tk }) :
    wpAny (model prog w) A (Builtin.«zip.__next__» ⟨[.ref z], []⟩) Q E s := by
  obtain ⟨f00, f00b, hff, hz⟩ := hz
  obtain ⟨hp, g, d, tk0, os⟩ := s
  show wpAny _ _ (field (.ref z) 2 >>= _) _ _ _
  refine wpAny_bind (wpAny_field hz rfl (x := .bool false) rfl ?_)
  show wpAny _ _ (field (.ref z) 3 >>= _) _ _ _
  refine wpAny_bind (wpAny_field hz rfl (x := .ref TI) rfl ?_)
  refine wpAny_bind (wpAny_seqItems hTI rfl ?_)
  show wpAny _ _ (Builtin.SmallTypes.ownedTupleIsFree (.ref z) >>= _) _ _ _
  refine wpAny_bind (zip_free hff hz fun b g00 f0b hz hs00 => ?_)
  replace hz : ZipF g00 z TI TO f00 f0b := hz
  replace hs00 : Heap.SameBut z hp g00 := hs00
  cases b with
  | true =>
    simp only [if_true]
    refine wpAny_bind (wpAny_rule ?_)
    refine wpAny_bind (wpAny_field hz rfl (x := .ref TO) rfl ?_)
    refine wpAny_bind (wpAny_setField_rec hz (by simp) fun g0 hz0 hs0' => ?_)
    replace hz0 : ZipF g0 z TI TO .ellipsis f0b := hz0
    replace hs0' : Heap.SameBut z g00 g0 := hs0'
    have hs0 : Heap.SameBut z hp g0 := ⟨hs0'.1.trans hs00.1, fun b hb => (hs0'.2 b hb).trans (hs00.2 b hb)⟩
    refine wpAny_bind ?_
    simp only [List.zipIdx_cons, List.zipIdx_nil, List.forIn_cons, List.forIn_nil]
    refine wpAny_bind (wpAny_bind (wpAny_onRaise ?_))
    show wpAny _ _ (Builtin.SmallTypes.nextOf (.ref i1) >>= _) _ _ ⟨g0, g, d, tk0, os⟩
    by_cases hlt1 : i < n1
    · refine wpAny_bind (D1.item i _ _ _ hlt1 (D1.over st1 hs0 S.zf1) fun x1 p1 tk1 hx1 sn1 hp1 => wpAny_pure ?_)
      replace hp1 : Heap.SameBut i1 g0 p1 := hp1
      have hU1 : IsTupOf2 p1 TO a1 a2 := hp1.extBut _ _ S.Ti1 (hs0.extBut _ _ S.TOz hTO)
      refine wpAny_bind (wpAny_seqItems (s := ⟨p1, g, d, tk1, os⟩) hU1 rfl ?_)
      refine wpAny_bind (updateSeq_IsTupOf2 (s := ⟨p1, g, d, tk1, os⟩) hU1 fun g1 hT1 hs1 => ?_)
      replace hT1 : IsTupOf2 g1 TO x1 a2 := hT1
      replace hs1 : Heap.SameBut TO p1 g1 := hs1
      refine wpAny_bind (wpAny_letGo (wpAny_pure ?_))
      have hi2 : i = n2 := by omega
      refine wpAny_bind (wpAny_bind (wpAny_onRaise ?_))
      show wpAny _ _ (Builtin.SmallTypes.nextOf (.ref i2) >>= _) _ _ ⟨g1, g, d, tk1, os⟩
      refine wpAny_bind (D2.done ⟨g1, g, d, tk1, os⟩ _ _ (by rw [← hi2]; exact (D2.over (D2.over (D2.over st2 hs0 S.zf2) hp1 S.sep1_2) hs1 S.Tf2)) fun q e hq he => ?_)
      replace hq : Heap.ExtBut i2 g1 q := hq
      obtain ⟨oe, hoe, hce⟩ := he
      replace hoe : q.get? e = some oe := hoe
      have hzq : ZipF q z TI TO .ellipsis f0b := hq _ _ S.zi2 (hs1.extBut _ _ S.TOz.symm (hp1.extBut _ _ S.zi1 hz0))
      have hez : e ≠ z := fun x => by subst x; rw [hzq] at hoe; cases hoe; simp at hce
      refine wpAny_setField_rec (s := ⟨q, g, d, tk1, os⟩) hzq (by simp) fun q' _ hq' => ?_
      replace hq' : Heap.SameBut z q q' := hq'
      exact hE q' tk1 e (fun c o cz cT c1 c2 x => hq'.extBut _ _ cz (hq _ _ c2 (hs1.extBut _ _ cT (hp1.extBut _ _ c1 (hs0.extBut _ _ cz x))))) ⟨oe, hq'.extBut _ _ hez hoe, hce⟩
    · have hi1 : i = n1 := by omega
      refine wpAny_bind (D1.done ⟨g0, g, d, tk0, os⟩ _ _ (by rw [← hi1]; exact (D1.over st1 hs0 S.zf1)) fun q e hq he => ?_)
      replace hq : Heap.ExtBut i1 g0 q := hq
      obtain ⟨oe, hoe, hce⟩ := he
      replace hoe : q.get? e = some oe := hoe
      have hzq : ZipF q z TI TO .ellipsis f0b := hq _ _ S.zi1 hz0
      have hez : e ≠ z := fun x => by subst x; rw [hzq] at hoe; cases hoe; simp at hce
      refine wpAny_setField_rec (s := ⟨q, g, d, tk0, os⟩) hzq (by simp) fun q' _ hq' => ?_
      replace hq' : Heap.SameBut z q q' := hq'
      exact hE q' tk0 e (fun c o cz cT c1 c2 x => hq'.extBut _ _ cz (hq _ _ c1 (hs0.extBut _ _ cz x))) ⟨oe, hq'.extBut _ _ hez hoe, hce⟩
  | false =>
    simp only [Bool.false_eq_true, if_false]
    refine wpAny_bind ?_
    rw [← Array.forIn_toList]
    simp only [List.forIn_cons, List.forIn_nil]
    refine wpAny_bind (wpAny_bind (wpAny_holding ?_))
    show wpAny _ _ (Builtin.SmallTypes.nextOf (.ref i1) >>= _) _ _ ⟨g00, g, d, tk0, os⟩
    by_cases hlt1 : i < n1
    · refine wpAny_bind (D1.item i _ _ _ hlt1 (D1.over st1 hs00 S.zf1) fun x1 p1 tk1 hx1 sn1 hp1 => wpAny_pure ?_)
      replace hp1 : Heap.SameBut i1 g00 p1 := hp1
      have hi2 : i = n2 := by omega
      refine wpAny_pure ?_
      refine wpAny_bind (wpAny_bind (wpAny_holding ?_))
      show wpAny _ _ (Builtin.SmallTypes.nextOf (.ref i2) >>= _) _ _ ⟨p1, g, d, tk1, os⟩
      refine wpAny_bind (D2.done ⟨p1, g, d, tk1, os⟩ _ _ (by rw [← hi2]; exact (D2.over (D2.over st2 hs00 S.zf2) hp1 S.sep1_2)) fun q e hq he => ?_)
      replace hq : Heap.ExtBut i2 p1 q := hq
      exact hE q tk1 e (fun c o cz cT c1 c2 x => hq _ _ c2 (hp1.extBut _ _ c1 (hs00.extBut _ _ cz x))) he
    · have hi1 : i = n1 := by omega
      refine wpAny_bind (D1.done ⟨g00, g, d, tk0, os⟩ _ _ (by rw [← hi1]; exact (D1.over st1 hs00 S.zf1)) fun q e hq he => ?_)
      replace hq : Heap.ExtBut i1 g00 q := hq
      exact hE q tk0 e (fun c o cz cT c1 c2 x => hq _ _ c1 (hs00.extBut _ _ cz x)) he
/-- the zip asked by another iterator -/
theorem zipA_nextOf {Q : Value → Shared → Prop} (S : ZipSep2 z TI TO i1 i2 fp1 fp2) (D1 : Draws prog w A.in1 i1 fp1 n1 P1 St1) (D2 : Draws prog w A.in1 i2 fp2 n2 P2 St2)
    (hz : ZipAt s.heap z TI TO) (hTI : IsTupOf2 s.heap TI (.ref i1) (.ref i2)) (hTO : IsTupOf2 s.heap TO a1 a2) (st1 : St1 i s.heap) (st2 : St2 i s.heap) (hlt1 : i < n1) (hlt2 : i < n2)
    (hQ : ∀ x1 x2 h' tk, P1 i x1 → P2 i x2 → ZipAt h' z TI TO → (∃ a1 a2, IsTupOf2 h' TO a1 a2) → St1 (i + 1) h' → St2 (i + 1) h' → IsTupOf2 h' s.heap.objs.size x1 x2 → h'.objs.size = s.heap.objs.size + 1 →
      (∀ c o, c ≠ z → c ≠ TO → c ≠ i1 → c ≠ i2 → s.heap.get? c = some o → h'.get? c = some o) → Q (.ref s.heap.objs.size) { s with heap := h', toks := tk }) :
    wpAny (model prog w) A (Builtin.SmallTypes.nextOf (.ref z)) Q E s := by
  have hT : s.TypeIs (.ref z) "zip" := by
    obtain ⟨f0, f, _, e⟩ := hz
    exact ⟨_, e, rfl⟩
  unfold Builtin.SmallTypes.nextOf
  exact wpAny_bind (wpAny_callSpecial?_slot (name := Str.ofString "__next__") hT F.slot_zip_next
    (wpAny_call_entry F.slot_zip_next hT F.entry_zip_next
      (zipA_item S D1 D2 hz hTI hTO st1 st2 hlt1 hlt2 fun x1 x2 h' tk y1 y2 b1 b2 d1 d2 b5 b6 b7 => wpAny_pure (hQ x1 x2 h' tk y1 y2 b1 b2 d1 d2 b5 b6 b7)) (F.args_zip_next_1 _)))
theorem zipA_nextEnd {Q : Value → Shared → Prop} (S : ZipSep2 z TI TO i1 i2 fp1 fp2) (D1 : Draws prog w A.in1 i1 fp1 n1 P1 St1) (D2 : Draws prog w A.in1 i2 fp2 n2 P2 St2)
    (hz : ZipAt s.heap z TI TO) (hTI : IsTupOf2 s.heap TI (.ref i1) (.ref i2)) (hTO : IsTupOf2 s.heap TO a1 a2) (st1 : St1 i s.heap) (st2 : St2 i s.heap) (hle1 : i ≤ n1) (hle2 : i ≤ n2) (hend : i = n1 ∨ i = n2)
    (hE : ∀ h' tk e, (∀ c o, c ≠ z → c ≠ TO → c ≠ i1 → c ≠ i2 → s.heap.get? c = some o → h'.get? c = some o) → (∃ o, h'.get? e = some o ∧ o.cls = .type "StopIteration") → E (.ref e) { s with heap := h', toks := tk }) :
    wpAny (model prog w) A (Builtin.SmallTypes.nextOf (.ref z)) Q E s := by
  have hT : s.TypeIs (.ref z) "zip" := by
    obtain ⟨f0, f, _, e⟩ := hz
    exact ⟨_, e, rfl⟩
  unfold Builtin.SmallTypes.nextOf
  exact wpAny_bind (wpAny_callSpecial?_slot (name := Str.ofString "__next__") hT F.slot_zip_next
    (wpAny_call_entry F.slot_zip_next hT F.entry_zip_next (zipA_end S D1 D2 hz hTI hTO st1 st2 hle1 hle2 hend hE) (F.args_zip_next_1 _)))

/-- the next of enumerate(zip(..)) -/
theorem enumZ_item {e : Addr} {c : Int} {old : Value} {Q : Value → Shared → Prop} (S : ZipSep2 z TI TO i1 i2 fp1 fp2) (D1 : Draws prog w A.in1 i1 fp1 n1 P1 St1) (D2 : Draws prog w A.in1 i2 fp2 n2 P2 St2)
    (ez : e ≠ z) (eO : e ≠ TO) (e1 : e ∉ fp1) (e2 : e ∉ fp2) (he : IsEnum s.heap e z c old)
    (hz : ZipAt s.heap z TI TO) (hTI : IsTupOf2 s.heap TI (.ref i1) (.ref i2)) (hTO : IsTupOf2 s.heap TO a1 a2) (st1 : St1 i s.heap) (st2 : St2 i s.heap) (hlt1 : i < n1) (hlt2 : i < n2)
    (hQ : ∀ x1 x2 h1 h' tk, P1 i x1 → P2 i x2 → IsTupOf2 h1 s.heap.objs.size x1 x2 → h1.objs.size = s.heap.objs.size + 1 →
      (∀ c o, c ≠ z → c ≠ TO → c ≠ i1 → c ≠ i2 → s.heap.get? c = some o → h1.get? c = some o) → (∀ b o, b ≠ e → h1.get? b = some o → h'.get? b = some o) →
      IsEnumOut h' e z (c + 1) (.ref s.heap.objs.size) (s.heap.objs.size + 1) → ZipAt h' z TI TO → (∃ a1 a2, IsTupOf2 h' TO a1 a2) → St1 (i + 1) h' → St2 (i + 1) h' →
      h'.get? (s.heap.objs.size + 1) = some { cls := .type "tuple", data := .seq #[.int c tk, .ref s.heap.objs.size] } → Q (.ref (s.heap.objs.size + 1)) { s with heap := h', toks := tk + 1 }) :
    wpAny (model prog w) A (Builtin.«enumerate.__next__» ⟨[.ref e], []⟩) (fun fin s' => ∃ v, fin = .done (.ret v) ∧ Q v s') E s := by
  obtain ⟨hp, g, d, tk₀, os⟩ := s
  show wpAny _ _ (field (.ref e) 2 >>= _) _ _ _
  refine wpAny_bind (wpAny_field he rfl (x := .ref z) rfl ?_)
  refine wpAny_bind (zipA_nextOf S D1 D2 hz hTI hTO st1 st2 hlt1 hlt2 fun x1 x2 h₁ tk hx1 hx2 hz₁ hTO₁ hst1 hst2 hT₁ hsz₁ hk₁ => ?_)
  replace hT₁ : IsTupOf2 h₁ hp.objs.size x1 x2 := hT₁
  replace hsz₁ : h₁.objs.size = hp.objs.size + 1 := hsz₁
  replace hk₁ : ∀ c o, c ≠ z → c ≠ TO → c ≠ i1 → c ≠ i2 → hp.get? c = some o → h₁.get? c = some o := hk₁
  have he₁ : IsEnum h₁ e z c old := hk₁ _ _ ez eO (fun q => e1 (q ▸ S.mem1)) (fun q => e2 (q ▸ S.mem2)) he
  show wpAny _ _ (field (.ref e) 3 >>= _) _ _ ⟨h₁, g, d, tk, os⟩
  refine wpAny_bind (wpAny_field he₁ rfl (x := rawInt c) rfl ?_)
  show wpAny _ _ (field (.ref e) 4 >>= _) _ _ ⟨h₁, g, d, tk, os⟩
  refine wpAny_bind (wpAny_field he₁ rfl (x := .none) rfl ?_)
  show wpAny _ _ (mkInt c >>= _) _ _ ⟨h₁, g, d, tk, os⟩
  refine wpAny_bind (wpAny_mkInt ?_)
  show wpAny _ _ (setField (.ref e) 3 (rawInt (c + 1)) >>= _) _ _ ⟨h₁, g, d, tk + 1, os⟩
  refine wpAny_bind (wpAny_setField_rec he₁ (by simp) fun h₂ he₂ hs₂ => ?_)
  replace hs₂ : Heap.SameBut e h₁ h₂ := hs₂
  replace he₂ : IsEnum h₂ e z (c + 1) old := he₂
  show wpAny _ _ (setField (.ref e) 4 .none >>= _) _ _ ⟨h₂, g, d, tk + 1, os⟩
  refine wpAny_bind (wpAny_setField_rec he₂ (by simp) fun h₃ he₃ hs₃ => ?_)
  replace hs₃ : Heap.SameBut e h₂ h₃ := hs₃
  replace he₃ : IsEnum h₃ e z (c + 1) old := he₃
  show wpAny _ _ (newTuple [.int c tk, .ref hp.objs.size] >>= _) _ _ ⟨h₃, g, d, tk + 1, os⟩
  refine wpAny_bind (wpAny_newTuple ?_)
  have he₄ : IsEnum (h₃.push { cls := .type "tuple", data := .seq #[.int c tk, .ref hp.objs.size] }) e z (c + 1) old := Heap.get?_push_of_some _ he₃
  generalize hh₄ : h₃.push { cls := .type "tuple", data := .seq #[.int c tk, .ref hp.objs.size] } = h₄ at he₄
  have hsz : h₃.objs.size = hp.objs.size + 1 := by rw [hs₃.1, hs₂.1, hsz₁]
  have hel : e < hp.objs.size := Heap.lt_size he
  have ht₄ : h₄.get? (hp.objs.size + 1) = some { cls := .type "tuple", data := .seq #[.int c tk, .ref hp.objs.size] } := by rw [← hh₄, ← hsz]; exact Heap.get?_push_size _ rfl
  have hk₄ : ∀ b o, b ≠ e → h₁.get? b = some o → h₄.get? b = some o := fun b o hbe hb => by
    rw [← hh₄]; exact Heap.get?_push_of_some _ (hs₃.extBut b o hbe (hs₂.extBut b o hbe hb))
  show wpAny _ _ (Builtin.SmallTypes.ownedTupleIsFree (.ref e) >>= _) _ _ ⟨h₄, g, d, tk + 1, os⟩
  rw [hsz]
  clear hh₄ he₃ hs₃ he₂ hs₂ he₁ hsz h₃ h₂
  refine wpAny_bind ?_
  · unfold Builtin.SmallTypes.ownedTupleIsFree
    refine wpAny_bind (wpAny_field he₄ rfl (x := .none) rfl (wpAny_pure ?_))
    simp only [if_true]
    refine wpAny_bind (wpAny_rule ?_)
    refine wpAny_bind (wpAny_field he₄ rfl (x := old) rfl ?_)
    refine wpAny_bind (wpAny_setField_rec he₄ (by simp) fun h₅ he₅ hs₅ => ?_)
    replace hs₅ : Heap.SameBut e h₄ h₅ := hs₅
    replace he₅ : IsEnum h₅ e z (c + 1) (.ref hp.objs.size) := he₅
    show wpAny _ _ (Builtin.SmallTypes.ownedTupleHandOut (.ref e) (.ref (hp.objs.size + 1)) >>= _) _ _ ⟨h₅, g, d, tk + 1, os⟩
    refine wpAny_bind ?_
    · unfold Builtin.SmallTypes.ownedTupleHandOut
      refine wpAny_bind (wpAny_setField_rec he₅ (by simp) fun h₆ he₆ hs₆ => ?_)
      replace hs₆ : Heap.SameBut e h₅ h₆ := hs₆
      replace he₆ : IsEnumOut h₆ e z (c + 1) (.ref hp.objs.size) (hp.objs.size + 1) := he₆
      refine wpAny_setField_rec he₆ (by simp) fun h₇ he₇ hs₇ => ?_
      replace hs₇ : Heap.SameBut e h₆ h₇ := hs₇
      replace he₇ : IsEnumOut h₇ e z (c + 1) (.ref hp.objs.size) (hp.objs.size + 1) := he₇
      have k7 : ∀ b o, b ≠ e → h₁.get? b = some o → h₇.get? b = some o := fun b o hb y => hs₇.extBut b o hb (hs₆.extBut b o hb (hs₅.extBut b o hb (hk₄ b o hb y)))
      have nl : hp.objs.size + 1 ≠ e := Nat.ne_of_gt (Nat.lt_succ_of_lt hel)
      obtain ⟨b1, b2, hTO₁⟩ := hTO₁
      refine wpAny_bind (wpAny_letGo (wpAny_pure ⟨_, rfl, hQ x1 x2 h₁ h₇ tk hx1 hx2 hT₁ hsz₁ hk₁ k7 he₇ (hz₁.at fun o y => k7 _ _ ez.symm y) ⟨b1, b2, k7 _ _ eO.symm hTO₁⟩
        (D1.frame _ _ _ hst1 fun b hb o y => k7 b o (fun q => e1 (q ▸ hb)) y) (D2.frame _ _ _ hst2 fun b hb o y => k7 b o (fun q => e2 (q ▸ hb)) y)
        (hs₇.extBut _ _ nl (hs₆.extBut _ _ nl (hs₅.extBut _ _ nl ht₄)))⟩))
theorem enumZ_next {e : Addr} {c : Int} {old : Value} {Q : Option Value → Shared → Prop} (S : ZipSep2 z TI TO i1 i2 fp1 fp2) (D1 : Draws prog w A.in1.in1 i1 fp1 n1 P1 St1) (D2 : Draws prog w A.in1.in1 i2 fp2 n2 P2 St2)
    (ez : e ≠ z) (eO : e ≠ TO) (e1 : e ∉ fp1) (e2 : e ∉ fp2) (he : IsEnum s.heap e z c old)
    (hz : ZipAt s.heap z TI TO) (hTI : IsTupOf2 s.heap TI (.ref i1) (.ref i2)) (hTO : IsTupOf2 s.heap TO a1 a2) (st1 : St1 i s.heap) (st2 : St2 i s.heap) (hlt1 : i < n1) (hlt2 : i < n2)
    (hQ : ∀ x1 x2 h1 h' tk, P1 i x1 → P2 i x2 → IsTupOf2 h1 s.heap.objs.size x1 x2 → h1.objs.size = s.heap.objs.size + 1 →
      (∀ c o, c ≠ z → c ≠ TO → c ≠ i1 → c ≠ i2 → s.heap.get? c = some o → h1.get? c = some o) → (∀ b o, b ≠ e → h1.get? b = some o → h'.get? b = some o) →
      IsEnumOut h' e z (c + 1) (.ref s.heap.objs.size) (s.heap.objs.size + 1) → ZipAt h' z TI TO → (∃ a1 a2, IsTupOf2 h' TO a1 a2) → St1 (i + 1) h' → St2 (i + 1) h' →
      h'.get? (s.heap.objs.size + 1) = some { cls := .type "tuple", data := .seq #[.int c tk, .ref s.heap.objs.size] } → Q (some (.ref (s.heap.objs.size + 1))) { s with heap := h', toks := tk + 1 }) :
    wpAny (model prog w) A (pyNext (.ref e)) Q E s := by
  have hT : s.TypeIs (.ref e) "enumerate" := ⟨_, he, rfl⟩
  unfold pyNext
  exact wpAny_bind (wpAny_attempt (wpAny_callSpecial?_slot (name := Str.ofString "__next__") hT F.slot_enumerate_next
    (wpAny_call_entry F.slot_enumerate_next hT F.entry_enumerate_next
      (enumZ_item S D1 D2 ez eO e1 e2 he hz hTI hTO st1 st2 hlt1 hlt2 fun x1 x2 h1 h' tk y1 y2 c1 c2 c3 c4 c5 c6 c7 c8 c9 c10 => wpAny_pure (hQ x1 x2 h1 h' tk y1 y2 c1 c2 c3 c4 c5 c6 c7 c8 c9 c10)) (F.args_enumerate_next_1 _))))
theorem enumZ_end {e : Addr} {c : Int} {old : Value} {Q : Option Value → Shared → Prop} (S : ZipSep2 z TI TO i1 i2 fp1 fp2) (D1 : Draws prog w A.in1.in1 i1 fp1 n1 P1 St1) (D2 : Draws prog w A.in1.in1 i2 fp2 n2 P2 St2)
    (he : IsEnum s.heap e z c old) (hz : ZipAt s.heap z TI TO) (hTI : IsTupOf2 s.heap TI (.ref i1) (.ref i2)) (hTO : IsTupOf2 s.heap TO a1 a2) (st1 : St1 i s.heap) (st2 : St2 i s.heap) (hle1 : i ≤ n1) (hle2 : i ≤ n2) (hend : i = n1 ∨ i = n2)
    (hQ : ∀ h' tk, (∀ c o, c ≠ z → c ≠ TO → c ≠ i1 → c ≠ i2 → s.heap.get? c = some o → h'.get? c = some o) → Q none { s with heap := h', toks := tk }) :
    wpAny (model prog w) A (pyNext (.ref e)) Q E s := by
  have hT : s.TypeIs (.ref e) "enumerate" := ⟨_, he, rfl⟩
  unfold pyNext
  refine wpAny_bind (wpAny_attempt (wpAny_callSpecial?_slot (name := Str.ofString "__next__") hT F.slot_enumerate_next
    (wpAny_call_entry F.slot_enumerate_next hT F.entry_enumerate_next ?_ (F.args_enumerate_next_1 _))))
  show wpAny _ _ (field (.ref e) 2 >>= _) _ _ _
  refine wpAny_bind (wpAny_field he rfl (x := .ref z) rfl ?_)
  refine wpAny_bind (zipA_nextEnd S D1 D2 hz hTI hTO st1 st2 hle1 hle2 hend fun h' tk ee hk he' => ?_)
  obtain ⟨o, ho, hc⟩ := he'
  refine wpAny_bind (wpAny_isInstance (T := "StopIteration") (b := true) ⟨o, ho, hc⟩ isSubtype_stop ?_)
  exact wpAny_pure (hQ _ _ hk)
end

/-! ### its walk -/
def StK (t : Bool) (h : Heap) (it a : Addr) (i : Nat) : Prop := match t with
  | true => h.IsTupleIter it a i
  | false => h.IsListIter it a i
def SqK (K : PySem.W.Frag) (t : Bool) (H : Hp) (a : Addr) (xs : List V) : Prop := match t with
  | true => SqT K H a xs
  | false => SqL K H a xs
theorem StK.at {t : Bool} {h h' : Heap} {it a : Addr} {i : Nat} (x : StK t h it a i) (k : ∀ o, h.get? it = some o → h'.get? it = some o) : StK t h' it a i := by
  cases t with
  | true => exact Heap.IsTupleIter.at (h := h) x k
  | false => exact Heap.IsListIter.at (h := h) x k
theorem StK.get {t : Bool} {h : Heap} {it a : Addr} {i : Nat} (x : StK t h it a i) : ∃ o, h.get? it = some o ∧ ∀ v, o.data ≠ .cell v := by
  cases t with
  | true =>
    obtain ⟨o, e, _, d⟩ := x
    exact ⟨o, e, fun v q => by rw [d] at q; cases q⟩
  | false =>
    obtain ⟨o, e, _, d⟩ := x
    exact ⟨o, e, fun v q => by rw [d] at q; cases q⟩
section
variable {X : Cx} {pins : List (Addr × Obj)} {σ : L2.St} {H : Hp} {s : Shared}
theorem SqK.inj {t : Bool} {a : Addr} {xs ys : List V} (I : Inv X pins σ H s) (h : SqK X.K t H a xs) (h' : SqK X.K t H a ys) : xs = ys := by
  cases t with
  | true => exact I.tuple_inj h h'
  | false => exact I.list_inj h h'
theorem side {t : Bool} {a it : Addr} {xs : List V} {A : Around} (I : Inv X pins σ H s) (h : SqK X.K t H a xs) (hh : A.handled = none) (hne : a ≠ it) :
    ∃ (its : List Value) (St : Nat → Heap → Prop), Vals xs its ∧ Draws X.prog X.w A it [it, a] its.toArray.size (fun i v => its.toArray[i]? = some v) St ∧ (∀ i, StK t s.heap it a i → St i s.heap) ∧ ∀ i h, St i h → StK t h it a i := by
  cases t with
  | true =>
    obtain ⟨its, rv, p, _⟩ := I.tuple h
    exact ⟨its, _, rv, Draws.tuple hh it a hne its.toArray, fun i x => ⟨x, p⟩, fun i h x => x.1⟩
  | false =>
    obtain ⟨its, rv, p, _⟩ := I.list h
    exact ⟨its, _, rv, Draws.list hh it a hne its.toArray, fun i x => ⟨x, p.isList⟩, fun i h x => x.1⟩
end
def ItEZ (K : PySem.W.Frag) (ta tb : Bool) (a b : Addr) : It :=
  ⟨fun i H => ∃ (xs ys : List V) (x y : V), SqK K ta H a xs ∧ SqK K tb H b ys ∧ xs[i]? = some x ∧ ys[i]? = some y,
    fun i H v H' => ∃ T T' x y, v = .ref T ∧ T ≠ T' ∧ H T' = none ∧ H T = none ∧ H' = upd (upd H T' (.tup [x, y])) T (.tup [.int (i : Nat), .ref T']) ∧ (∀ xs, SqK K ta H a xs → xs[i]? = some x) ∧ ∀ ys, SqK K tb H b ys → ys[i]? = some y,
    fun i H => ∃ xs ys : List V, SqK K ta H a xs ∧ SqK K tb H b ys ∧ i ≤ xs.length ∧ i ≤ ys.length ∧ (i = xs.length ∨ i = ys.length)⟩
structure EzSep (e z TI TO i1 i2 a b : Addr) : Prop where
  s : ZipSep2 z TI TO i1 i2 [i1, a] [i2, b]
  ez : e ≠ z
  eI : e ≠ TI
  eO : e ≠ TO
  e1 : e ∉ [i1, a]
  e2 : e ∉ [i2, b]
  ai : a ≠ i1
  bi : b ≠ i2
theorem turn_enumZ {P : Program} {w : World} {K : PySem.W.Frag} {elts : List Expr} {kk : Nat} {tpos : Pos} {ta tb : Bool} {a b e z TI TO i1 i2 : Addr} (D : EzSep e z TI TO i1 i2 a b) :
    Turn P w K (.Tuple elts kk tpos) (ItEZ K ta tb a b) [e, z, TI, TO, i1, i2] e (fun i h => (∃ old, IsEnum h e z ((0 : Int) + (i : Int)) old) ∧ ZipAt h z TI TO ∧ IsTupOf2 h TI (.ref i1) (.ref i2) ∧ (∃ a1 a2, IsTupOf2 h TO a1 a2) ∧ StK ta h i1 a i ∧ StK tb h i2 b i) where
  mem := by simp
  obj := fun i h st c hc => by
    obtain ⟨⟨old, he⟩, hz, hTI, ⟨x, y, hTO⟩, h1, h2⟩ := st
    have e' : c = e ∨ c = z ∨ c = TI ∨ c = TO ∨ c = i1 ∨ c = i2 := by simpa using hc
    rcases e' with q | q | q | q | q | q
    · rw [q]; exact ⟨_, he, fun v q => nomatch q⟩
    · rw [q]; exact hz.get
    · rw [q]; exact ⟨_, hTI, fun v q => nomatch q⟩
    · rw [q]; exact ⟨_, hTO, fun v q => nomatch q⟩
    · rw [q]; exact h1.get
    · rw [q]; exact h2.get
  keep := fun i h h' st k => by
    obtain ⟨⟨old, he⟩, hz, hTI, ⟨x, y, hTO⟩, h1, h2⟩ := st
    exact ⟨⟨old, k e (by simp) _ he⟩, hz.at fun o q => k z (by simp) o q, k TI (by simp) _ hTI, ⟨x, y, k TO (by simp) _ hTO⟩, h1.at fun o q => k i1 (by simp) o q, h2.at fun o q => k i2 (by simp) o q⟩
  item := by
    intro X hP hw hK hc i pins s σ H E I hf st hg
    subst hP hw hK
    obtain ⟨⟨old, he⟩, hz, hTI, ⟨x0, y0, hTO⟩, h1, h2⟩ := st
    obtain ⟨xs, ys, x, y, hqx, hqy, hx, hy⟩ := hg
    have hh := I.ok.hd hc
    obtain ⟨its, St1, rv, D1, f1, g1⟩ := side (A := X.A.in1.in1) (it := i1) I hqx hh D.ai
    obtain ⟨its2, St2, rv2, D2, f2, g2⟩ := side (A := X.A.in1.in1) (it := i2) I hqy hh D.bi
    obtain ⟨u, hu, ru⟩ := rv.get hx
    obtain ⟨u2, hu2, ru2⟩ := rv2.get hy
    have lt1 : i < its.toArray.size := by
      have := (List.getElem?_eq_some_iff.mp hu).1
      simpa using this
    have lt2 : i < its2.toArray.size := by
      have := (List.getElem?_eq_some_iff.mp hu2).1
      simpa using this
    have hel : e < s.heap.objs.size := Heap.lt_size he
    refine enumZ_next D.s D1 D2 D.ez D.eO D.e1 D.e2 he hz hTI hTO (f1 i h1) (f2 i h2) lt1 lt2 fun v1 v2 hA hB tk hv1 hv2 tA szA kA kB eB zB oB s1 s2 tB => ?_
    have ev1 : v1 = u := by
      have h : its.toArray[i]? = some v1 := hv1
      rw [List.getElem?_toArray, hu] at h
      exact (Option.some.inj h).symm
    have ev2 : v2 = u2 := by
      have h : its2.toArray[i]? = some v2 := hv2
      rw [List.getElem?_toArray, hu2] at h
      exact (Option.some.inj h).symm
    subst ev1 ev2
    refine ⟨_, rfl, wpAny_letOwnedTupleGo_enum (s := { s with heap := hB, toks := tk + 1 }) eB fun hC eC sbC => ?_⟩
    replace sbC : Heap.SameBut e hB hC := sbC
    have kC : ∀ b o, b ≠ e → hA.get? b = some o → hC.get? b = some o := fun b o hb q => sbC.extBut b o hb (kB b o hb q)
    have n0 : s.heap.objs.size ≠ e := Nat.ne_of_gt hel
    have n1 : s.heap.objs.size + 1 ≠ e := Nat.ne_of_gt (Nat.lt_succ_of_lt hel)
    have new1 : ObjOk X.prog X.w (upd H s.heap.objs.size (.tup [x, y])) hA s.heap.objs.size (.tup [x, y]) :=
      ⟨by show 2 ≤ sizeLine; decide, [v1, v2], .cons ru (.cons ru2 .nil), ⟨_, tA, rfl, _, rfl⟩⟩
    have I1 : Inv X pins σ (upd H s.heap.objs.size (.tup [x, y])) { s with heap := hA, toks := s.toks } :=
      I.turnedNew (t' := s.toks) (ch := [e, z, TI, TO, i1, i2]) (fun c o hb q => kA c o (fun q' => hb (by simp [q'])) (fun q' => hb (by simp [q'])) (fun q' => hb (by simp [q'])) (fun q' => hb (by simp [q'])) q) hf (Nat.le_refl _) new1
    have ltc : ∀ c, c ∈ [e, z, TI, TO, i1, i2] → c < s.heap.objs.size := fun c hcm => by
      have e' : c = e ∨ c = z ∨ c = TI ∨ c = TO ∨ c = i1 ∨ c = i2 := by simpa using hcm
      rcases e' with q | q | q | q | q | q
      · rw [q]; exact hel
      · rw [q]; obtain ⟨o, e1, _⟩ := hz.get; exact Heap.lt_size e1
      · rw [q]; exact Heap.lt_size hTI
      · rw [q]; exact Heap.lt_size hTO
      · rw [q]; obtain ⟨o, e1, _⟩ := h1.get; exact Heap.lt_size e1
      · rw [q]; obtain ⟨o, e1, _⟩ := h2.get; exact Heap.lt_size e1
    have hf1 : ∀ c ∈ [e, z, TI, TO, i1, i2], FpOk X pins (upd H s.heap.objs.size (.tup [x, y])) c := fun c hcm => by
      obtain ⟨q0, q1, q2, q3, q4, q5⟩ := hf c hcm
      exact ⟨by rw [upd_ne (Nat.ne_of_lt (ltc c hcm))]; exact q0, q1, q2, q3, q4, q5⟩
    have tC : hC.get? (s.heap.objs.size + 1) = some { cls := .type "tuple", data := .seq #[.int ((0 : Int) + (i : Int)) tk, .ref s.heap.objs.size] } := sbC.extBut _ _ n1 tB
    have new2 : ObjOk X.prog X.w (upd (upd H s.heap.objs.size (.tup [x, y])) (s.heap.objs.size + 1) (.tup [.int (i : Nat), .ref s.heap.objs.size])) hC (s.heap.objs.size + 1) (.tup [.int (i : Nat), .ref s.heap.objs.size]) :=
      ⟨by show 2 ≤ sizeLine; decide, [.int ((0 : Int) + (i : Int)) tk, .ref s.heap.objs.size], .cons ⟨tk, by rw [Int.zero_add]⟩ (.cons rfl .nil), ⟨_, tC, rfl, _, rfl⟩⟩
    have I2 : Inv X pins σ (upd (upd H s.heap.objs.size (.tup [x, y])) (s.heap.objs.size + 1) (.tup [.int (i : Nat), .ref s.heap.objs.size])) { s with heap := hC, toks := tk + 1 } :=
      I1.turnedNew (t' := tk + 1) (ch := [e, z, TI, TO, i1, i2]) (fun c o hb q => kC c o (fun q' => hb (by simp [q'])) q) hf1 (Nat.le_of_eq szA) new2
    refine ⟨.ref (s.heap.objs.size + 1), _, I2, rfl, ⟨s.heap.objs.size + 1, s.heap.objs.size, x, y, rfl, Nat.succ_ne_self _, I.hok.fresh (Nat.le_refl _), I.hok.fresh (Nat.le_succ _), rfl, fun l hl => by rw [SqK.inj I hl hqx]; exact hx, fun l hl => by rw [SqK.inj I hl hqy]; exact hy⟩, ⟨⟨.ref s.heap.objs.size, ?_⟩, zB.at fun o q => sbC.extBut _ _ D.ez.symm q, ?_, ?_, ?_, ?_⟩, fun c hcm => ?_⟩
    · have e1 : (0 : Int) + ((i + 1 : Nat) : Int) = (0 : Int) + (i : Int) + 1 := by omega
      rw [e1]; exact eC
    · exact kC _ _ D.eI.symm (kA _ _ D.s.TIz D.s.TITO D.s.TIi1 D.s.TIi2 hTI)
    · obtain ⟨b1, b2, q⟩ := oB
      exact ⟨b1, b2, sbC.extBut _ _ D.eO.symm q⟩
    · exact (g1 _ _ s1).at fun o q => sbC.extBut _ _ (fun q' => D.e1 (by rw [← q']; simp)) q
    · exact (g2 _ _ s2).at fun o q => sbC.extBut _ _ (fun q' => D.e2 (by rw [← q']; simp)) q
    · have l1 := ltc c hcm
      rw [upd_ne (Nat.ne_of_lt (Nat.lt_succ_of_lt l1)), upd_ne (Nat.ne_of_lt l1)]
      exact (hf c hcm).1
  done := by
    intro X hP hw hK hc i pins s σ H E I hf st hg
    subst hP hw hK
    obtain ⟨⟨old, he⟩, hz, hTI, ⟨x0, y0, hTO⟩, h1, h2⟩ := st
    obtain ⟨xs, ys, hqx, hqy, l1, l2, l3⟩ := hg
    have hh := I.ok.hd hc
    obtain ⟨its, St1, rv, D1, f1, g1⟩ := side (A := X.A.in1.in1) (it := i1) I hqx hh D.ai
    obtain ⟨its2, St2, rv2, D2, f2, g2⟩ := side (A := X.A.in1.in1) (it := i2) I hqy hh D.bi
    have e1 := rv.length
    have e2 := rv2.length
    exact enumZ_end D.s D1 D2 he hz hTI hTO (f1 i h1) (f2 i h2) (by simp; omega) (by simp; omega) (by simp; omega) fun h' tk hk => ⟨rfl, I.turnedL (t' := tk) (ch := [e, z, TI, TO, i1, i2]) (fun c o hb q =>
      hk c o (fun q' => hb (by simp [q'])) (fun q' => hb (by simp [q'])) (fun q' => hb (by simp [q'])) (fun q' => hb (by simp [q'])) q) hf⟩
  self := fun A i s Q E st h => let ⟨⟨_, he⟩, _⟩ := st; wpAny_pyIter_enum he h

theorem meets_enumerate_newZ (z TI TO : Addr) :
    Meets (Builtin.«enumerate.__new__» ⟨[.type "enumerate", .ref z], []⟩) (fun _ R s => IsZip s.heap z TI TO .none ∧
      R (.ok (.ret (.ref s.heap.objs.size))) { s with heap := s.heap.push { cls := .type "enumerate", data := .fields #[.none, .bool false, .ref z, rawInt 0, .none, .none] } }) :=
  .of_wp fun prog w A R s h => by
    obtain ⟨hp, g, d, tk, os⟩ := s; obtain ⟨h1, h⟩ := h
    have hsub := sub_enumerate
    have q1 : ∀ {A' : Around} {E : Value → Shared → Prop} {Q : Value → Shared → Prop}, Q (.ref z) ⟨hp, g, d, tk, os⟩ → wpAny (model prog w) A' (pyIter (.ref z)) Q E ⟨hp, g, d, tk, os⟩ :=
      fun q => wpAny_pyIter_zip (s := ⟨hp, g, d, tk, os⟩) h1 q
    wp_walk using q1
    refine wpAny_stack_any fun st => wpAny_pure ?_
    split
    · rename_i c _ _ _ _ _
      cases (c == Value.type "enumerate")
      · wp_walk using q1
        exact ⟨_, rfl, h⟩
      · wp_walk using q1
        exact ⟨_, rfl, h⟩
    · wp_walk using q1
      exact ⟨_, rfl, h⟩
section
variable {prog : Program} {w : World} {A : Around} {E : Value → Shared → Prop} {s : Shared}
theorem enum_zip {z TI TO : Addr} {Q : Value → Shared → Prop} (hz : IsZip s.heap z TI TO .none)
    (h : ∀ h', IsEnum h' s.heap.objs.size z 0 .none → (∀ b o, s.heap.get? b = some o → h'.get? b = some o) → Q (.ref s.heap.objs.size) { s with heap := h' }) :
    wpAny (model prog w) A (call (.type "enumerate") [.ref z]) Q E s := by
  refine callType_new F.called_enumerate (by decide) (F.typeCall_enumerate_1 _) (F.newCall_enumerate_1 _) (fun obj => F.args_object_init_2 obj _) F.entry_enumerate_new
    (meets_enumerate_newZ z TI TO) ⟨hz, ?_⟩
  have he : IsEnum (s.heap.push { cls := .type "enumerate", data := .fields #[.none, .bool false, .ref z, rawInt 0, .none, .none] }) s.heap.objs.size z 0 .none :=
    Heap.get?_push_size s.heap (o := { cls := .type "enumerate", data := .fields #[.none, .bool false, .ref z, rawInt 0, .none, .none] }) rfl
  exact ⟨⟨_, he, rfl⟩, h _ he fun b o x => Heap.get?_push_of_some _ x⟩
end
section
variable {X : Cx} {pins : List (Addr × Obj)} {σ : L2.St} {H : Hp} {s : Shared}
theorem begK {t : Bool} {a : Addr} {xs : List V} (I : Inv X pins σ H s) (h : SqK X.K t H a xs) :
    ∃ (o : Obj) (Hs : Heap → Prop), Begins (.ref a) o Hs ∧ Hs s.heap ∧ a < s.heap.objs.size ∧ ∀ h it, h.get? it = some o → StK t h it a 0 := by
  cases t with
  | true =>
    obtain ⟨its, rv, p, _⟩ := I.tuple h
    obtain ⟨o1, ho1, _⟩ := id p
    exact ⟨_, _, begins_tuple a its.toArray, p, Heap.lt_size ho1, fun h it e => ⟨_, e, rfl, rfl⟩⟩
  | false =>
    obtain ⟨its, rv, p, _⟩ := I.list h
    obtain ⟨o1, ho1, _⟩ := id p.isList
    exact ⟨_, _, begins_list a its.toArray, p.isList, Heap.lt_size ho1, fun h it e => ⟨_, e, rfl, rfl⟩⟩
end
theorem ezsep {n a b : Nat} (la : a < n) (lb : b < n) : EzSep (n + 5) (n + 4) (n + 2) (n + 3) n (n + 1) a b := by
  have k : ∀ i j : Nat, i ≠ j → n + i ≠ n + j := fun i j h e => h (Nat.add_left_cancel e)
  have k0 : ∀ i : Nat, i ≠ 0 → n + i ≠ n := fun i h e => h (Nat.add_left_cancel (k := 0) e)
  have ka : ∀ i : Nat, n + i ≠ a := fun i e => absurd la (by omega)
  have kb : ∀ i : Nat, n + i ≠ b := fun i e => absurd lb (by omega)
  have m2 : ∀ {x y z : Nat}, x ≠ y → x ≠ z → x ∉ [y, z] := fun h1 h2 => by simp only [List.mem_cons, List.not_mem_nil, or_false, not_or]; exact ⟨h1, h2⟩
  exact ⟨⟨k 2 4 (by decide), k 3 4 (by decide), k 2 3 (by decide), k0 2 (by decide), List.mem_cons_self, m2 (k0 4 (by decide)) (ka 4), m2 (k0 3 (by decide)) (ka 3), k 2 1 (by decide), List.mem_cons_self, m2 (k 4 1 (by decide)) (kb 4), m2 (k 3 1 (by decide)) (kb 3), m2 (k0 1 (by decide)).symm (kb 0), m2 (k0 1 (by decide)) (ka 1)⟩,
    k 5 4 (by decide), k 5 2 (by decide), k 5 3 (by decide), m2 (k0 5 (by decide)) (ka 5), m2 (k 5 1 (by decide)) (kb 5), Nat.ne_of_lt la, Nat.ne_of_lt (Nat.lt_succ_of_lt lb)⟩
def iEZA (K : PySem.W.Frag) (ta : TA) : TI := fun σ H R => ta σ H fun vs H1 => ∃ (a b : Addr) (t1 t2 : Bool) (xs ys : List V), vs = [.ref a, .ref b] ∧ SqK K t1 H1 a xs ∧ SqK K t2 H1 b ys ∧ R (ItEZ K t1 t2 a b) H1
theorem pi_enumZ {X : Cx} {e e2 : Expr} {ta : TA} {p p2 pos pos2 tpos : Pos} {elts : List Expr} {kk : Nat} (hg : Gl X "enumerate") (hm : X.mg "enumerate" = none) (hg2 : Gl X "zip") (hm2 : X.mg "zip" = none) (ha : PA X [e, e2] ta)
    (hs : starEach [.Call (.Name "zip" p2) [e, e2] [] pos2] X.env = (false, eval (.Call (.Name "zip" p2) [e, e2] [] pos2) X.env) :: starEach [] X.env := by rfl)
    (hs2 : starEach [e, e2] X.env = (false, eval e X.env) :: starEach [e2] X.env := by rfl) (hpl : (backTo pos2 (starEach [e2] X.env)).any (·.1) = false := by rfl) :
    PI X (.Tuple elts kk tpos) (.Call (.Name "enumerate" p) [.Call (.Name "zip" p2) [e, e2] [] pos2] [] pos) (iEZA X.K ta) := by
  refine ⟨fun pins s σ H R I h => ?_⟩
  refine Call_ (ld_blt I hg hm boot_enumerate (PyProof.Rows.callWith_type1 (args_cons (Call_ (ld_blt I hg2 hm2 PyProof.Rows.boot_zip (PyProof.Rows.callWith_type1 (thn (ha.run pos2 pins s σ H _ I h) fun us s1 ⟨vs, H1, I1, r1, q1⟩ => ?_) hs2 hpl))) hs) hs rfl))
  obtain ⟨a, b, t1, t2, xs, ys, ex, hqx, hqy, q⟩ := q1
  subst ex
  cases r1 with
  | cons r rr =>
    cases rr with
    | cons r' rr =>
      cases rr
      cases r
      cases r'
      obtain ⟨o1, G1, B1, g1, la, k1⟩ := begK I1 hqx
      obtain ⟨o2, G2, B2, g2, lb, k2⟩ := begK I1 hqy
      refine zip_begins2 B1 B2 g1 g2 fun h' hz hTI hTO ho1 ho2 hsz hk => args_nil ?_
      have I2 : Inv X pins σ H1 { s1 with heap := h' } := I1.kept (t' := s1.toks) hk
      refine enum_zip (s := { s1 with heap := h' }) hz fun h'' he hk2 => wpAny_pyIter_enum he ?_
      replace he : IsEnum h'' h'.objs.size (s1.heap.objs.size + 4) 0 .none := he
      rw [hsz] at he
      have I3 : Inv X pins σ H1 { s1 with heap := h'' } := I2.kept (t' := s1.toks) hk2
      have fr : ∀ c, c ∈ [s1.heap.objs.size + 5, s1.heap.objs.size + 4, s1.heap.objs.size + 2, s1.heap.objs.size + 3, s1.heap.objs.size, s1.heap.objs.size + 1] → FpOk X pins H1 c := fun c hcm => by
        have e' : c = s1.heap.objs.size + 5 ∨ c = s1.heap.objs.size + 4 ∨ c = s1.heap.objs.size + 2 ∨ c = s1.heap.objs.size + 3 ∨ c = s1.heap.objs.size ∨ c = s1.heap.objs.size + 1 := by simpa using hcm
        have hle : s1.heap.objs.size ≤ c := by omega
        exact I1.fpOk hle (I1.hok.fresh hle)
      have sep : EzSep (s1.heap.objs.size + 5) (s1.heap.objs.size + 4) (s1.heap.objs.size + 2) (s1.heap.objs.size + 3) s1.heap.objs.size (s1.heap.objs.size + 1) a b := by
        exact ezsep la lb
      refine ⟨s1.heap.objs.size + 5, [s1.heap.objs.size + 5, s1.heap.objs.size + 4, s1.heap.objs.size + 2, s1.heap.objs.size + 3, s1.heap.objs.size, s1.heap.objs.size + 1], _, _, H1, ?_, I3, turn_enumZ (ta := t1) (tb := t2) sep, ⟨⟨.none, he⟩, ⟨_, _, .inl rfl, hk2 _ _ hz⟩, hk2 _ _ hTI, ⟨_, _, hk2 _ _ hTO⟩, k1 _ _ (hk2 _ _ ho1), k2 _ _ (hk2 _ _ ho2)⟩, fr, q⟩
      show Value.ref h'.objs.size = _
      rw [hsz]
/-! ### .. by content -/
def seqD : D → Bool → Option (List D)
  | .lst l, false => some l
  | .tup l, true => some l
  | _, _ => none
section
variable {X : Cx} {c : C} {a b : Expr} {dr : DAv} {pos p p2 pos2 : Pos}
def iEnumZ (dr : DAv) : DOv := fun ρ K => dr ρ fun ds ρ1 => as2 ds fun x y => asQ x fun l => asQ y fun m => K (numD (pairsD l m)) ρ1
theorem asQ_K {g : G} {H0 : Hp} {x : D} {v : V} {k : List D → Prop} (q : asQ x k) (dn : Den g H0 x v) : ∃ (t : Bool) (l : List D) (a : Addr) (xs : List V), v = .ref a ∧ SqK g.K t H0 a xs ∧ (∀ H, Same H0 H → SqK g.K t H a xs) ∧ DenL g H0 l xs ∧ k l := by
  cases x with
  | lst l =>
    unfold Den at dn
    obtain ⟨a, xs, rfl, sx, ex⟩ := dn
    exact ⟨false, l, a, xs, rfl, SqL.of sx, fun H s => SqL.of (s _ _ sx), ex, q⟩
  | tup l =>
    unfold Den at dn
    obtain ⟨a, xs, rfl, sx, ex⟩ := dn
    exact ⟨true, l, a, xs, rfl, sx, fun H s => sqT_same s sx, ex, q⟩
  | _ => exact q.elim
theorem walk_enumZ {K : PySem.W.Frag} {t1 t2 : Bool} {a b : Addr} {xs ys : List V} {n : Nat} (hn : n = min xs.length ys.length) : Walk (ItEZ K t1 t2 a b) n (fun H => SqK K t1 H a xs ∧ SqK K t2 H b ys)
    (fun i H v H' => ∃ T T' x y, v = .ref T ∧ T ≠ T' ∧ H T' = none ∧ H T = none ∧ H' = upd (upd H T' (.tup [x, y])) T (.tup [.int (i : Nat), .ref T']) ∧ xs[i]? = some x ∧ ys[i]? = some y) := by
  subst hn
  refine ⟨fun i _ hi q => ⟨xs, ys, xs[i]'(by omega), ys[i]'(by omega), q.1, q.2, by simp, by simp⟩, fun _ q => ⟨xs, ys, q.1, q.2, by omega, by omega, by omega⟩, fun i H v H' _ q y => ?_⟩
  obtain ⟨T, T', x, y, h1, h2, h3, h4, h5, h6, h7⟩ := y
  exact ⟨T, T', x, y, h1, h2, h3, h4, h5, h6 xs q.1, h7 ys q.2⟩
theorem di_enumZ {tpos : Pos} {elts : List Expr} {kk : Nat} (hg : Gl X "enumerate") (hm : X.mg "enumerate" = none) (hg2 : Gl X "zip") (hm2 : X.mg "zip" = none) (ha : DA X c [a, b] dr)
    (hs : starEach [.Call (.Name "zip" p2) [a, b] [] pos2] X.env = (false, eval (.Call (.Name "zip" p2) [a, b] [] pos2) X.env) :: starEach [] X.env := by rfl)
    (hs2 : starEach [a, b] X.env = (false, eval a X.env) :: starEach [b] X.env := by rfl) (hpl : (backTo pos2 (starEach [b] X.env)).any (·.1) = false := by rfl) (hK : X.K = c.K := by rfl) :
    DI X c (.Tuple elts kk tpos) (.Call (.Name "enumerate" p) [.Call (.Name "zip" p2) [a, b] [] pos2] [] pos) (iEnumZ dr) := wkI (pi_enumZ hg hm hg2 hm2 ha hs hs2 hpl) fun σ H R ⟨ρ, H0, K, R0, q, k⟩ => ⟨ρ, H0, _, R0, q, fun ds ρ1 vs H1 H01 q1 R1 S1 D1 => by
    obtain ⟨x, y, v, w, rfl, D1, D2, q1⟩ := as2_d q1 D1
    obtain ⟨t1, l, a1, xs, rfl, _, sx, ex, q1⟩ := asQ_K q1 D1
    obtain ⟨t2, m, a2, ys, rfl, _, sy, ey, q1⟩ := asQ_K q1 D2
    refine ⟨a1, a2, t1, t2, xs, ys, rfl, by rw [hK]; exact sx _ R1.same, by rw [hK]; exact sy _ R1.same, k _ _ _ _ _ q1 R1 S1 ?_⟩
    rw [hK]
    refine ⟨_, _, walk_enumZ (by rw [numD_len, pairsD_len, ← ex.len, ← ey.len]), fun H s => ⟨sx _ s, sy _ s⟩, fun i d c' ρ2 σ2 H02 H2 v H3 hc e R S ⟨T, T', u, u', ev, nTT, nT', nT, eH, e1, e2⟩ => ?_⟩
    subst ev eH
    obtain ⟨pr, e3, rfl⟩ := numD_get e
    obtain ⟨dx, dy, f1, f2, rfl⟩ := pairsD_get e3
    obtain ⟨u1, h1, d1⟩ := ex.get f1
    rw [e1] at h1; cases h1
    obtain ⟨u2, h2, d2⟩ := ey.get f2
    rw [e2] at h2; cases h2
    obtain ⟨r, s, dn⟩ := R.newT (c := c') nT' (l := [dx, dy]) (xs := [u, u']) (by rw [hc]; exact DenL.cons (Den.mono S _ _ d1) (DenL.cons (Den.mono S _ _ d2) DenL.nil))
    have nT2 : upd H2 T' (.tup [u, u']) T = none := by rw [upd_ne nTT]; exact nT
    obtain ⟨r2, s2, dn2⟩ := r.newT (c := c') nT2 (l := [.int (i : Nat), .tup [dx, dy]]) (xs := [.int (i : Nat), .ref T']) (DenL.cons den_int (DenL.cons dn DenL.nil))
    rw [hc] at dn2
    exact ⟨_, r2, s.trans s2, dn2⟩⟩
end
end DL
namespace DL
open PySem PySem.Spec PyProof.Rows L2
/-! ### a for over what is made of an own list: lent while it runs, own again behind it -/
mutual
/-- no list in it -/
def lfD : D → Bool
  | .tup l => lfL l
  | .lst _ => false
  | _ => true
def lfL : List D → Bool
  | [] => true
  | d :: l => lfD d && lfL l
end
theorem lf_nq {t b : Int} : lfD (.tup [.int t, .int b]) = true := rfl
mutual
theorem Den.lf {g : DL.G} {H H2 : Hp} {p : Addr} {zs : List V} (hp : H p = some (.lst zs)) (h2 : ∀ b, b ≠ p → H2 b = H b) : ∀ (d : D) (v : V), Den g H d v → lfD d = true → Den g H2 d v
  | .non, _, h, _ => by unfold Den at h ⊢; exact h
  | .bl _, _, h, _ => by unfold Den at h ⊢; exact h
  | .int _, _, h, _ => by unfold Den at h ⊢; exact h
  | .str _, _, h, _ => by unfold Den at h ⊢; exact h
  | .tup l, _, h, f => by
    unfold Den at h ⊢
    obtain ⟨a, xs, e, s, r⟩ := h
    unfold lfD at f
    refine ⟨a, xs, e, ?_, DenL.lf hp h2 l xs r f⟩
    rcases s with (s | ⟨o, s⟩) | s
    · exact .inl (.inl (by rw [h2 a (fun z => by rw [z, hp] at s; cases s)]; exact s))
    · exact .inl (.inr ⟨o, by rw [h2 a (fun z => by rw [z, hp] at s; cases s)]; exact s⟩)
    · exact .inr s
  | .lst l, _, _, f => by unfold lfD at f; cases f
  | .stt, _, h, _ => by unfold Den at h ⊢; exact h
  | .ins _ _, _, h, _ => by
    unfold Den at h ⊢
    obtain ⟨a, dx, e, q⟩ := h
    exact ⟨a, dx, e, by rw [h2 a (fun z => by rw [z, hp] at q; cases q)]; exact q⟩
theorem DenL.lf {g : DL.G} {H H2 : Hp} {p : Addr} {zs : List V} (hp : H p = some (.lst zs)) (h2 : ∀ b, b ≠ p → H2 b = H b) : ∀ (l : List D) (xs : List V), DenL g H l xs → lfL l = true → DenL g H2 l xs
  | [], _, h, _ => by unfold DenL at h ⊢; exact h
  | d :: l, _, h, f => by
    unfold DenL at h ⊢
    unfold lfL at f
    rw [Bool.and_eq_true] at f
    obtain ⟨x, r, e, q, t⟩ := h
    exact ⟨x, r, e, Den.lf hp h2 d x q f.1, DenL.lf hp h2 l r t f.2⟩
end
/-- what of a slot stands when a list is taken back -/
def keepS : Option Sl → Option Sl
  | some (.v d) => if lfD d then some (.v d) else none
  | some (.own m) => if lfL m then some (.own m) else none
  | some (.pin v) => some (.pin v)
  | none => none
def backE (ρ : En) (i : Nat) (l : List D) : En := ((ρ.1.map keepS).set i (some (.own l)), ρ.2)
theorem keep_v {o : Option Sl} {d : D} (h : keepS o = some (.v d)) : o = some (.v d) ∧ lfD d = true := by
  unfold keepS at h
  split at h
  · split at h
    · cases h; exact ⟨rfl, by assumption⟩
    · cases h
  · split at h <;> cases h
  · cases h
  · cases h
theorem keep_o {o : Option Sl} {m : List D} (h : keepS o = some (.own m)) : o = some (.own m) ∧ lfL m = true := by
  unfold keepS at h
  split at h
  · split at h <;> cases h
  · split at h
    · cases h; exact ⟨rfl, by assumption⟩
    · cases h
  · cases h
  · cases h
theorem keep_p {o : Option Sl} {v : V} (h : keepS o = some (.pin v)) : o = some (.pin v) := by
  unfold keepS at h
  split at h
  · split at h <;> cases h
  · split at h <;> cases h
  · exact h
  · cases h
theorem back_get {ρ : En} {i j : Nat} {l : List D} {s : Sl} (h : (backE ρ i l).1[j]? = some (some s)) : (j = i ∧ s = .own l ∧ i < ρ.1.length) ∨ (j ≠ i ∧ ∃ o, ρ.1[j]? = some o ∧ keepS o = some s) := by
  have h : ((ρ.1.map keepS).set i (some (.own l)))[j]? = some (some s) := h
  rcases get_set_some h with ⟨a, b, c⟩ | ⟨a, b⟩
  · exact .inl ⟨a, b, by simpa using c⟩
  · rw [List.getElem?_map] at b
    cases e : ρ.1[j]? with
    | none => rw [e] at b; cases b
    | some o => rw [e] at b; exact .inr ⟨a, o, rfl, by simpa using b⟩
section
variable {c : C}
theorem RelL.unlend {ρ : En} {σ : L2.St} {H0 H01 H1 : Hp} {L : Nat → Addr} (R : RelL c ρ σ H01 H1 L) {i : Nat} {p : Addr} {xs : List V} {l : List D} (e : ρ.1[i]? = some (some (.pin (.ref p)))) (hp : H01 p = some (.lst xs)) (ns : c.Hs p = none)
    (S0 : Same H0 H01) (bs : Same c.H0s H0) (n0 : H0 p = none) (d0 : DenL c.toG H0 l xs) : ∃ H2, Rel c (backE ρ i l) σ H2 H1 ∧ Same H0 H2 := by
  let H2 : Hp := fun b => if b = p then none else H01 b
  have h2n : ∀ b, b ≠ p → H2 b = H01 b := fun b z => if_neg z
  have h2s : H2 p = none := if_pos rfl
  have S02 : Same H0 H2 := fun b o e => by
    have z : b ≠ p := fun z => by rw [z, n0] at e; cases e
    rw [h2n b z]; exact S0 _ _ e
  have G : RelG c ρ.2 H2 H1 := by
    refine ⟨fun b o e => ?_, R.keep, fun b o e => S02 _ _ (bs _ _ e), fun b e z => ?_, R.stt⟩
    · by_cases z : b = p
      · rw [z, h2s] at e; cases e
      · rw [h2n b z] at e; exact R.same b o e
    · by_cases y : b = p
      · rw [y]; exact h2s
      · rw [h2n b y]; exact R.new b e z
  refine ⟨H2, ⟨fun j => if j = i then p else L j, G, ?_, fun j d q => ?_, fun j m q => ?_, fun j k m m' q q' z => ?_, fun j v q => ?_⟩, S02⟩
  · show ((ρ.1.map keepS).set i _).length = _
    rw [List.length_set, List.length_map]; exact R.len
  · rcases back_get q with ⟨_, q, _⟩ | ⟨nj, o, q1, q2⟩
    · cases q
    · obtain ⟨rfl, f⟩ := keep_v q2
      obtain ⟨v, e1, e2⟩ := R.val j d q1
      exact ⟨v, e1, Den.lf hp h2n d v e2 f⟩
  · rcases back_get q with ⟨rfl, q, hi⟩ | ⟨nj, o, q1, q2⟩
    · cases q
      rw [if_pos rfl]
      exact ⟨R.pin j _ e, h2s, ns, xs, R.same _ _ hp, DenL.mono S02 _ _ d0⟩
    · obtain ⟨rfl, f⟩ := keep_o q2
      obtain ⟨e1, e2, e3, ys, e4, e5⟩ := R.own j m q1
      have ne : L j ≠ p := fun z => by rw [z, hp] at e2; cases e2
      rw [if_neg nj]
      exact ⟨e1, by rw [h2n _ ne]; exact e2, e3, ys, e4, DenL.lf hp h2n m ys e5 f⟩
  · have z : (if j = i then p else L j) = (if k = i then p else L k) := z
    have oth : ∀ j m, j ≠ i → (backE ρ i l).1[j]? = some (some (Sl.own m)) → L j ≠ p := fun j m nj q => by
      rcases back_get q with ⟨h, _⟩ | ⟨_, o, q1, q2⟩
      · exact absurd h nj
      · obtain ⟨rfl, f⟩ := keep_o q2
        obtain ⟨e1, e2, _⟩ := R.own j m q1
        exact fun z => by rw [z, hp] at e2; cases e2
    by_cases hj : j = i
    · by_cases hk : k = i
      · rw [hj, hk]
      · rw [if_pos hj, if_neg hk] at z
        exact absurd z.symm (oth k m' hk q')
    · by_cases hk : k = i
      · rw [if_neg hj, if_pos hk] at z
        exact absurd z (oth j m hj q)
      · rw [if_neg hj, if_neg hk] at z
        rcases back_get q with ⟨h, _⟩ | ⟨_, o, q1, q2⟩
        · exact absurd h hj
        · rcases back_get q' with ⟨h, _⟩ | ⟨_, o', q1', q2'⟩
          · exact absurd h hk
          · obtain ⟨rfl, _⟩ := keep_o q2
            obtain ⟨rfl, _⟩ := keep_o q2'
            exact R.inj j k m m' q1 q1' z
  · rcases back_get q with ⟨_, q, _⟩ | ⟨nj, o, q1, q2⟩
    · cases q
    · obtain rfl := keep_p q2
      exact R.pin j v q1
theorem RelL.pinned {ρ : En} {σ : L2.St} {H0 H : Hp} {L : Nat → Addr} (R : RelL c ρ σ H0 H L) {i : Nat} {v : V} (e : σ[i]? = some (some v)) : RelL c (ρ.1.set i (some (.pin v)), ρ.2) σ H0 H L where
  toRelG := R.toRelG
  len := by show (ρ.1.set i _).length = _; rw [List.length_set]; exact R.len
  val := fun j d q => by
    rcases get_set_some q with ⟨_, q, _⟩ | ⟨nj, q⟩
    · cases q
    · exact R.val j d q
  own := fun j l q => by
    rcases get_set_some q with ⟨_, q, _⟩ | ⟨nj, q⟩
    · cases q
    · exact R.own j l q
  inj := fun j k m m' q q' => by
    rcases get_set_some q with ⟨_, q, _⟩ | ⟨nj, q⟩
    · cases q
    · rcases get_set_some q' with ⟨_, q', _⟩ | ⟨nk, q'⟩
      · cases q'
      · exact R.inj j k m m' q q'
  pin := fun j w q => by
    rcases get_set_some q with ⟨rfl, q, _⟩ | ⟨nj, q⟩
    · cases q; exact e
    · exact R.pin j w q
end
def lendE (B : DEnds) (i : Nat) (l : List D) (v : V) : DEnds := { B with nx := fun ρ' => ρ'.1[i]? = some (some (.pin v)) ∧ B.nx (backE ρ' i l) }
/-- for x in (made of slot i's own list): .., where slot i's list is not touched -/
def dForB (i : Nat) (it : DOv) (t : DGv) (body : DSv) : DSv := fun B ρ => ownAt ρ i fun l => it (ρ.1.set i (some (.v (.lst l))), ρ.2) fun ds ρ1 => ∀ v : V, forD t body (lendE B i l v) ds (ρ1.1.set i (some (.pin v)), ρ1.2)
section
variable {X : Cx} {c : C} {pos : Pos} {ds : DSv}
theorem ds_forB {i : Nat} {ts : List Nat} {tg iter : Expr} {body : List Stmt} {it : DOv} {t : DGv} (hp : PassesOwn (model X.prog X.w) X.A X.env X.xe) (hc : X.calm = true) (hi : DI X c tg iter it) (hg : DG X c ts tg t) (hb : DSs X c body ds)
    (hs : ∀ x, foldedSetIterable iter X.env x = pure x := by intro _; rfl) : DS X c (.For tg iter body [] pos) (dForB i it t ds) :=
  wkS (ps_for hp hc hi hg hb hs) fun E σ H ⟨ρ, H0, B, ⟨L, R⟩, q, k⟩ => by
    obtain ⟨l, ei, q⟩ := ownAt_d q
    obtain ⟨xs, hx, R', S'⟩ := R.stillU ei
    obtain ⟨e1, n0, ns, xs0, hx0, dx0⟩ := R.own i l ei
    have exs : xs0 = xs := by rw [hx] at hx0; cases hx0; rfl
    subst exs
    refine ⟨_, _, _, ⟨L, R'⟩, q, fun dl ρ1 H1 H01 J q1 ⟨L1, R1⟩ S1 ⟨G, Y, W, hG, hY⟩ => ?_⟩
    have q1 := q1 (.ref (L i))
    have hp1 : H01 (L i) = some (.lst xs0) := S1 _ _ upd_same
    have S01 : Same H0 H01 := S'.trans S1
    have done : ∀ (ρ4 : En) (σ4 : L2.St) (H04 H4 : Hp), (lendE B i l (.ref (L i))).nx ρ4 → Rel c ρ4 σ4 H04 H4 → Same H01 H04 → E.nx σ4 H4 := fun ρ4 σ4 H04 H4 ⟨e4, q4⟩ ⟨L4, R4⟩ S4 => by
      obtain ⟨H2, R5, S5⟩ := R4.unlend e4 (S4 _ _ hp1) ns (S01.trans S4) R.base n0 dx0
      exact k.nx _ σ4 H2 H4 q4 R5 S5
    refine for_it W (fun j σ H => ∃ ρ H0', Rel c ρ σ H0' H ∧ Same H01 H0' ∧ forD t ds (lendE B i l (.ref (L i))) (dl.drop j) ρ) ⟨_, H01, ⟨L1, R1.pinned e1⟩, Same.refl _, q1⟩ (fun j σ H _ ⟨_, H0', R', S', _⟩ => hG H (S'.trans R'.g.same)) ?_ ?_
    · rintro j v σ H H' hlt ⟨ρ2, H02, R2, S2, q2⟩ y
      obtain ⟨d, e1, e2⟩ := drop_cons hlt
      obtain ⟨H03, R3, S3, D3⟩ := hY j d c ρ2 σ H02 H v H' rfl e1 R2 S2 y
      rw [e2] at q2
      refine ⟨ρ2, H03, d, _, R3, D3, q2, fun ρ' σ' q' R' _ => ⟨ρ', H03, _, R', q', ?_⟩⟩
      have k3 := k.later (S01.trans (S2.trans S3))
      exact ⟨fun ρ4 σ4 H04 H4 q4 R4 S4 => ⟨ρ4, H04, R4, (S2.trans S3).trans S4, q4⟩, fun ρ4 σ4 H04 H4 q4 R4 S4 => done ρ4 σ4 H04 H4 q4 R4 ((S2.trans S3).trans S4), fun ρ4 σ4 H04 H4 q4 R4 S4 => ⟨ρ4, H04, R4, (S2.trans S3).trans S4, q4⟩, k3.rt, k3.ro⟩
    · rintro σ H ⟨ρ2, H02, R2, S2, q2⟩
      rw [List.drop_length] at q2
      exact done ρ2 σ H02 H q2 R2 S2
end
/-! ### list(x) of an own list: a new one -/
section
variable {X : Cx} {c : C} {e : Expr} {pos p : Pos} {x : Str}
def dCopyO (i : Nat) : DOv := fun ρ K => ownAt ρ i fun l => K l ρ
theorem do_listO {i : Nat} (hg : Gl X x) (hm : X.mg x = none) (hv : bootBuiltins x = some (.type "list")) (ha : PE X e (tVar i)) (hn : x ≠ "__name__" := by decide) (hdb : (x == ("__debug__" : Str)) = false := by decide)
    (he : starEach [e] X.env = (false, eval e X.env) :: starEach [] X.env := by rfl) (hpl : (backTo pos (starEach [] X.env)).any (·.1) = false := by rfl) : DO X c (.Call (.Name x p) [e] [] pos) (dCopyO i) :=
  wkE (pe_callTy call_list_of hg hm hv (pa_cons ha pa_nil he) hn hdb he hpl) fun σ H Q ⟨ρ, H0, K, ⟨L, R⟩, q, k⟩ => by
    obtain ⟨l, e0, q⟩ := ownAt_d q
    obtain ⟨v0, _, _, xs, h0, d0⟩ := R.own i l e0
    refine ⟨_, v0, L i, xs, rfl, .inl (SqL.of h0), fun p hp => ?_⟩
    obtain ⟨r, f⟩ := Rel.newO ⟨L, R⟩ hp d0
    exact k _ _ _ _ _ q r (Same.refl _) f
end
end DL
namespace DL
open PySem PySem.Spec PyProof.Rows L2
/-! ### .. another slot's value stands, too, where the loop does not read it -/
def valAt (ρ : En) (j : Nat) (k : D → Prop) : Prop := match ρ.1[j]? with
  | some (some (.v d)) => k d
  | _ => False
theorem valAt_d {ρ : En} {j : Nat} {k : D → Prop} (h : valAt ρ j k) : ∃ d, ρ.1[j]? = some (some (Sl.v d)) ∧ k d := by
  unfold valAt at h
  split at h
  · exact ⟨_, by assumption, h⟩
  · exact h.elim
def lendE1 (B : DEnds) (i j : Nat) (l : List D) (d : D) (v w : V) : DEnds := { B with nx := fun ρ' => ρ'.1[i]? = some (some (.pin v)) ∧ ρ'.1[j]? = some (some (.pin w)) ∧ B.nx (setV (backE ρ' i l) j d) }
def dForB1 (i j : Nat) (it : DOv) (t : DGv) (body : DSv) : DSv := fun B ρ => ownAt ρ i fun l => valAt ρ j fun d => it (ρ.1.set i (some (.v (.lst l))), ρ.2) fun ds ρ1 => ∀ v w : V, forD t body (lendE1 B i j l d v w) ds ((ρ1.1.set i (some (.pin v))).set j (some (.pin w)), ρ1.2)
theorem set_same {α : Type} {l : List α} {j : Nat} {a : α} (h : l[j]? = some a) : l.set j a = l := by
  obtain ⟨h1, h2⟩ := List.getElem?_eq_some_iff.mp h
  refine List.ext_getElem (by simp) fun k h3 h4 => ?_
  rw [List.getElem_set]
  split
  · rename_i e
    subst e; exact h2.symm
  · rfl
section
variable {X : Cx} {c : C} {pos : Pos} {ds : DSv}
theorem ds_forB1 {i j : Nat} {ts : List Nat} {tg iter : Expr} {body : List Stmt} {it : DOv} {t : DGv} (hij : j ≠ i) (hp : PassesOwn (model X.prog X.w) X.A X.env X.xe) (hc : X.calm = true) (hi : DI X c tg iter it) (hg : DG X c ts tg t) (hb : DSs X c body ds)
    (hs : ∀ x, foldedSetIterable iter X.env x = pure x := by intro _; rfl) : DS X c (.For tg iter body [] pos) (dForB1 i j it t ds) :=
  wkS (ps_for hp hc hi hg hb hs) fun E σ H ⟨ρ, H0, B, ⟨L, R⟩, q, k⟩ => by
    obtain ⟨l, ei, q⟩ := ownAt_d q
    obtain ⟨d, ej, q⟩ := valAt_d q
    obtain ⟨w, ew, dw⟩ := R.val j d ej
    obtain ⟨xs, hx, R', S'⟩ := R.stillU ei
    obtain ⟨e1, n0, ns, xs0, hx0, dx0⟩ := R.own i l ei
    have exs : xs0 = xs := by rw [hx] at hx0; cases hx0; rfl
    subst exs
    refine ⟨_, _, _, ⟨L, R'⟩, q, fun dl ρ1 H1 H01 J q1 ⟨L1, R1⟩ S1 ⟨G, Y, W, hG, hY⟩ => ?_⟩
    have q1 := q1 (.ref (L i)) w
    have hp1 : H01 (L i) = some (.lst xs0) := S1 _ _ upd_same
    have S01 : Same H0 H01 := S'.trans S1
    have done : ∀ (ρ4 : En) (σ4 : L2.St) (H04 H4 : Hp), (lendE1 B i j l d (.ref (L i)) w).nx ρ4 → Rel c ρ4 σ4 H04 H4 → Same H01 H04 → E.nx σ4 H4 := fun ρ4 σ4 H04 H4 ⟨e4, e5, q4⟩ ⟨L4, R4⟩ S4 => by
      have ej4 := R4.pin j w e5
      obtain ⟨H2, ⟨L5, R5⟩, S5⟩ := R4.unlend e4 (S4 _ _ hp1) ns (S01.trans S4) R.base n0 dx0
      have R6 := R5.setV j (Den.mono S5 _ _ dw)
      rw [set_same ej4] at R6
      exact k.nx _ σ4 H2 H4 q4 ⟨L5, R6⟩ S5
    refine for_it W (fun m σ H => ∃ ρ H0', Rel c ρ σ H0' H ∧ Same H01 H0' ∧ forD t ds (lendE1 B i j l d (.ref (L i)) w) (dl.drop m) ρ) ⟨_, H01, ⟨L1, (R1.pinned e1).pinned ew⟩, Same.refl _, q1⟩ (fun m σ H _ ⟨_, H0', R', S', _⟩ => hG H (S'.trans R'.g.same)) ?_ ?_
    · rintro m v σ H H' hlt ⟨ρ2, H02, R2, S2, q2⟩ y
      obtain ⟨d, e1, e2⟩ := drop_cons hlt
      obtain ⟨H03, R3, S3, D3⟩ := hY m d c ρ2 σ H02 H v H' rfl e1 R2 S2 y
      rw [e2] at q2
      refine ⟨ρ2, H03, d, _, R3, D3, q2, fun ρ' σ' q' R' _ => ⟨ρ', H03, _, R', q', ?_⟩⟩
      have k3 := k.later (S01.trans (S2.trans S3))
      exact ⟨fun ρ4 σ4 H04 H4 q4 R4 S4 => ⟨ρ4, H04, R4, (S2.trans S3).trans S4, q4⟩, fun ρ4 σ4 H04 H4 q4 R4 S4 => done ρ4 σ4 H04 H4 q4 R4 ((S2.trans S3).trans S4), fun ρ4 σ4 H04 H4 q4 R4 S4 => ⟨ρ4, H04, R4, (S2.trans S3).trans S4, q4⟩, k3.rt, k3.ro⟩
    · rintro σ H ⟨ρ2, H02, R2, S2, q2⟩
      rw [List.drop_length] at q2
      exact done ρ2 σ H02 H q2 R2 S2
end
end DL
namespace DL
open PySem PySem.Spec PyProof.Rows L2
/-! ### an own list lent to a test -/
section
variable {X : Cx} {c : C} {e : Expr} {t : DTv}
def dBorTest (i : Nat) (t : DTv) : DTv := fun ρ K => ownAt ρ i fun l => t (noOwn (ρ.1.set i (some (.v (.lst l)))), ρ.2) fun b ρ1 => K b (ρ.1, ρ1.2)
theorem dt_bor {i : Nat} (h : ∀ Hs H0s : Hp, DT X ⟨c.toG, Hs, H0s⟩ e t) : DT X c e (dBorTest i t) := ⟨fun pins s σ H Q I ⟨ρ, H0, K, ⟨L, R⟩, q, k⟩ => by
  obtain ⟨l, ei, q⟩ := ownAt_d q
  obtain ⟨xs, hx, R', S'⟩ := R.stillU ei
  obtain ⟨_, n0, ns, xs0, hx0, dx0⟩ := R.own i l ei
  refine (h H (upd H0 (L i) (.lst xs))).run pins s σ H Q I ⟨_, _, _, ⟨L, R'.hide⟩, q, fun b ρ1 H1 H01 q1 ⟨L1, R1⟩ S1 => ?_⟩
  let H2 : Hp := fun b => if b = L i then none else H01 b
  have h2n : ∀ b, b ≠ L i → H2 b = H01 b := fun b z => if_neg z
  have h2s : H2 (L i) = none := if_pos rfl
  have S02 : Same H0 H2 := fun b o e => by
    have z : b ≠ L i := fun z => by rw [z, n0] at e; cases e
    rw [h2n b z]; exact S1 _ _ (S' _ _ e)
  have G : RelG (c.here H0 H) ρ1.2 H2 H1 := by
    refine ⟨fun b o e => ?_, R1.keep, S02, fun b e z => ?_, fun p hp => ?_⟩
    · by_cases z : b = L i
      · rw [z, h2s] at e; cases e
      · rw [h2n b z] at e; exact R1.same b o e
    · by_cases y : b = L i
      · rw [y]; exact h2s
      · rw [h2n b y]
        refine R1.new b ?_ z
        show upd H0 (L i) _ b = none
        rw [upd_ne y]; exact e
    · obtain ⟨a1, a2, a3, a4, a5⟩ := R1.stt p hp
      obtain ⟨b1, b2, b3, b4, b5⟩ := R.stt p hp
      exact ⟨a1, ⟨(R.toRelG.sttO hp).1, a2.2⟩, ⟨(R.toRelG.sttO hp).2, a3.2⟩, a4, a5⟩
  exact k b (ρ.1, ρ1.2) H1 H2 q1 ⟨L, R.back G⟩ S02⟩
end
end DL
namespace DL
open PySem PySem.Spec PyProof.Rows L2
/-! ### for over an own list that is own again behind it: all other values stand -/
section
variable {X : Cx} {c : C} {e : Expr} {pos : Pos} {ds : DSv}
def loopO (B : DEnds) (i : Nat) (l : List D) (v : V) : DEnds := ⟨fun ρ' => ρ'.1[i]? = some (some (.pin v)) ∧ B.nx ((noOwn ρ'.1).set i (some (.own l)), ρ'.2), fun _ _ => False, fun _ _ => False, fun _ => False, fun _ => False⟩
def dForO (i : Nat) (t : DGv) (body : DSv) : DSv := fun B ρ => ownAt ρ i fun l => ∀ v : V, forD t body (loopO B i l v) l ((noOwn ρ.1).set i (some (.pin v)), ρ.2)
def yS (g : DL.G) (ds : DSv) : TS := fun E σ H => ∃ Hs H0s, tS ⟨g, Hs, H0s⟩ ds E σ H
theorem ys_of {X : Cx} {g : DL.G} {sts : List Stmt} {ds : DSv} (h : ∀ Hs H0s, DSs X ⟨g, Hs, H0s⟩ sts ds) : PSs X sts (yS g ds) := ⟨fun pins s σ H E I ⟨Hs, H0s, q⟩ => (h Hs H0s).run pins s σ H E I q⟩
theorem RelL.pinned2 {ρ : En} {σ : L2.St} {H0 H : Hp} {L : Nat → Addr} (R : RelL c ρ σ H0 H L) {i : Nat} {v : V} (e : σ[i]? = some (some v)) : RelL c (ρ.1.set i (some (.pin v)), ρ.2) σ H0 H L := R.pinned e
theorem RelL.unpin {ρ ρ2 : En} {σ σ2 : L2.St} {H0 H H02 H2 : Hp} {L L2 : Nat → Addr} (R : RelL c ρ σ H0 H L) (R2 : RelL (c.here H0 H) ρ2 σ2 H02 H2 L2) {i : Nat} {l : List D} (ei : ρ.1[i]? = some (some (Sl.own l))) (ep : ρ2.1[i]? = some (some (Sl.pin (.ref (L i))))) :
    RelL c ((noOwn ρ2.1).set i (some (.own l)), ρ2.2) σ2 H02 H2 L := by
  obtain ⟨e1, n0, ns, xs, hx, dx⟩ := R.own i l ei
  have ho : ∀ (j : Nat) l', ((noOwn ρ2.1).set i (some (Sl.own l)))[j]? = some (some (Sl.own l')) → j = i ∧ l' = l := fun j l' e => by
    rcases get_set_some e with ⟨a, b, _⟩ | ⟨a, b⟩
    · cases b; exact ⟨a, rfl⟩
    · obtain ⟨d, z, _⟩ := noOwn_get b
      cases z
  refine ⟨R.toRelG.back R2.toRelG, ?_, fun j d e => ?_, fun j l' e => ?_, fun j j' l' l'' e e' _ => ?_, fun j v e => ?_⟩
  · show ((noOwn ρ2.1).set i _).length = _
    rw [List.length_set, ← R2.len]; simp [noOwn]
  · rcases get_set_some e with ⟨_, b, _⟩ | ⟨a, b⟩
    · cases b
    · obtain ⟨d', z, h⟩ := noOwn_get b
      cases z
      exact R2.val j d h
  · obtain ⟨rfl, rfl⟩ := ho j l' e
    exact ⟨R2.pin _ _ ep, R2.new _ n0 (by rw [show (c.here H0 H).Hs (L j) = H (L j) from rfl, hx]; exact fun z => nomatch z), ns, xs, R2.keep _ _ hx (R.notSt ei), DenL.mono R2.base _ _ dx⟩
  · rw [(ho j l' e).1, (ho j' l'' e').1]
  · rcases get_set_some e with ⟨_, b, _⟩ | ⟨a, b⟩
    · cases b
    · obtain ⟨d', z, h⟩ := noOwn_get b
      cases z
theorem ds_forO {i : Nat} {ts : List Nat} {tg iter : Expr} {body : List Stmt} {t : DGv} (hp : PassesOwn (model X.prog X.w) X.A X.env X.xe) (hc : X.calm = true) (hi : PE X iter (tVar i)) (hg : ∀ Hs H0s, DG X ⟨c.toG, Hs, H0s⟩ ts tg t) (hb : ∀ Hs H0s, DSs X ⟨c.toG, Hs, H0s⟩ body ds)
    (hs : ∀ x, foldedSetIterable iter X.env x = pure x := by intro _; rfl) : DS X c (.For tg iter body [] pos) (dForO i t ds) :=
  wkS (ps_for hp hc (pi_q hi) (xg_of hg) (ys_of hb) hs) fun E σ H ⟨ρ, H0, B, ⟨L, R⟩, q, k⟩ => by
    obtain ⟨l, ei, q⟩ := ownAt_d q
    obtain ⟨e1, n0, ns, xs, hx, dx⟩ := R.own i l ei
    have q := q (.ref (L i))
    have len : xs.length = l.length := dx.len
    have R1 : RelL (c.here H0 H) ((noOwn ρ.1).set i (some (.pin (.ref (L i)))), ρ.2) σ H0 H L := (R.hide).pinned e1
    refine ⟨.ref (L i), e1, L i, rfl, .inl ⟨⟨xs, SqL.of hx⟩, ?_⟩⟩
    have w : Walk (Itl X.K (L i)) xs.length (fun H => SqL X.K H (L i) xs) (YAt xs) := walk_list
    refine for_it w (fun m σ H2 => ∃ ρ2 H02, Rel (c.here H0 H) ρ2 σ H02 H2 ∧ Same H0 H02 ∧ forD t ds (loopO B i l (.ref (L i))) (l.drop m) ρ2) ⟨_, H0, ⟨L, R1⟩, Same.refl _, q⟩ (fun m σ H2 _ ⟨_, H02, R2, _, _⟩ => SqL.of (R2.g.keep _ _ hx (R.notSt ei))) ?_ ?_
    · rintro m v σ2 H2 H2' hlt ⟨ρ2, H02, ⟨Lz, R2⟩, S2, q2⟩ ⟨eH, ev⟩
      subst eH
      obtain ⟨d, e2, e3⟩ := drop_cons (l := l) (i := m) (by omega)
      obtain ⟨u, h1, h2⟩ := dx.get e2
      rw [h1] at ev; cases ev
      rw [e3] at q2
      refine ⟨_, _, ρ2, H02, d, _, ⟨Lz, R2⟩, Den.mono S2 _ _ h2, q2, fun ρ' σ' q' R' _ => ⟨_, _, ρ', H02, _, R', q', ?_⟩⟩
      have done : ∀ (ρ4 : En) (σ4 : L2.St) (H04 H4 : Hp), (loopO B i l (.ref (L i))).nx ρ4 → Rel (c.here H0 H) ρ4 σ4 H04 H4 → Same H02 H04 → E.nx σ4 H4 := fun ρ4 σ4 H04 H4 ⟨e4, q4⟩ ⟨L4, R4⟩ S4 =>
        k.nx _ σ4 H04 H4 q4 ⟨L, R.unpin R4 ei e4⟩ (S2.trans S4)
      exact ⟨fun ρ4 σ4 H04 H4 q4 R4 S4 => ⟨ρ4, H04, R4, S2.trans S4, q4⟩, done, fun ρ4 σ4 H04 H4 q4 R4 S4 => ⟨ρ4, H04, R4, S2.trans S4, q4⟩, fun _ _ _ _ _ _ z _ _ _ => z.elim, fun _ _ _ _ _ _ z _ _ _ => z.elim⟩
    · rintro σ2 H2 ⟨ρ2, H02, ⟨Lz, R2⟩, S2, q2⟩
      rw [len, List.drop_length] at q2
      exact k.nx _ σ2 H02 H2 q2.2 ⟨L, R.unpin R2 ei q2.1⟩ S2
/-! ### an int among ints -/
def fInI (neg : Bool) : F2 := fun x y P => asI x fun i => asQ y fun l => ∃ ns : List Int, l = ns.map D.int ∧ P (.bl (if neg then !decide (i ∈ ns) else decide (i ∈ ns)))
theorem denL_intsV {g : DL.G} {H : Hp} : ∀ (ns : List Int) (xs : List V), DenL g H (ns.map D.int) xs → xs = ns.map V.int
  | [], xs, h => by unfold DenL at h; exact h
  | n :: ns, xs, h => by
    unfold DenL at h
    obtain ⟨x, r, rfl, q, t⟩ := h
    unfold Den at q
    subst q
    rw [denL_intsV ns r t]; rfl
theorem inV_ints (i : Int) : ∀ ns : List Int, inV (.int i) (ns.map V.int) = decide (i ∈ ns)
  | [] => rfl
  | n :: ns => by
    have ih := inV_ints i ns
    unfold inV at ih ⊢
    rw [List.map_cons, List.any_cons, ih]
    show ((n == i) || _) = _
    by_cases h : n = i
    · subst h; simp
    · have h2 : ¬ i = n := fun z => h z.symm
      simp [h, h2]
theorem flat_ints : ∀ ns : List Int, (ns.map V.int).all flatV = true
  | [] => rfl
  | n :: ns => by rw [List.map_cons, List.all_cons, flat_ints ns]; rfl
theorem r2_inI {neg : Bool} : R2D c (rIn c.K neg) (fInI neg) := fun ρ σ H0 H dx dy x y P Q R d1 d2 q k => by
  obtain ⟨i, rfl, rfl, q⟩ := asI_d q d1
  obtain ⟨l, a, xs, rfl, hs, dl, ns, rfl, q⟩ := asQ_d q d2
  have := denL_intsV ns xs dl
  subst this
  refine ⟨a, _, rfl, ?_, rfl, flat_ints ns, ?_⟩
  · rcases hs with h | h
    · exact .inl (SqL.of (R.same _ _ h))
    · exact .inr (sqT_same R.same h)
  · rw [inV_ints]
    exact k _ _ _ _ q R (Same.refl _) den_bl
end
end DL
namespace DL
open PySem PySem.Spec PyProof.Rows L2
/-! ### an own list lent to an expression that tells something without lists -/
section
def dBorL (i : Nat) (d : DEv) : DEv := fun ρ K => ownAt ρ i fun l => d (noOwn (ρ.1.set i (some (.v (.lst l)))), ρ.2) fun x ρ1 => lfD x = true ∧ K x (ρ.1, ρ1.2)
variable {X : Cx} {c : C} {e : Expr} {d : DEv}
theorem de_borL {i : Nat} (h : ∀ Hs H0s : Hp, DE X ⟨c.toG, Hs, H0s⟩ e d) : DE X c e (dBorL i d) := ⟨fun pins s σ H Q I ⟨ρ, H0, K, ⟨L, R⟩, q, k⟩ => by
  obtain ⟨l, ei, q⟩ := ownAt_d q
  obtain ⟨xs, hx, R', S'⟩ := R.stillU ei
  obtain ⟨_, n0, ns, xs0, hx0, dx0⟩ := R.own i l ei
  refine (h H (upd H0 (L i) (.lst xs))).run pins s σ H Q I ⟨_, _, _, ⟨L, R'.hide⟩, q, fun x ρ1 v H1 H01 q1 ⟨L1, R1⟩ S1 D1 => ?_⟩
  obtain ⟨f1, q1⟩ := q1
  let H2 : Hp := fun b => if b = L i then none else H01 b
  have h2n : ∀ b, b ≠ L i → H2 b = H01 b := fun b z => if_neg z
  have h2s : H2 (L i) = none := if_pos rfl
  have S02 : Same H0 H2 := fun b o e => by
    have z : b ≠ L i := fun z => by rw [z, n0] at e; cases e
    rw [h2n b z]; exact S1 _ _ (S' _ _ e)
  have G : RelG (c.here H0 H) ρ1.2 H2 H1 := by
    refine ⟨fun b o e => ?_, R1.keep, S02, fun b e z => ?_, fun p hp => ?_⟩
    · by_cases z : b = L i
      · rw [z, h2s] at e; cases e
      · rw [h2n b z] at e; exact R1.same b o e
    · by_cases y : b = L i
      · rw [y]; exact h2s
      · rw [h2n b y]
        refine R1.new b ?_ z
        show upd H0 (L i) _ b = none
        rw [upd_ne y]; exact e
    · obtain ⟨a1, a2, a3, a4, a5⟩ := R1.stt p hp
      obtain ⟨b1, b2, b3, b4, b5⟩ := R.stt p hp
      exact ⟨a1, ⟨(R.toRelG.sttO hp).1, a2.2⟩, ⟨(R.toRelG.sttO hp).2, a3.2⟩, a4, a5⟩
  exact k x (ρ.1, ρ1.2) v H1 H2 q1 ⟨L, R.back G⟩ S02 (Den.lf (S1 _ _ upd_same) h2n x v D1 f1)⟩
end
end DL
namespace DL
open PySem PySem.Spec PyProof.Rows L2
/-! ### an own list read for good: at the first time it ends being own -/
section
def dFz (i : Nat) : DEv := fun ρ K => match ρ.1[i]? with
  | some (some (.own l)) => K (.lst l) (ρ.1.set i (some (.v (.lst l))), ρ.2)
  | some (some (.v d)) => K d ρ
  | _ => False
variable {X : Cx} {c : C} {e : Expr}
theorem de_fz {i : Nat} (h : PE X e (tVar i)) : DE X c e (dFz i) := wkE h fun σ H Q ⟨ρ, H0, K, ⟨L, R⟩, q, k⟩ => by
  unfold dFz at q
  split at q
  · rename_i l e
    obtain ⟨H0', R', S', D', e1⟩ := R.still e
    exact ⟨_, e1, k _ _ _ _ _ q ⟨L, R'⟩ S' D'⟩
  · rename_i d e
    obtain ⟨v, e1, e2⟩ := R.val i d e
    exact ⟨v, e1, k _ _ v H H0 q ⟨L, R⟩ (Same.refl _) e2⟩
  · exact q.elim
end
end DL
namespace DL
open PySem PySem.Spec PyProof.Rows L2
/-! ### defs that may raise: the class told by its tag -/
abbrev DFX := List D → Stt → (Sl → Stt → Prop) → (Nat → Stt → Prop) → Prop
def spX (n : Nat) (K : PySem.W.Frag) (cl : Nat → Addr) (f : DFX) : Sp := fun vs H Q E => ∃ (sd : Option (Addr × Addr)) (ds : List D) (st : Stt) (H0 : Hp) (Kf : Sl → Stt → Prop) (Kx : Nat → Stt → Prop),
  RelG ⟨⟨K, sd, cl⟩, H, H0⟩ st H0 H ∧ ds.length = n ∧ DenL ⟨K, sd, cl⟩ H0 ds vs ∧ f ds st Kf Kx ∧
  (∀ d st' v H' H0', Kf (.v d) st' → RelG ⟨⟨K, sd, cl⟩, H, H0⟩ st' H0' H' → Den ⟨K, sd, cl⟩ H0' d v → Q v H') ∧
  (∀ l st' a xs H' H0', Kf (.own l) st' → RelG ⟨⟨K, sd, cl⟩, H, H0⟩ st' H0' H' → H a = none → H0' a = none → H' a = some (.lst xs) → DenL ⟨K, sd, cl⟩ H0' l xs → Q (.ref a) H') ∧
  (∀ t st' H' H0', Kx t st' → RelG ⟨⟨K, sd, cl⟩, H, H0⟩ st' H0' H' → E (.ref (cl t)) none H')
def noX (f : DFX) : DFn := fun ds st Kf => f ds st Kf fun _ _ => False
theorem fn_noX {P : Program} {w : World} {K : PySem.W.Frag} {mg : Str → Option Value} {base : Heap} {f : Addr} {fd : FuncData} {ps : List Str} {k n : Nat} {cl : Nat → Addr} {fx : DFX} (F : FnOk P w K mg base (L2.CX P w) k f fd ps (spX n K cl fx)) : FnOk P w K mg base CX0 k f fd ps (spD n K cl (noX fx)) :=
  ⟨fun vs H Q E ⟨sd, ds, st, H0, Kf, R, hl, Dn, q, k1, k2⟩ => F.len vs H Q (fun _ _ _ => False) ⟨sd, ds, st, H0, Kf, _, R, hl, Dn, q, k1, k2, fun _ _ _ _ z => z.elim⟩,
   fun A outer s H args us vs Q E hr he hb hv ⟨sd, ds, st, H0, Kf, R, hl, Dn, q, k1, k2⟩ => codeAny_mono (F.run A outer s H args us vs Q (fun _ _ _ => False) hr he hb hv ⟨sd, ds, st, H0, Kf, _, R, hl, Dn, q, k1, k2, fun _ _ _ _ z => z.elim⟩) fun r s' hq => by
     cases r with
     | error e =>
       obtain ⟨_, _, _, _, _, _, _, _, _, _, _, _, z⟩ := hq
       exact z
     | ok fl => cases fl <;> exact hq⟩
abbrev RXv := Nat → En → Prop
abbrev DXv := DEnds → RXv → En → Prop
abbrev DEXv := En → (D → En → Prop) → RXv → Prop
structure ImpX (c : C) (H0 : Hp) (R : RXv) (W : WX) : Prop where
  x : ∀ t ρ σ H0' H, R t ρ → Rel c ρ σ H0' H → Same H0 H0' → W (.ref (c.cls t)) none σ H
theorem ImpX.later {c : C} {H0 H0' : Hp} {R : RXv} {W : WX} (h : ImpX c H0 R W) (s : Same H0 H0') : ImpX c H0' R W := ⟨fun t ρ σ h0 H q r S => h.x t ρ σ h0 H q r (s.trans S)⟩
def tX (c : C) (dx : DXv) (W : WX) : TS := fun E σ H => ∃ ρ H0 B R, Rel c ρ σ H0 H ∧ dx B R ρ ∧ ImpE c H0 B E ∧ ImpX c H0 R W
def tDX (c : C) (d : DEXv) (W : WX) : TE := fun σ H Q => ∃ ρ H0 K R, Rel c ρ σ H0 H ∧ d ρ K R ∧ (∀ r ρ' v H' H0', K r ρ' → Rel c ρ' σ H0' H' → Same H0 H0' → Den c.toG H0' r v → Q v H') ∧ ImpX c H0 R W
section
variable {X : Cx} {c : C} {e a b : Expr} {es : List Expr} {d da db : DEv} {dr : DAv} {pos p : Pos} {x : Str} {st : Stmt} {rest : List Stmt} {ds dt : DSv} {dx dy : DXv} {W : WX}
variable {k n : Nat} {f : Addr} {fd : FuncData} {ps : List Str} {fn : DFX}
/-- f(..), which may raise -/
def dxFn (f : DFX) (da : DAv) : DEXv := fun ρ K R => da ρ fun ds ρ1 => f ds ρ1.2 (fun r st => K (frz r) (ρ1.1, st)) (fun t st => R t (ρ1.1, st))
theorem dxe_fn {cl : Nat → Addr} (F : FnOk X.prog X.w X.K X.mg X.base (L2.CX X.prog X.w) k f fd ps (spX n X.K cl fn)) (tk : Takes X W) (hr : Room k X.A) (hg : Gl X x) (hm : X.mg x = some (.ref f)) (hk : PySem.W.keepIn X.K (.ref f) = true) (hb : Binds X.K fd ps []) (ha : DA X c (e :: es) dr)
    (hdb : (x == ("__debug__" : Str)) = false := by decide) (he : starEach (e :: es) X.env = (false, eval e X.env) :: starEach es X.env := by rfl) (hpl : (backTo pos (starEach es X.env)).any (·.1) = false := by rfl) (hK : X.K = c.K := by rfl) (hC : cl = c.cls := by rfl) :
    PE X (.Call (.Name x p) (e :: es) [] pos) (tDX c (dxFn fn (lenIs n dr)) W) := wkE (pe_callS F hr hg hm hk hb (fun σ => passAt tk σ) ha hdb he hpl) fun σ H Q ⟨ρ, H0, K, R, R0, q, k, kx⟩ =>
  ⟨ρ, H0, _, R0, q, fun ds ρ1 vs H1 H01 q1 ⟨L, R1⟩ S1 D1 => by
    show spX n X.K cl fn vs H1 Q (WE W σ)
    rw [hK, hC]
    refine ⟨c.sd, ds, ρ1.2, H01, _, _, R1.toRelG.enter, q1.1, D1, q1.2, fun d st' v H' H0' kf R' D' => k _ _ _ _ _ kf ⟨L, R1.back R'⟩ (S1.trans R'.base) D', fun l st' a xs H' H0' kf R' n0 h0 h D' => ?_, fun t st' H' H0' kx' R' => kx.x t _ σ H0' H' kx' ⟨L, R1.back R'⟩ (S1.trans R'.base)⟩
    obtain ⟨H0'', R'', S'', dn⟩ := (R1.back R').freeze (R1.freshB n0 h0 h D')
    exact k _ _ _ _ _ kf ⟨L, R''⟩ (S1.trans (R'.base.trans S'')) dn⟩
/-! statements -/
def xOf (ds : DSv) : DXv := fun B _ ρ => ds B ρ
theorem dxs_of (h : PSs X rest (tS c ds)) : PSs X rest (tX c (xOf ds) W) := wkSs h fun E σ H ⟨ρ, H0, B, R, R0, q, k, _⟩ => ⟨ρ, H0, B, R0, q, k⟩
theorem dx_of (h : PS X st (tS c ds)) : PS X st (tX c (xOf ds) W) := wkS h fun E σ H ⟨ρ, H0, B, R, R0, q, k, _⟩ => ⟨ρ, H0, B, R0, q, k⟩
def xSeq (a b : DXv) : DXv := fun B R ρ => a { B with nx := fun ρ' => b B R ρ' } R ρ
theorem dxs_cons (h : PS X st (tX c dx W)) (h2 : PSs X rest (tX c dy W)) : PSs X (st :: rest) (tX c (xSeq dx dy) W) := wkSs (pss_cons h h2) fun E σ H ⟨ρ, H0, B, R, R0, q, k, kx⟩ =>
  ⟨ρ, H0, _, R, R0, q, k.nx' fun ρ' σ' H0' H' q' R' S' => ⟨ρ', H0', B, R, R', q', k.later S', kx.later S'⟩, kx⟩
theorem dxs_one (h : PS X st (tX c dx W)) : PSs X [st] (tX c dx W) := pss_one h
def xIf (t : DTv) (a b : DXv) : DXv := fun B R ρ => t ρ fun x ρ1 => Br x (a B R ρ1) (b B R ρ1)
theorem dx_if {t : DTv} {A B' : List Stmt} {cnd : Expr} (hc : DT X c cnd t) (ha : PSs X A (tX c dx W)) (hb : PSs X B' (tX c dy W)) : PS X (.If cnd A B' pos) (tX c (xIf t dx dy) W) := wkS (ps_if hc ha hb) fun E σ H ⟨ρ, H0, B, R, R0, q, k, kx⟩ =>
  ⟨ρ, H0, _, R0, q, fun x ρ1 H1 H01 q1 R1 S1 => by
    cases x with
    | true => rw [if_pos rfl]; exact ⟨ρ1, H01, B, R, R1, q1.1 rfl, k.later S1, kx.later S1⟩
    | false => rw [if_neg Bool.false_ne_true]; exact ⟨ρ1, H01, B, R, R1, q1.2 rfl, k.later S1, kx.later S1⟩⟩
def xSet (i : Nat) (d : DEXv) : DXv := fun B R ρ => d ρ (fun x ρ1 => B.nx (setV ρ1 i x)) R
theorem dx_set {i : Nat} {y : Str} {py : Pos} {d : DEXv} (hN : X.N.Nodup) (hi : X.N[i]? = some y) (hx : Loc X.env.scope y) (he : PE X e (tDX c d W)) (hs : swapsWith e (some (.Name y py)) pos.line X.env = pure false := by rfl) (hf : X.fn y = true ∨ X.env.scope.names.lookup y = some .local := by first | exact .inl rfl | exact .inr rfl | assumption) :
    PS X (.Assign [.Name y py] e pos) (tX c (xSet i d) W) := wkS (ps_set hN hi hx he hs hf) fun E σ H ⟨ρ, H0, B, R, R0, q, k, kx⟩ =>
  ⟨ρ, H0, _, R, R0, q, fun x ρ1 v H1 H01 q1 ⟨L, R1⟩ S1 D1 => k.nx _ _ H01 H1 q1 ⟨L, R1.setV i D1⟩ S1, kx⟩
def xRet (d : DEXv) : DXv := fun B R ρ => d ρ (fun x ρ1 => B.rt x ρ1) R
theorem dx_ret {d : DEXv} (he : PE X e (tDX c d W)) : PS X (.Return (some e) pos) (tX c (xRet d) W) := wkS (ps_ret he) fun E σ H ⟨ρ, H0, B, R, R0, q, k, kx⟩ =>
  ⟨ρ, H0, _, R, R0, q, fun x ρ1 v H1 H01 q1 R1 S1 D1 => k.rt x ρ1 σ v H01 H1 q1 R1 S1 D1, kx⟩
/-- an own error's class -/
structure ExcT (K : PySem.W.Frag) (mg : Str → Option Value) (x : Str) (C : Addr) : Prop where
  gC : mg x = some (.ref C)
  q : PySem.W.excIn K C [.type "ValueError", .type "Exception", .type "BaseException", .type "object"] "ValueError.__new__" = true
  kC : PySem.W.keepIn K (.ref C) = true
  b : PySem.W.subIn K (.ref C) (.type "BaseException") = some true
  t : PySem.W.typeIn K (.ref C) = some (.type "type")
def xRaise (t : Nat) : DXv := fun _ R ρ => R t ρ
theorem dx_raise {t : Nat} {m : Str} {j : Nat} {p2 pos' : Pos} (hc : X.calm = true) (tk : Takes X W) (T : ExcT X.K X.mg x (c.cls t)) (hg : Gl X x) (hdb : (x == ("__debug__" : Str)) = false := by decide) :
    PS X (.Raise (some (.Call (.Name x p) [.Constant (.str m) j p2] [] pos)) none pos') (tX c (xRaise t) W) :=
  wkS (ps_raise hc tk (pmk_own PySem.F.excBase_ValueError T.q T.gC T.kC (raises_own T.b T.t) hg hdb)) fun E σ H ⟨ρ, H0, B, R, R0, q, k, kx⟩ => kx.x t ρ σ H0 H q R0 (Same.refl _)
/-! ### a try -/
theorem RelL.setPin {ρ : En} {σ : L2.St} {H0 H : Hp} {L : Nat → Addr} (R : RelL c ρ σ H0 H L) (i : Nat) (v : V) : RelL c (ρ.1.set i (some (.pin v)), ρ.2) (σ.set i (some v)) H0 H L where
  toRelG := R.toRelG
  len := by show (ρ.1.set i _).length = _; rw [List.length_set, List.length_set]; exact R.len
  val := fun j d e => by
    rcases get_set_some e with ⟨rfl, e, hl⟩ | ⟨nj, e⟩
    · cases e
    · rw [List.getElem?_set_ne (Ne.symm nj)]
      exact R.val j d e
  own := fun j l e => by
    rcases get_set_some e with ⟨rfl, e, _⟩ | ⟨nj, e⟩
    · cases e
    · rw [List.getElem?_set_ne (Ne.symm nj)]
      exact R.own j l e
  inj := fun j k m m' e e' => by
    rcases get_set_some e with ⟨rfl, e, _⟩ | ⟨nj, e⟩
    · cases e
    · rcases get_set_some e' with ⟨rfl, e', _⟩ | ⟨nk, e'⟩
      · cases e'
      · exact R.inj j k m m' e e'
  pin := fun j w e => by
    rcases get_set_some e with ⟨rfl, e, hl⟩ | ⟨nj, e⟩
    · cases e
      rw [List.getElem?_set_self (by rw [← R.len]; exact hl)]
    · rw [List.getElem?_set_ne (Ne.symm nj)]
      exact R.pin j w e
theorem RelL.dropS {ρ : En} {σ : L2.St} {H0 H : Hp} {L : Nat → Addr} (R : RelL c ρ σ H0 H L) (i : Nat) : RelL c (ρ.1.set i none, ρ.2) (σ.set i none) H0 H L where
  toRelG := R.toRelG
  len := by show (ρ.1.set i none).length = _; rw [List.length_set, List.length_set]; exact R.len
  val := fun j d e => by
    obtain ⟨nj, e⟩ := get_set_none e
    rw [List.getElem?_set_ne (Ne.symm nj)]; exact R.val j d e
  own := fun j d e => by
    obtain ⟨nj, e⟩ := get_set_none e
    rw [List.getElem?_set_ne (Ne.symm nj)]; exact R.own j d e
  inj := fun j k m m' e e' => R.inj j k m m' (get_set_none e).2 (get_set_none e').2
  pin := fun j d e => by
    obtain ⟨nj, e⟩ := get_set_none e
    rw [List.getElem?_set_ne (Ne.symm nj)]; exact R.pin j d e
def offE (i : Nat) (B : DEnds) : DEnds := { B with nx := fun ρ => B.nx (ρ.1.set i none, ρ.2), bk := fun ρ => B.bk (ρ.1.set i none, ρ.2), ct := fun ρ => B.ct (ρ.1.set i none, ρ.2) }
def dTryAs (i t0 : Nat) (body : DXv) (suite : Addr → DSv) : DSv := fun B ρ => body B (fun t ρ1 => t = t0 ∧ ∀ a : Addr, suite a (offE i B) (ρ1.1.set i (some (.pin (.ref a))), ρ1.2)) ρ
theorem ds_tryas {i t0 : Nat} {y : Str} {C : Value} {b₀ : Stmt} {body suite : List Stmt} {np pos' : Pos} {bx : DXv} {su : Addr → DSv} (hs : X.stack = X.env :: X.outer) (hf : X.env.frame = some X.env.locals) (hN : X.N.Nodup) (hi : X.N[i]? = some y) (hln : X.env.kindOf y = some .local) (hc : Names X x C)
    (em : PySem.W.exmOne X.K (.ref (c.cls t0)) C = some true)
    (hb : ∀ (W : WX) (pn : List (Addr × Obj)) (xe : Value → Shared → Prop), Takes (X.tr pn xe) W → PSs (X.tr pn xe) body (tX c bx W))
    (hsu : ∀ (a : Addr) (oe : Obj) (pn : List (Addr × Obj)), Zc (.ref (c.cls t0)) none oe → (∃ vs, oe.data = .fields vs) → PSs (X.suite a ((a, oe) :: pn)) (b₀ :: suite) (tS c (su a))) :
    PS X (.Try body [.ExceptHandler (some (.Name x np)) (some y) (b₀ :: suite) pos'] [] [] pos) (tS c (dTryAs i t0 bx su)) :=
  wkS (ps_try_as (tb := fun W => tX c bx W) (ts := fun a cls d => fun D σ H => cls = .ref (c.cls t0) ∧ d = none ∧ tS c (su a) D σ H) (Wout := fun _ _ _ _ => False) hs hf hN hi hln hc takes0 (fun W pn xe tk _ => hb W pn xe tk)
    (fun a oe cls d pn hz hf => ⟨fun pins s σ H D I ⟨e1, e2, q⟩ => by subst e1 e2; exact (hsu a oe pn hz hf).run pins s σ H D I q⟩)) fun E σ H ⟨ρ, H0, B, R, q, k⟩ =>
  ⟨ρ, H0, B, _, R, q, k, ⟨fun t ρ1 σ1 H01 H1 ⟨et, h⟩ ⟨L, R1⟩ S1 => ⟨true, by rw [et]; exact em, fun _ a na => ⟨by rw [et], rfl, _, H01, _, ⟨L, R1.setPin i (.ref a)⟩, h a,
    ⟨fun ρ2 σ2 H02 H2 q2 ⟨L2, R2⟩ S2 => k.nx _ _ H02 H2 q2 ⟨L2, R2.dropS i⟩ (S1.trans S2), fun ρ2 σ2 H02 H2 q2 ⟨L2, R2⟩ S2 => k.bk _ _ H02 H2 q2 ⟨L2, R2.dropS i⟩ (S1.trans S2), fun ρ2 σ2 H02 H2 q2 ⟨L2, R2⟩ S2 => k.ct _ _ H02 H2 q2 ⟨L2, R2.dropS i⟩ (S1.trans S2),
      fun d2 ρ2 σ2 v2 H02 H2 q2 R2 S2 D2 => k.rt d2 ρ2 σ2 v2 H02 H2 q2 R2 (S1.trans S2) D2, fun l2 ρ2 σ2 a2 H02 H2 q2 R2 S2 F2 => k.ro l2 ρ2 σ2 a2 H02 H2 q2 R2 (S1.trans S2) F2⟩⟩, fun z => nomatch z⟩⟩⟩
/-- isinstance of the exception that the suite holds -/
def dIsE (i : Nat) (a : Addr) (r : Bool) : DEv := fun ρ K => ρ.1[i]? = some (some (.pin (.ref a))) ∧ K (.bl r) ρ
section
variable {Dc a : Addr} {oe : Obj} {pn : List (Addr × Obj)}
theorem de_isE {i : Nat} {r : Bool} {v : V} {cv : Value} {en ct : Expr} (E : ExcC X.K Dc) (hz : Zc (.ref Dc) none oe) (hf : ∃ vs, oe.data = .fields vs) (hg : Gl (X.suite a ((a, oe) :: pn)) "isinstance") (hm : X.mg "isinstance" = none) (hen : PE (X.suite a ((a, oe) :: pn)) en (tVar i)) (hct : PE (X.suite a ((a, oe) :: pn)) ct (tC v)) (hv : ∀ u, RelV v u → u = cv)
    (hk : PySem.W.kitOne X.K (.ref Dc) cv = some r)
    (h1 : starEach [en, ct] X.env = (false, eval en X.env) :: starEach [ct] X.env := by rfl) (h2 : starEach [ct] X.env = (false, eval ct X.env) :: starEach [] X.env := by rfl)
    (hpl : (backTo pos (starEach [ct] X.env)).any (·.1) = false := by rfl) : DE (X.suite a ((a, oe) :: pn)) c (.Call (.Name "isinstance" p) [en, ct] [] pos) (dIsE i a r) :=
  wkE (pe_callB (X := X.suite a ((a, oe) :: pn)) (call_isE E hz hf) hg hm (by decide +kernel) (pa_cons hen (pa_cons hct pa_nil h2) h1) (by decide) (by decide) h1 hpl) fun σ H Q ⟨ρ, H0, K, ⟨L, R⟩, q, k⟩ =>
    ⟨.ref a, R.pin i _ q.1, v, cv, r, rfl, hv, hk, k _ _ _ _ _ q.2 ⟨L, R⟩ (Same.refl _) den_bl⟩
/-- .. of several classes -/
def rIsET (K : PySem.W.Frag) (D a : Addr) : List V → Hp → VK → Prop := fun xs H Q => ∃ (tp : Addr) (cs : List V) (us : List Value) (b : Bool), xs = [.ref a, .ref tp] ∧ H tp = some (.tup cs) ∧ Paired ClsV cs us ∧ PySem.W.kitAny K (.ref D) us = some b ∧ Q (.bl b) H
theorem call_isET (C : ExcC X.K Dc) (hz : Zc (.ref Dc) none oe) (hf : ∃ vs, oe.data = .fields vs) : CallR (X.suite a ((a, oe) :: pn)) (.builtin "isinstance") (rIsET X.K Dc a) := by
  intro pins s σ H xs us Q I r h
  obtain ⟨tp, cs, ws, b, rfl, hT, k, e, q⟩ := h
  obtain ⟨u1, u2, rfl, r1, r2⟩ := vals2 r
  cases (show u2 = Value.ref tp from r2)
  cases (show u1 = Value.ref a from r1)
  obtain ⟨_, its, rv, o, h1, h2, n, h3⟩ := (show ObjOk X.prog X.w H s.heap tp (.tup cs) from I.hok tp _ hT)
  have e3 := ClsV.all k rv
  subst e3
  obtain ⟨oc, od, dt, sl⟩ := o
  simp only at h2 h3
  subst h2 h3
  obtain ⟨hget, _⟩ := I.pin (a, oe) (List.mem_append.mpr (.inl List.mem_cons_self))
  obtain ⟨vs, hv⟩ := hf
  have J : PySem.W.InstAt s.heap a oe Dc none := by
    obtain ⟨oc, od, oda, osl⟩ := oe
    obtain ⟨h1, h2⟩ := hz
    dsimp only at h1 h2 hv
    subst h1 h2 hv
    exact ⟨hget, rfl, rfl, trivial⟩
  exact PySem.W.kia_tup (PySem.W.handS_kitx_exc C.hg C.hk C.hs C.hd C.ha C.hn C.ht C.hm) I.kIn J h1 e (fun z => nomatch z) fun tk => ⟨.bl b, H, I.kept (t' := tk) fun _ _ z => z, rfl, q⟩
theorem de_isET {i kk : Nat} {r : Bool} {cs : List V} {us : List Value} {en : Expr} {cts : List Expr} {tpos : Pos} (E : ExcC X.K Dc) (hz : Zc (.ref Dc) none oe) (hf : ∃ vs, oe.data = .fields vs) (hg : Gl (X.suite a ((a, oe) :: pn)) "isinstance") (hm : X.mg "isinstance" = none) (hen : PE (X.suite a ((a, oe) :: pn)) en (tVar i))
    (hct : PA (X.suite a ((a, oe) :: pn)) cts (fun σ H Q => Q cs H)) (hl : cs.length ≤ 1000) (hv : Paired ClsV cs us) (hk : PySem.W.kitAny X.K (.ref Dc) us = some r)
    (h1 : starEach [en, .Tuple cts kk tpos] X.env = (false, eval en X.env) :: starEach [.Tuple cts kk tpos] X.env := by rfl) (h2 : starEach [.Tuple cts kk tpos] X.env = (false, eval (.Tuple cts kk tpos) X.env) :: starEach [] X.env := by rfl)
    (hpl : (backTo pos (starEach [.Tuple cts kk tpos] X.env)).any (·.1) = false := by rfl) : DE (X.suite a ((a, oe) :: pn)) c (.Call (.Name "isinstance" p) [en, .Tuple cts kk tpos] [] pos) (dIsE i a r) :=
  wkE (pe_callB (X := X.suite a ((a, oe) :: pn)) (call_isET E hz hf) hg hm (by decide +kernel) (pa_cons hen (pa_cons (pe_tup hct) pa_nil h2) h1) (by decide) (by decide) h1 hpl) fun σ H Q ⟨ρ, H0, K, ⟨L, R⟩, q, k⟩ =>
    ⟨.ref a, R.pin i _ q.1, by rw [sizeLine_eq]; omega, fun tp htp => ⟨tp, cs, us, r, rfl, upd_same, hv, hk, k _ _ _ _ _ q.2 ⟨L, R.beside (.tup cs) htp⟩ (Same.refl _) den_bl⟩⟩
end
/-! ### a def that may raise -/
theorem fn_okX {cl : Nat → Addr} {P : Program} {w : World} {K : PySem.W.Frag} {mg : Str → Option Value} {base : Heap} {x qual : Str} {st : Stmt} {f : Addr} {fd : FuncData} {N ps : List Str} {k n m : Nat} {dx : DXv} {fn : DFX} (F : Fun K x qual st f fd) (S : FnScope N ps (defScope st))
    (hn : ps.length = n) (hm : N.length - n = m)
    (body : ∀ (sd : Option (Addr × Addr)) (Hs H0s : Hp) (cdv : Value) (A : Around) (outer : List Env) (s : Shared) (H : Hp) (E : XK), Room k (A.deeper (envOfC qual (defScope st) s.heap.objs.size f cdv)) →
      PSs (cxOf (L2.CX P w) P w K mg base N qual (defScope st) f cdv A outer s H E) (defBody st) (tX ⟨⟨K, sd, cl⟩, Hs, H0s⟩ dx fun cls d _ H => E cls d H))
    (data : ∀ (args : List D) (stt : Stt) (Kf : Sl → Stt → Prop) (Kx : Nat → Stt → Prop), args.length = n → fn args stt Kf Kx → dx (ends Kf) (fun t ρ => Kx t ρ.2) (startD m args, stt)) : FnOk P w K mg base (L2.CX P w) (k + 1) f fd ps (spX n K cl fn) := by
  refine F.okX S (fun vs H Q E h => ?_) (fun cdv A outer s H vs Q E hr h => ?_)
  · obtain ⟨sd, dl, stt, H0, Kf, Kx, R, hl, D, _⟩ := h
    rw [D.len, hl, hn]
  · obtain ⟨sd, dl, stt, H0, Kf, Kx, R, hl, D, q, k1, k2, k3⟩ := h
    refine ⟨_, body sd H H0 cdv A outer s H E hr, (startD m dl, stt), H0, ends Kf, (fun t ρ => Kx t ρ.2), ⟨fun _ => 0, R, ?_, fun i d e => ?_, fun i l e => ?_, fun i j l l' e => ?_, fun i v e => ?_⟩, data dl stt Kf Kx hl q, ?_, ⟨fun t ρ σ H0' H' kx R' S' => k3 t ρ.2 H' H0' kx R'.g⟩⟩
    · show (startD m dl).length = (L2.start N vs).length
      unfold startD L2.start
      rw [List.length_append, List.length_append, List.length_map, List.length_map, List.length_replicate, List.length_replicate, D.len, hl, hm]
    · have e : (startD m dl)[i]? = some (some (Sl.v d)) := e
      unfold startD at e
      unfold L2.start
      by_cases hi : i < dl.length
      · rw [List.getElem?_append_left (by simpa using hi), List.getElem?_map] at e
        cases ed : dl[i]? with
        | none => rw [ed] at e; cases e
        | some d' =>
          rw [ed] at e
          have : d' = d := by simpa using e
          subst this
          obtain ⟨v, e1, e2⟩ := D.get ed
          refine ⟨v, ?_, e2⟩
          rw [List.getElem?_append_left (by simpa [D.len] using hi), List.getElem?_map, e1]; rfl
      · rw [List.getElem?_append_right (by simpa using hi)] at e
        rw [List.getElem?_replicate] at e
        split at e <;> cases e
    · exfalso
      have e : (startD m dl)[i]? = some (some (Sl.own l)) := e
      unfold startD at e
      by_cases hi : i < dl.length
      · rw [List.getElem?_append_left (by simpa using hi), List.getElem?_map] at e
        cases ed : dl[i]? with
        | none => rw [ed] at e; cases e
        | some d' => rw [ed] at e; cases e
      · rw [List.getElem?_append_right (by simpa using hi), List.getElem?_replicate] at e
        split at e <;> cases e
    · exfalso
      have e : (startD m dl)[i]? = some (some (Sl.own l)) := e
      unfold startD at e
      by_cases hi : i < dl.length
      · rw [List.getElem?_append_left (by simpa using hi), List.getElem?_map] at e
        cases ed : dl[i]? with
        | none => rw [ed] at e; cases e
        | some d' => rw [ed] at e; cases e
      · rw [List.getElem?_append_right (by simpa using hi), List.getElem?_replicate] at e
        split at e <;> cases e
    · exfalso
      have e : (startD m dl)[i]? = some (some (Sl.pin v)) := e
      unfold startD at e
      by_cases hi : i < dl.length
      · rw [List.getElem?_append_left (by simpa using hi), List.getElem?_map] at e
        cases ed : dl[i]? with
        | none => rw [ed] at e; cases e
        | some d' => rw [ed] at e; cases e
      · rw [List.getElem?_append_right (by simpa using hi), List.getElem?_replicate] at e
        split at e <;> cases e
    · refine ⟨fun ρ σ H0' H' kf R' S' => ?_, fun _ _ _ _ z => z.elim, fun _ _ _ _ z => z.elim, fun d ρ σ v H0' H' kf R' S' dn => k1 d ρ.2 v H' H0' kf R'.g dn, fun l ρ σ a H0' H' kf R' S' F' => ?_⟩
      · exact k1 .non ρ.2 .non H' H0' kf R'.g den_non
      · obtain ⟨hs, _, h0, xs, h, dx⟩ := F'
        exact k2 l ρ.2 a xs H' H0' kf R'.g hs h0 h dx
end
end DL
namespace DL
open PySem PySem.Spec PyProof.Rows L2
section
variable {X : Cx} {c : C} {e a b : Expr} {es : List Expr} {d da db : DEv} {dr : DAv} {pos p : Pos} {x : Str} {st : Stmt} {rest : List Stmt} {ds dt : DSv} {dx dy : DXv} {W : WX}
/-! ### isinstance of two types -/
def dIsi2 (T S : String) (da : DEv) : DEv := fun ρ K => da ρ fun x ρ1 => plainTy x = true ∧ K (.bl (isiS (tyD x) T || isiS (tyD x) S)) ρ1
theorem de_isi2 {T S : String} {xT xS : Str} {pT pS tpos : Pos} {kk : Nat} (hT : okTy T = true) (hS : okTy S = true) (hg : Gl X x) (hm : X.mg x = none) (hv : bootBuiltins x = some (.builtin "isinstance")) (ha : DE X c a da) (hgT : Gl X xT) (hmT : X.mg xT = none) (hvT : bootBuiltins xT = some (.type T))
    (hgS : Gl X xS) (hmS : X.mg xS = none) (hvS : bootBuiltins xS = some (.type S)) (hn : x ≠ "__name__" := by decide) (hdb : (x == ("__debug__" : Str)) = false := by decide)
    (hnT : xT ≠ "__name__" := by decide) (hdbT : (xT == ("__debug__" : Str)) = false := by decide) (hnS : xS ≠ "__name__" := by decide) (hdbS : (xS == ("__debug__" : Str)) = false := by decide)
    (h0 : starEach [.Name xT pT, .Name xS pS] X.env = (false, eval (.Name xT pT) X.env) :: starEach [.Name xS pS] X.env := by rfl) (h0' : starEach [.Name xS pS] X.env = (false, eval (.Name xS pS) X.env) :: starEach [] X.env := by rfl)
    (h1 : starEach [a, .Tuple [.Name xT pT, .Name xS pS] kk tpos] X.env = (false, eval a X.env) :: starEach [.Tuple [.Name xT pT, .Name xS pS] kk tpos] X.env := by rfl) (h2 : starEach [.Tuple [.Name xT pT, .Name xS pS] kk tpos] X.env = (false, eval (.Tuple [.Name xT pT, .Name xS pS] kk tpos) X.env) :: starEach [] X.env := by rfl)
    (hpl : (backTo pos (starEach [.Tuple [.Name xT pT, .Name xS pS] kk tpos] X.env)).any (·.1) = false := by rfl) (hK : X.K = c.K := by rfl) : DE X c (.Call (.Name x p) [a, .Tuple [.Name xT pT, .Name xS pS] kk tpos] [] pos) (dIsi2 T S da) :=
  wkE (pe_callB call_isiT hg hm hv (pa_cons ha (pa_cons (pe_tup (pa_cons (pe_bltn (v := .ty T) hgT hmT hvT rfl hnT hdbT) (pa_cons (pe_bltn (v := .ty S) hgS hmS hvS rfl hnS hdbS) pa_nil h0') h0)) pa_nil h2) h1) hn hdb h1 hpl) fun σ H Q ⟨ρ, H0, K, R, q, k⟩ => ⟨ρ, H0, _, R, q, fun x ρ1 v H1 H01 q1 ⟨L, R1⟩ S1 D1 =>
    ⟨by rw [sizeLine_eq]; show 2 ≤ 16777216; decide, fun tp htp => ⟨v, tp, [.ty T, .ty S], .type (tyD x), [.type T, .type S], _, rfl, upd_same, .cons (.ty T) (.cons (.ty S) .nil), by rw [hK]; exact tyX_d (R1.same.trans (same_upd htp)) D1 q1.1,
      kitAny_cons (kit_ty (kit_okTy hT q1.1)) (fun e => by rw [e]; exact kitAny_cons (kit_ty (kit_okTy hS q1.1)) (fun e => by rw [e]; rfl) (fun e => by rw [e]; rfl)) (fun e => by rw [e]; rfl), k _ _ _ _ _ q1.2 ⟨L, R1.beside (.tup [.ty T, .ty S]) htp⟩ S1 den_bl⟩⟩⟩
/-! ### a try whose clause has no name -/
def dTry0 (t0 : Nat) (body : DXv) (suite : DSv) : DSv := fun B ρ => body B (fun t ρ1 => t = t0 ∧ suite B ρ1) ρ
theorem ds_try0 {t0 : Nat} {C : Value} {b₀ : Stmt} {body suite : List Stmt} {np pos' : Pos} {bx : DXv} {su : DSv} (hs : X.stack = X.env :: X.outer) (hf : X.env.frame = some X.env.locals) (hc : Names X x C)
    (em : PySem.W.exmOne X.K (.ref (c.cls t0)) C = some true)
    (hb : ∀ (W : WX) (pn : List (Addr × Obj)) (xe : Value → Shared → Prop), Takes (X.tr pn xe) W → PSs (X.tr pn xe) body (tX c bx W))
    (hsu : ∀ (a : Addr) (oe : Obj) (pn : List (Addr × Obj)), PSs (X.suite a ((a, oe) :: pn)) (b₀ :: suite) (tS c su)) :
    PS X (.Try body [.ExceptHandler (some (.Name x np)) none (b₀ :: suite) pos'] [] [] pos) (tS c (dTry0 t0 bx su)) :=
  wkS (ps_try_only (tb := fun W => tX c bx W) (ts := fun a cls d => tS c su) (Wout := fun _ _ _ _ => False) hs hf hc takes0 (fun W pn xe tk _ => hb W pn xe tk)
    (fun a oe cls d pn hz hf => hsu a oe pn)) fun E σ H ⟨ρ, H0, B, R, q, k⟩ =>
  ⟨ρ, H0, B, _, R, q, k, ⟨fun t ρ1 σ1 H01 H1 ⟨et, h⟩ R1 S1 => ⟨true, by rw [et]; exact em, fun _ a na => ⟨ρ1, H01, B, R1, h, k.later S1⟩, fun z => nomatch z⟩⟩⟩
end
end DL
namespace DL
open PySem PySem.Spec PyProof.Rows L2
section
variable {X : Cx} {c : C} {e a b : Expr} {d da db : DEv} {pos p : Pos}
/-! ### x[::-1] of a list -/
def dRevS (da : DEv) : DEv := fun ρ K => da ρ fun x ρ1 => asL x fun l => K (.lst l.reverse) ρ1
theorem de_revS {k : Nat} {p1 p2 p3 : Pos} (ha : DE X c e da) : DE X c (.Subscript e (.Slice none none (some (.UnaryOp .USub (.Constant (.int 1) k p1) p2)) p3) pos) (dRevS da) := wkE (pe_revL ha) fun σ H Q ⟨ρ, H0, K, R, q, k⟩ =>
  ⟨ρ, H0, _, R, q, fun x ρ1 v H1 H01 q1 R1 S1 D1 => by
    obtain ⟨l, a, xs, rfl, sx, ex, q1⟩ := asL_d q1 D1
    refine ⟨a, xs, rfl, SqL.of (R1.same _ _ sx), fun p hp => ?_⟩
    obtain ⟨r, s, d⟩ := R1.newL hp (DenL.reverse ex)
    exact k _ _ _ _ _ q1 r (S1.trans s) d⟩
/-! ### a text among texts -/
def fInS (neg : Bool) : F2 := fun x y P => asS x fun i => asQ y fun l => ∃ ns : List Str, l = ns.map D.str ∧ P (.bl (if neg then !decide (i ∈ ns) else decide (i ∈ ns)))
theorem denL_strsV {g : DL.G} {H : Hp} : ∀ (ns : List Str) (xs : List V), DenL g H (ns.map D.str) xs → xs = ns.map V.str
  | [], xs, h => by unfold DenL at h; exact h
  | n :: ns, xs, h => by
    unfold DenL at h
    obtain ⟨x, r, rfl, q, t⟩ := h
    unfold Den at q
    subst q
    rw [denL_strsV ns r t]; rfl
theorem inV_strs (i : Str) : ∀ ns : List Str, inV (.str i) (ns.map V.str) = decide (i ∈ ns)
  | [] => rfl
  | n :: ns => by
    have ih := inV_strs i ns
    unfold inV at ih ⊢
    rw [List.map_cons, List.any_cons, ih]
    show ((n == i) || _) = _
    by_cases h : n = i
    · subst h; simp
    · have h2 : ¬ i = n := fun z => h z.symm
      simp [h, h2]
theorem flat_strs : ∀ ns : List Str, (ns.map V.str).all flatV = true
  | [] => rfl
  | n :: ns => by rw [List.map_cons, List.all_cons, flat_strs ns]; rfl
theorem r2_inS {neg : Bool} : R2D c (rIn c.K neg) (fInS neg) := fun ρ σ H0 H dx dy x y P Q R d1 d2 q k => by
  obtain ⟨i, rfl, rfl, q⟩ := asS_d q d1
  obtain ⟨l, a, xs, rfl, hs, dl, ns, rfl, q⟩ := asQ_d q d2
  have := denL_strsV ns xs dl
  subst this
  refine ⟨a, _, rfl, ?_, rfl, flat_strs ns, ?_⟩
  · rcases hs with h | h
    · exact .inl (SqL.of (R.same _ _ h))
    · exact .inr (sqT_same R.same h)
  · rw [inV_strs]
    exact k _ _ _ _ q R (Same.refl _) den_bl
end
end DL
namespace DL
open PySem PySem.Spec PyProof.Rows L2
local macro_rules | `(tactic| walk_at "dl") => `(tactic| simp -implicitDefEqProofs only [dSeq, dNext, dIfS, dB, dNot, dAnd, dOr, d2, fLt, fLe, fGt, fGe, fEqI, fNeI, fEqB, fNeB, fEqS, fNeS, fIsN_non, fNotN_non, fIsB, fNotB, fSub, fMul, fDiv, fDivE, fMod, fPow, fI, fI0, asI_int, asB_bl, asT_tup, asL_lst, asQ_tup, asQ_lst, asS_str, as1_one, as2_two, frz_v, frz_own, fAdd_int, fAdd_tup, fAdd_lst, fIx_tup0, fIx_tup1, fIx_lst0, fIx_lst1, fLen_tup, fLen_lst, fInt_bl, fTuple_tup, fTuple_lst, isN_int, isN_tup, isN_lst, isN_bl, isN_str, isN_non, dVar, dC, dNeg, dSet, dSetO, dPar, dAsg, dAug, dRet, dRetO, dRetV, dRetN, dTup, dCons, dNil, dFn, dFnO, lenIs, dCB, fAbs, fMax2, fMin2, dIsi, dAndV, dOrV, dNotV, dIf, dFor, iSeq, iRange1, iRange2, iZip, aName, aTup, aCons, aNil, dLc, dYes, dLitO, noOwn, wipeE, ends, startD, setV, setO, ownAt, asV, dLst, dListO, dLenO, dTupO, dFrz, dApp, dPop, dClear, dSub, dIxO, d2O, fCatO, fRepO, pt_non, isi_non_int, isi_non_bool, isi_non_tuple, isi_non_list, isi_non_str, pt_bl, isi_bl_int, isi_bl_bool, isi_bl_tuple, isi_bl_list, isi_bl_str, pt_int, isi_int_int, isi_int_bool, isi_int_tuple, isi_int_list, isi_int_str, pt_str, isi_str_int, isi_str_bool, isi_str_tuple, isi_str_list, isi_str_str, pt_tup, isi_tup_int, isi_tup_bool, isi_tup_tuple, isi_tup_list, isi_tup_str, pt_lst, isi_lst_int, isi_lst_bool, isi_lst_tuple, isi_lst_list, isi_lst_str, Br_true, Br_false, Br_dec, Br_not, tt_imp, List.map_cons, List.map_nil, List.cons_append, List.nil_append, List.replicate_succ, List.replicate_zero, List.getElem?_cons_zero, List.getElem?_cons_succ, List.set_nil, List.set_cons_zero, List.set_cons_succ, List.length_cons, List.length_nil, Bool.not_true, Bool.not_false, decide_eq_true_eq, not_true_eq_false, not_false_eq_true, true_and, and_true])
local macro_rules | `(tactic| walk_at "d1") => `(tactic| simp -implicitDefEqProofs only [aName, setV, setO, List.set_cons_zero, List.set_cons_succ])
/-! ### numbers: what the defs come to -/
def nq (q : Rat) : D := .tup [.int q.num, .int (q.den : Int)]
/-- of less than 9000 bits -/
def Sz (i : Int) : Prop := i.natAbs < 2 ^ 9000
theorem Sz.log {i : Int} (h : Sz i) : i.natAbs.log2 < 9000 := PySem.Flt.log2_lt_of (by decide) h
def isInt : D → Bool
  | .int _ => true
  | _ => false
/-- a number by its looks -/
def isNum : D → Bool
  | .tup [.int t, .int b] => decide (0 < b) && decide (Int.gcd t b = 1)
  | _ => false
/-- the parts of a thing are of the plain types -/
def parts2 : D → Prop
  | .tup [a, b] => plainTy a = true ∧ plainTy b = true
  | _ => True
def c_is_whole : DFn := fun ds st Kf => as1 ds fun x => plainTy x = true ∧ Kf (.v (.bl (isInt x))) st
def c_greatest_both : DFn := fun ds st Kf => as2 ds fun x y => asI x fun a => asI y fun b => Kf (.v (.int (Int.gcd a b))) st
def c_number : DFn := fun ds st Kf => as2 ds fun x y => asI x fun t => asI y fun b => b ≠ 0 ∧ Kf (.v (nq (Rat.divInt t b))) st
def c_is_number : DFn := fun ds st Kf => as1 ds fun x => plainTy x = true ∧ parts2 x ∧ Kf (.v (.bl (isNum x))) st
def c_l_part : DFn := c_number
def b_is_whole : DSv := (dRet (dAndV (dIsi "int" (dVar 0)) (dNotV (dIsi "bool" (dVar 0)))))
def b_greatest_both : DSv := (dSeq (dSet 0 (dCB fAbs (dCons (dVar 0) dNil)))
  (dSeq (dSet 1 (dCB fAbs (dCons (dVar 1) dNil)))
  (dSeq (dWhile (dB (d2 fNeI (dVar 1) (dC (.int 0)))) (dPar 0 1 (dCons (dVar 1) (dCons (d2 fMod (dVar 0) (dVar 1)) dNil))))
  (dRet (dVar 0)))))
def b_number : DSv := (dSeq (dIfS (dB (d2 fLt (dVar 1) (dC (.int 0)))) (dSeq (dSet 0 (dNeg (dVar 0)))
  (dSet 1 (dNeg (dVar 1)))) dNext)
  (dSeq (dSet 2 (dFn c_greatest_both (lenIs 2 (dCons (dVar 0) (dCons (dVar 1) dNil)))))
  (dRet (dTup (dCons (d2 fDivE (dVar 0) (dVar 2)) (dCons (d2 fDivE (dVar 1) (dVar 2)) dNil))))))
def b_is_number : DSv := (dSeq (dIfS (dOr (dNot (dB (dIsi "tuple" (dVar 0)))) (dOr (dB (d2 fNeI (dCB fLen (dCons (dVar 0) dNil)) (dC (.int 2)))) (dOr (dNot (dB (dFn c_is_whole (lenIs 1 (dCons (d2 fIx (dVar 0) (dC (.int 0))) dNil))))) (dNot (dB (dFn c_is_whole (lenIs 1 (dCons (d2 fIx (dVar 0) (dC (.int 1))) dNil)))))))) (dRet (dC (.bl false))) dNext)
  (dRet (dAndV (d2 fGt (d2 fIx (dVar 0) (dC (.int 1))) (dC (.int 0))) (d2 fEqI (dFn c_greatest_both (lenIs 2 (dCons (d2 fIx (dVar 0) (dC (.int 0))) (dCons (d2 fIx (dVar 0) (dC (.int 1))) dNil)))) (dC (.int 1))))))
def b_l_part : DSv := (dSeq (dPar 2 3 (dCons (dCB fAbs (dCons (dVar 0) dNil)) (dCons (dCB fAbs (dCons (dVar 1) dNil)) dNil)))
  (dSeq (dWhile (dB (d2 fGt (dVar 3) (dC (.int 0)))) (dPar 2 3 (dCons (dVar 3) (dCons (d2 fMod (dVar 2) (dVar 3)) dNil))))
  (dSeq (dSet 4 (d2 fSub (dC (.int 1)) (d2 fMul (dC (.int 2)) (dCB fInt (dCons (d2 fLt (dVar 1) (dC (.int 0))) dNil)))))
  (dRet (dTup (dCons (d2 fDivE (d2 fMul (dVar 4) (dVar 0)) (dVar 2)) (dCons (d2 fDivE (d2 fMul (dVar 4) (dVar 1)) (dVar 2)) dNil)))))))
theorem len1 {args : List D} (h : args.length = 1) : ∃ x, args = [x] := by
  match args, h with
  | [x], _ => exact ⟨x, rfl⟩
theorem len2 {args : List D} (h : args.length = 2) : ∃ x y, args = [x, y] := by
  match args, h with
  | [x, y], _ => exact ⟨x, y, rfl⟩
theorem asI_e {x : D} {k : Int → Prop} (h : asI x k) : ∃ i, x = .int i ∧ k i := by
  cases x with
  | int i => exact ⟨i, rfl, h⟩
  | _ => exact h.elim
theorem asQ_e {x : D} {k : List D → Prop} (h : asQ x k) : ∃ l, (x = .tup l ∨ x = .lst l) ∧ k l := by
  cases x with
  | tup l => exact ⟨l, .inl rfl, h⟩
  | lst l => exact ⟨l, .inr rfl, h⟩
  | _ => exact h.elim
theorem asB_e {x : D} {k : Bool → Prop} (h : asB x k) : ∃ i, x = .bl i ∧ k i := by
  cases x with
  | bl i => exact ⟨i, rfl, h⟩
  | _ => exact h.elim
theorem d_is_whole (args : List D) (st : Stt) (Kf : Sl → Stt → Prop) (hl : args.length = 1) (q : c_is_whole args st Kf) : b_is_whole (ends Kf) (startD 0 args, st) := by
  obtain ⟨x, rfl⟩ := len1 hl
  obtain ⟨h, q⟩ := q
  unfold b_is_whole
  walk_at "dl"
  refine ⟨h, ?_⟩
  cases x with
  | stt => cases h
  | ins _ _ => cases h
  | _ => walk_at "dl"; exact q
theorem d_greatest_both (args : List D) (st : Stt) (Kf : Sl → Stt → Prop) (hl : args.length = 2) (q : c_greatest_both args st Kf) : b_greatest_both (ends Kf) (startD 0 args, st) := by
  obtain ⟨x, y, rfl⟩ := len2 hl
  obtain ⟨a, rfl, q⟩ := asI_e q
  obtain ⟨b, rfl, q⟩ := asI_e q
  unfold b_greatest_both
  walk_at "dl"
  refine while_of (fun m ρ => ∃ i j : Nat, ρ = ([some (.v (.int i)), some (.v (.int j))], st) ∧ m = j ∧ Nat.gcd i j = Int.gcd a b) b.natAbs ⟨a.natAbs, b.natAbs, ?_, rfl, rfl⟩ ?_
  · have e : ∀ z : Int, (if z < 0 then -z else z) = ((z.natAbs : Nat) : Int) := fun z => by split <;> omega
    rw [e, e]
  · rintro m ρ ⟨i, j, rfl, rfl, hg⟩
    walk_at "dl"
    refine ⟨fun hj => ?_, fun hj => ?_⟩
    · have : m = 0 := by omega
      subst this
      rw [Nat.gcd_zero_right] at hg
      rw [hg]; exact q
    · have hm : 0 < m := by omega
      refine ⟨⟨hj⟩, i % m, Nat.mod_lt _ hm, m, i % m, ?_, rfl, ?_⟩
      · rw [Int.fmod_eq_emod_of_nonneg _ (by omega), Int.natCast_emod]
      · rw [← hg, Nat.gcd_comm i m, Nat.gcd_rec m i, Nat.gcd_comm]
theorem rat_num (t b : Int) : (Rat.divInt t b).num = b.sign * t / b.gcd t := Rat.num_divInt t b
theorem rat_den {t b : Int} (h : b ≠ 0) : ((Rat.divInt t b).den : Int) = (b.natAbs : Int) / b.gcd t := by
  rw [Rat.den_divInt, if_neg h, Int.natCast_ediv]
theorem gcd_ne {t b : Int} (h0 : b ≠ 0) : ∀ z : Int, DivE z ((Int.gcd t b : Nat) : Int) := fun z => by
  have hp : 0 < Int.gcd t b := Int.gcd_pos_of_ne_zero_right _ h0
  exact ⟨by omega⟩
theorem sign_self (b : Int) : b.sign * b = (b.natAbs : Int) := by
  rcases Int.lt_trichotomy b 0 with h | h | h
  · rw [Int.sign_eq_neg_one_of_neg h]; omega
  · subst h; rfl
  · rw [Int.sign_eq_one_of_pos h]; omega
theorem nq_mk {t b g : Int} (h0 : b ≠ 0) (hg : g = (Int.gcd t b : Nat)) (s : Int) (hs : s = b.sign) : D.tup [.int ((s * t).fdiv g), .int ((s * b).fdiv g)] = nq (Rat.divInt t b) := by
  subst hg hs
  unfold nq
  rw [rat_num, rat_den h0, Int.gcd_comm b t, Int.fdiv_eq_ediv_of_nonneg _ (by omega), Int.fdiv_eq_ediv_of_nonneg _ (by omega), sign_self]
theorem d_number (args : List D) (st : Stt) (Kf : Sl → Stt → Prop) (hl : args.length = 2) (q : c_number args st Kf) : b_number (ends Kf) (startD 1 args, st) := by
  obtain ⟨x, y, rfl⟩ := len2 hl
  obtain ⟨t, rfl, q⟩ := asI_e q
  obtain ⟨b, rfl, h0, q⟩ := asI_e q
  unfold b_number c_greatest_both
  walk_at "dl"
  refine ⟨fun hb => ?_, fun hb => ?_⟩
  · have e : Int.gcd (-t) (-b) = Int.gcd t b := by rw [Int.neg_gcd, Int.gcd_neg]
    rw [e]
    have := nq_mk (t := t) h0 rfl (-1) (by rw [Int.sign_eq_neg_one_of_neg hb])
    rw [Int.neg_mul, Int.neg_mul, Int.one_mul, Int.one_mul] at this
    rw [this]
    exact ⟨gcd_ne h0 _, gcd_ne h0 _, by decide, q⟩
  · have := nq_mk (t := t) h0 rfl 1 (by rw [Int.sign_eq_one_of_pos (by omega)])
    rw [Int.one_mul, Int.one_mul] at this
    rw [this]
    exact ⟨gcd_ne h0 _, gcd_ne h0 _, by decide, q⟩
theorem d_is_number (args : List D) (st : Stt) (Kf : Sl → Stt → Prop) (hl : args.length = 1) (q : c_is_number args st Kf) : b_is_number (ends Kf) (startD 0 args, st) := by
  obtain ⟨x, rfl⟩ := len1 hl
  obtain ⟨h, h2, q⟩ := q
  unfold b_is_number c_is_whole c_greatest_both
  walk_at "dl"
  refine ⟨h, ?_⟩
  cases x with
  | stt => cases h
  | ins _ _ => cases h
  | tup l =>
    walk_at "dl"
    refine ⟨fun hl2 => ?_, fun hl2 => ?_⟩
    · obtain ⟨a, b, rfl⟩ := len2 (args := l) (by omega)
      obtain ⟨ha, hb⟩ := h2
      walk_at "dl"
      refine ⟨ha, ?_⟩
      cases a with
      | int t =>
        cases b with
        | int b =>
          simp only [isInt]
          walk_at "dl"
          refine ⟨fun h0 => ?_, fun h0 => ?_⟩
          · have e : isNum (.tup [.int t, .int b]) = decide ((Int.gcd t b : Nat) = (1 : Int)) := by
              show (decide (0 < b) && decide (Int.gcd t b = 1)) = _
              rw [decide_eq_true h0, Bool.true_and]
              exact decide_eq_decide.mpr (by omega)
            rw [e] at q
            exact q
          · have e : isNum (.tup [.int t, .int b]) = false := by
              show (decide (0 < b) && decide (Int.gcd t b = 1)) = _
              rw [decide_eq_false h0, Bool.false_and]
            rw [e] at q
            exact q
        | _ => simp only [isInt]; walk_at "dl"; first | exact ⟨hb, q⟩ | exact q
      | _ => simp only [isInt]; walk_at "dl"; exact q
    · have e : isNum (.tup l) = false := by
        unfold isNum
        split
        · rename_i e; cases e; exact absurd rfl hl2
        · rfl
      rw [e] at q
      exact q
  | _ => walk_at "dl"; exact q
theorem d_l_part (args : List D) (st : Stt) (Kf : Sl → Stt → Prop) (hl : args.length = 2) (q : c_l_part args st Kf) : b_l_part (ends Kf) (startD 3 args, st) := by
  obtain ⟨x, y, rfl⟩ := len2 hl
  obtain ⟨t, rfl, q⟩ := asI_e q
  obtain ⟨b, rfl, h0, q⟩ := asI_e q
  unfold b_l_part
  walk_at "dl"
  refine while_of (fun m ρ => ∃ i j : Nat, ρ = ([some (.v (.int t)), some (.v (.int b)), some (.v (.int i)), some (.v (.int j)), none], st) ∧ m = j ∧ Nat.gcd i j = Int.gcd t b) b.natAbs ⟨t.natAbs, b.natAbs, ?_, rfl, rfl⟩ ?_
  · have e : ∀ z : Int, (if z < 0 then -z else z) = ((z.natAbs : Nat) : Int) := fun z => by split <;> omega
    rw [e, e]
  · rintro m ρ ⟨i, j, rfl, rfl, hg⟩
    walk_at "dl"
    refine ⟨fun hj => ?_, fun hj => ?_⟩
    · have hm : 0 < m := by omega
      refine ⟨⟨by omega⟩, i % m, Nat.mod_lt _ hm, m, i % m, ?_, rfl, ?_⟩
      · rw [Int.fmod_eq_emod_of_nonneg _ (by omega), Int.natCast_emod]
      · rw [← hg, Nat.gcd_comm i m, Nat.gcd_rec m i, Nat.gcd_comm]
    · have : m = 0 := by omega
      subst this
      rw [Nat.gcd_zero_right] at hg
      have small : ∀ z : Int, MulOk (if b < 0 then -1 else 1) z := fun z => MulOk.of_left (by split <;> decide)
      have es : (1 - 2 * (if b < 0 then (1 : Int) else 0)) = (if b < 0 then -1 else 1) := by
        by_cases hb : b < 0 <;> simp [hb]
      have eb : (if b < 0 then (-1 : Int) else 1) = b.sign := by
        by_cases hb : b < 0
        · rw [if_pos hb, Int.sign_eq_neg_one_of_neg hb]
        · rw [if_neg hb, Int.sign_eq_one_of_pos (by omega)]
      have mk := nq_mk (t := t) h0 (g := (i : Int)) (by rw [hg]) _ eb
      rw [es, mk]
      have gs := gcd_ne (t := t) h0
      rw [← hg] at gs
      exact ⟨MulOk.of_left (by decide), small t, gs _, small b, gs _, by decide, q⟩
end DL
namespace DL
open PySem PySem.Spec PyProof.Rows L2
local macro_rules | `(tactic| walk_at "dl") => `(tactic| simp -implicitDefEqProofs only [dSeq, dNext, dIfS, dB, dNot, dAnd, dOr, d2, fLt, fLe, fGt, fGe, fEqI, fNeI, fEqB, fNeB, fEqS, fNeS, fIsN_non, fNotN_non, fIsB, fNotB, fSub, fMul, fDiv, fDivE, fMod, fPow, fI, fI0, asI_int, asB_bl, asT_tup, asL_lst, asQ_tup, asQ_lst, asS_str, as1_one, as2_two, frz_v, frz_own, fAdd_int, fAdd_tup, fAdd_lst, fIx_tup0, fIx_tup1, fIx_lst0, fIx_lst1, fLen_tup, fLen_lst, fInt_bl, fTuple_tup, fTuple_lst, isN_int, isN_tup, isN_lst, isN_bl, isN_str, isN_non, dVar, dC, dNeg, dSet, dSetO, dPar, dAsg, dAug, dRet, dRetO, dRetV, dRetN, dTup, dCons, dNil, dFn, dFnO, lenIs, dCB, fAbs, fMax2, fMin2, dIsi, dAndV, dOrV, dNotV, dIf, dFor, iSeq, iRange1, iRange2, iZip, aName, aTup, aCons, aNil, dLc, dYes, dLitO, noOwn, wipeE, ends, startD, setV, setO, ownAt, asV, dLst, dListO, dLenO, dTupO, dFrz, dApp, dPop, dClear, dSub, dIxO, d2O, fCatO, fRepO, pt_non, isi_non_int, isi_non_bool, isi_non_tuple, isi_non_list, isi_non_str, pt_bl, isi_bl_int, isi_bl_bool, isi_bl_tuple, isi_bl_list, isi_bl_str, pt_int, isi_int_int, isi_int_bool, isi_int_tuple, isi_int_list, isi_int_str, pt_str, isi_str_int, isi_str_bool, isi_str_tuple, isi_str_list, isi_str_str, pt_tup, isi_tup_int, isi_tup_bool, isi_tup_tuple, isi_tup_list, isi_tup_str, pt_lst, isi_lst_int, isi_lst_bool, isi_lst_tuple, isi_lst_list, isi_lst_str, Br_true, Br_false, Br_dec, Br_not, tt_imp, List.map_cons, List.map_nil, List.cons_append, List.nil_append, List.replicate_succ, List.replicate_zero, List.getElem?_cons_zero, List.getElem?_cons_succ, List.set_nil, List.set_cons_zero, List.set_cons_succ, List.length_cons, List.length_nil, Bool.not_true, Bool.not_false, decide_eq_true_eq, not_true_eq_false, not_false_eq_true, true_and, and_true])
local macro_rules | `(tactic| walk_at "d1") => `(tactic| simp -implicitDefEqProofs only [aName, setV, setO, List.set_cons_zero, List.set_cons_succ])
/-! ### the law's own helpers -/
/-- what is due: written data without truths, of depth n at most -/
def dueOk : Nat → D → Bool
  | _, .non => true
  | _, .int _ => true
  | _, .str _ => true
  | n + 1, .tup l => decide (l.length ≤ 500000) && l.all (dueOk n)
  | n + 1, .lst l => decide (l.length ≤ 500000) && l.all (dueOk n)
  | _, _ => false
/-- _law_same, asked of what is the very due -/
def c_l_same (n : Nat) : DFn := fun ds st Kf => ∃ y, ds = [y, y] ∧ dueOk n y = true ∧ Kf (.v (.bl true)) st
def cPrev (f : Nat → DFn) : Nat → DFn
  | 0 => fun _ _ _ => False
  | k + 1 => f k
def b_l_same (n : Nat) : DSv := (dSeq (dIfS (dB (d2 fIsN (dVar 1) (dC .non))) (dRet (d2 fIsN (dVar 0) (dC .non))) dNext)
  (dSeq (dIfS (dOr (dB (dIsi "list" (dVar 1))) (dB (dIsi "tuple" (dVar 1)))) (dSeq (dIfS (dB (d2 fNeB (dIsi "list" (dVar 0)) (dIsi "list" (dVar 1)))) (dRet (dC (.bl false))) dNext)
  (dSeq (dIfS (dOr (dB (d2 fNeB (dIsi "tuple" (dVar 0)) (dIsi "tuple" (dVar 1)))) (dB (d2 fNeI (dCB fLen (dCons (dVar 0) dNil)) (dCB fLen (dCons (dVar 1) dNil))))) (dRet (dC (.bl false))) dNext)
  (dRet (dCB fAll (dCons (asV (dLc (iZip (dCons (dVar 0) (dCons (dVar 1) dNil))) (aTup 2 (aCons (aName 2) (aCons (aName 3) aNil))) dYes (dFn (cPrev c_l_same n) (lenIs 2 (dCons (dVar 2) (dCons (dVar 3) dNil)))) [2, 3])) dNil))))) dNext)
  (dSeq (dIfS (dB (dIsi "str" (dVar 1))) (dRet (dAndV (dIsi "str" (dVar 0)) (d2 fEqS (dVar 0) (dVar 1)))) dNext)
  (dRet (dAndV (dIsi "int" (dVar 0)) (dAndV (dNotV (dIsi "bool" (dVar 0))) (d2 fEqI (dVar 0) (dVar 1))))))))
theorem blsOf_rep (k : Nat) : blsOf (List.replicate k (.bl true)) = some (List.replicate k true) := by
  induction k with
  | zero => rfl
  | succ k ih =>
    rw [List.replicate_succ, List.replicate_succ]
    simp only [blsOf]
    rw [ih]; rfl
theorem all_rep (k : Nat) : (List.replicate k true).all id = true := by simp
theorem same_all {n : Nat} {l : List D} {st : Stt} {env : List (Option Sl)} {K : D → Stt → Prop} (hw : l.length ≤ 500000) (h : ∀ y, y ∈ l → dueOk n y = true) (henv : env = [none, none, none, none] ∨ ∃ a b, env = [some (.v a), some (.v b), none, none]) (q : K (.bl true) st) :
    lcD (aTup 2 (aCons (aName 2) (aCons (aName 3) aNil))) dYes (dFn (c_l_same n) (lenIs 2 (dCons (dVar 2) (dCons (dVar 3) dNil)))) env (pairsD l l) [] st fun acc st => fAll [.lst acc] fun z => K z st := by
  refine lc_ind (fun m acc st' => ∃ k l', acc = List.replicate k (.bl true) ∧ st' = st ∧ m = pairsD l' l' ∧ (∀ y, y ∈ l' → dueOk n y = true) ∧ k + l'.length = l.length) ?_ ?_ _ _ _ ⟨0, l, rfl, rfl, rfl, h, by simp⟩
  · rintro acc st' ⟨k, l', rfl, rfl, e, _, _⟩
    show match blsOf (List.replicate k (.bl true)) with
      | some bs => K (.bl (bs.all id)) st'
      | none => False
    rw [blsOf_rep]
    show K (.bl ((List.replicate k true).all id)) st'
    rw [all_rep]; exact q
  · rintro d m acc st' ⟨k, l', rfl, rfl, e, hl, hk⟩ ih
    cases l' with
    | nil => cases e
    | cons y l' =>
      have e' : d :: m = .tup [y, y] :: pairsD l' l' := e
      cases e'
      have next : lcD (aTup 2 (aCons (aName 2) (aCons (aName 3) aNil))) dYes (dFn (c_l_same n) (lenIs 2 (dCons (dVar 2) (dCons (dVar 3) dNil)))) env (pairsD l' l') (List.replicate k (.bl true) ++ [.bl true]) st' fun acc st => fAll [.lst acc] fun z => K z st :=
        ih _ _ ⟨k + 1, l', by rw [List.replicate_succ'], rfl, rfl, fun z hz => hl z (List.mem_cons_of_mem _ hz), by simp at hk ⊢; omega⟩
      have lk : (List.replicate k (D.bl true)).length < 1000000 := by simp at hk ⊢; omega
      rcases henv with rfl | ⟨a, b, rfl⟩
      · exact ⟨rfl, rfl, fun _ => ⟨rfl, y, rfl, hl y List.mem_cons_self, lk, next⟩, fun z => nomatch z⟩
      · exact ⟨rfl, rfl, fun _ => ⟨rfl, y, rfl, hl y List.mem_cons_self, lk, next⟩, fun z => nomatch z⟩
theorem d_l_same (n : Nat) (args : List D) (st : Stt) (Kf : Sl → Stt → Prop) (hl : args.length = 2) (q : c_l_same n args st Kf) : b_l_same n (ends Kf) (startD 2 args, st) := by
  obtain ⟨y, rfl, hy, q⟩ := q
  unfold b_l_same
  walk_at "dl"
  cases y with
  | non => walk_at "dl"; exact q
  | int i => walk_at "dl"; rw [decide_eq_true True.intro]; exact q
  | str s => walk_at "dl"; rw [decide_eq_true True.intro]; exact q
  | tup l =>
    cases n with
    | zero => cases hy
    | succ n =>
      walk_at "dl"
      simp only [dueOk, Bool.and_eq_true, decide_eq_true_eq, List.all_eq_true] at hy
      exact ⟨⟨⟨same_all hy.1 hy.2 (.inr ⟨_, _, rfl⟩) q, False.elim⟩, False.elim⟩, False.elim⟩
  | lst l =>
    cases n with
    | zero => cases hy
    | succ n =>
      walk_at "dl"
      simp only [dueOk, Bool.and_eq_true, decide_eq_true_eq, List.all_eq_true] at hy
      exact ⟨⟨⟨same_all hy.1 hy.2 (.inr ⟨_, _, rfl⟩) q, False.elim⟩, False.elim⟩, False.elim⟩
  | _ => simp [dueOk] at hy
/-! ### draws -/
theorem Good.left {m k : Int} {st st' : Stt} (g : Good m st) (l : Left k st st') : Good (m - k) st' := ⟨l.ne, Int.le_trans g.lo l.lo, by have := g.hi; have := l.hi; omega⟩
theorem Good.mono {m k : Int} {st : Stt} (g : Good m st) (h : k ≤ m) : Good k st := ⟨g.ne, g.lo, by have := g.hi; omega⟩
theorem Left.refl {m k : Int} {st : Stt} (g : Good k st) (h : 0 ≤ m) : Left m st st := ⟨g.ne, Int.le_refl _, by omega⟩
theorem Left.trans {m k : Int} {st st' st'' : Stt} (a : Left m st st') (b : Left k st' st'') : Left (m + k) st st'' := ⟨b.ne, Int.le_trans a.lo b.lo, by have := a.hi; have := b.hi; omega⟩
theorem Left.mono {m k : Int} {st st' : Stt} (a : Left m st st') (h : m ≤ k) : Left k st st' := ⟨a.ne, a.lo, by have := a.hi; omega⟩
/-- a def that draws m times at most: what it asks, what it hands back -/
def drawF (m : Int) (pre : List D → Prop) (post : List D → Sl → Prop) : DFn := fun ds st Kf => pre ds ∧ Good m st ∧ ∀ r st', post ds r → Left m st st' → Kf r st'
def c_l_tens : DFn := fun ds st Kf => as1 ds fun x => asI x fun n => 0 ≤ n ∧ n ≤ 1000 ∧ Kf (.v (.int (10 ^ n.toNat))) st
def b_l_tens : DSv := (dSeq (dSet 1 (dC (.int 1)))
  (dSeq (dFor (iRange1 (dCons (dVar 0) dNil)) (aName 2) (dSet 1 (d2 fMul (dVar 1) (dC (.int 10)))))
  (dRet (dVar 1))))
theorem pow10_lt : ∀ n : Nat, ((10 : Int) ^ n).natAbs < 2 ^ (4 * n + 1)
  | 0 => by decide
  | n + 1 => by
    have ih := pow10_lt n
    rw [Int.pow_succ, Int.natAbs_mul, show 4 * (n + 1) + 1 = (4 * n + 1) + 4 from by omega, Nat.pow_add]
    exact Nat.mul_lt_mul'' ih (by decide)
theorem d_l_tens (args : List D) (st : Stt) (Kf : Sl → Stt → Prop) (hl : args.length = 1) (q : c_l_tens args st Kf) : b_l_tens (ends Kf) (startD 2 args, st) := by
  obtain ⟨x, rfl⟩ := len1 hl
  obtain ⟨n, rfl, h0, h1, q⟩ := asI_e q
  unfold b_l_tens
  walk_at "dl"
  refine ⟨by omega, by omega, for_range_ind (fun lo k ρ => ∃ i, ρ = ([some (.v (.int n)), some (.v (.int (10 ^ (n.toNat - k)))), i], st) ∧ k ≤ n.toNat) ?_ ?_ _ _ _ ⟨none, ?_, Nat.le_refl _⟩⟩
  · rintro lo ρ ⟨i, rfl, _⟩
    exact q
  · rintro lo k ρ ⟨i, rfl, hk⟩ ih
    walk_at "dl"
    refine ⟨MulOk.of_right (by decide), ih _ ⟨some (.v (.int lo)), ?_, by omega⟩⟩
    rw [show n.toNat - k = (n.toNat - (k + 1)) + 1 by omega, Int.pow_succ]
  · rw [Nat.sub_self]; rfl
/-- a menu: whatever is picked -/
theorem fIx_any {l : List D} {i : Int} {P : D → Prop} (h0 : 0 ≤ i) (h1 : i < l.length) (h : ∀ d, d ∈ l → P d) : fIx (.lst l) (.int i) P := by
  obtain ⟨j, rfl⟩ := Int.eq_ofNat_of_zero_le h0
  have hj : j < l.length := by omega
  exact fIx_at rfl (show l[j]? = some l[j] by simp [hj]) (h _ (List.getElem_mem hj))
theorem take_ok {st : Stt} {m n : Int} {Kf : Sl → Stt → Prop} (g : Good m st) (hm : 1 ≤ m) (h0 : 0 < n) (h1 : n ≤ 1000000000000000000) (k : ∀ (r : Int) st', 0 ≤ r → r < n → Left 1 st st' → Good (m - 1) st' → Kf (.v (.int r)) st') : c_l_take [.stt, .int n] st Kf :=
  ⟨n, rfl, h0, h1, g.mono hm, fun r st' a b l => k r st' a b l (g.left l)⟩
theorem draw_ok {m k : Int} {pre : List D → Prop} {post : List D → Sl → Prop} {ds : List D} {st : Stt} {Kf : Sl → Stt → Prop} (hp : pre ds) (g : Good k st) (hk : m ≤ k) (h : ∀ r st', post ds r → Left m st st' → Good (k - m) st' → Kf r st') : drawF m pre post ds st Kf :=
  ⟨hp, g.mono hk, fun r st' p l => h r st' p l (g.left l)⟩
theorem p18 : (10 : Int) ^ Int.toNat 18 = 1000000000000000000 := by decide +kernel
theorem p6 : (10 : Int) ^ Int.toNat 6 = 1000000 := by decide +kernel
theorem p9 : (10 : Int) ^ Int.toNat 9 = 1000000000 := by decide +kernel
theorem p15 : (10 : Int) ^ Int.toNat 15 = 1000000000000000 := by decide +kernel
theorem cp (n : Nat) (h : n ≤ 1000000) : PowOk 10 (n : Int) := ⟨⟨by omega, by omega, by decide⟩⟩
theorem cp18 : PowOk 10 18 := cp 18 (by decide)
theorem cp6 : PowOk 10 6 := cp 6 (by decide)
theorem cp9 : PowOk 10 9 := cp 9 (by decide)
theorem cp15 : PowOk 10 15 := cp 15 (by decide)
theorem isNum_nq (q : Rat) : isNum (nq q) = true := by
  show (decide (0 < (q.den : Int)) && decide (Int.gcd q.num q.den = 1)) = true
  rw [decide_eq_true (by have := q.den_pos; omega), Bool.true_and]
  exact decide_eq_true (by have := q.reduced; unfold Nat.Coprime at this; simpa [Int.gcd] using this)
theorem due_nq (n : Nat) (q : Rat) : dueOk (n + 1) (nq q) = true := by
  cases n <;> rfl
end DL
namespace DL
open PySem PySem.Spec PyProof.Rows L2
local macro_rules | `(tactic| walk_at "dl") => `(tactic| simp -implicitDefEqProofs only [dSeq, dNext, dIfS, dB, dNot, dAnd, dOr, d2, fLt, fLe, fGt, fGe, fEqI, fNeI, fEqB, fNeB, fEqS, fNeS, fIsN_non, fNotN_non, fIsB, fNotB, fSub, fMul, fDiv, fDivE, fMod, fPow, fI, fI0, asI_int, asB_bl, asT_tup, asL_lst, asQ_tup, asQ_lst, asS_str, as1_one, as2_two, frz_v, frz_own, fAdd_int, fAdd_tup, fAdd_lst, fIx_tup0, fIx_tup1, fIx_lst0, fIx_lst1, fLen_tup, fLen_lst, fInt_bl, fTuple_tup, fTuple_lst, isN_int, isN_tup, isN_lst, isN_bl, isN_str, isN_non, dVar, dC, dNeg, dSet, dSetO, dPar, dAsg, dAug, dRet, dRetO, dRetV, dRetN, dTup, dCons, dNil, dFn, dFnO, lenIs, dCB, fAbs, fMax2, fMin2, dIsi, dAndV, dOrV, dNotV, dIf, dFor, iSeq, iRange1, iRange2, iZip, aName, aTup, aCons, aNil, dLc, dYes, dLitO, noOwn, wipeE, ends, startD, setV, setO, ownAt, asV, dLst, dListO, dLenO, dTupO, dFrz, dApp, dPop, dClear, dSub, dIxO, d2O, fCatO, fRepO, pt_non, isi_non_int, isi_non_bool, isi_non_tuple, isi_non_list, isi_non_str, pt_bl, isi_bl_int, isi_bl_bool, isi_bl_tuple, isi_bl_list, isi_bl_str, pt_int, isi_int_int, isi_int_bool, isi_int_tuple, isi_int_list, isi_int_str, pt_str, isi_str_int, isi_str_bool, isi_str_tuple, isi_str_list, isi_str_str, pt_tup, isi_tup_int, isi_tup_bool, isi_tup_tuple, isi_tup_list, isi_tup_str, pt_lst, isi_lst_int, isi_lst_bool, isi_lst_tuple, isi_lst_list, isi_lst_str, Br_true, Br_false, Br_dec, Br_not, tt_imp, List.map_cons, List.map_nil, List.cons_append, List.nil_append, List.replicate_succ, List.replicate_zero, List.getElem?_cons_zero, List.getElem?_cons_succ, List.set_nil, List.set_cons_zero, List.set_cons_succ, List.length_cons, List.length_nil, Bool.not_true, Bool.not_false, decide_eq_true_eq, not_true_eq_false, not_false_eq_true, true_and, and_true])
local macro_rules | `(tactic| walk_at "d1") => `(tactic| simp -implicitDefEqProofs only [aName, setV, setO, List.set_cons_zero, List.set_cons_succ])
/-! ### numbers as Rat: sizes, reckoning -/
theorem nq_inj {p q : Rat} (h : nq p = nq q) : p = q := by
  unfold nq at h
  have h1 : p.num = q.num := by injection h with h; injection h with h1 h2; injection h1
  have h2 : (p.den : Int) = q.den := by injection h with h; injection h with h1 h2; injection h2 with h2 h3; injection h2
  exact Rat.ext h1 (by omega)
def asN (x : D) (k : Rat → Prop) : Prop := ∃ q, x = nq q ∧ k q
theorem asN_nq {q : Rat} {k : Rat → Prop} : asN (nq q) k = k q := propext ⟨fun ⟨p, e, h⟩ => by rw [nq_inj e]; exact h, fun h => ⟨q, rfl, h⟩⟩
theorem fIx_nq0 {q : Rat} {P : D → Prop} : fIx (nq q) (.int 0) P = P (.int q.num) := fIx_tup0
theorem fIx_nq1 {q : Rat} {P : D → Prop} : fIx (nq q) (.int 1) P = P (.int q.den) := fIx_tup1
local macro_rules | `(tactic| walk_at "dn") => `(tactic| simp -implicitDefEqProofs only [fIx_nq0, fIx_nq1, asN_nq, dSeq, dNext, dIfS, dB, dNot, dAnd, dOr, d2, fLt, fLe, fGt, fGe, fEqI, fNeI, fEqB, fNeB, fEqS, fNeS, fIsN_non, fNotN_non, fIsB, fNotB, fSub, fMul, fDiv, fDivE, fMod, fPow, fI, fI0, asI_int, asB_bl, asT_tup, asL_lst, asQ_tup, asQ_lst, asS_str, as1_one, as2_two, frz_v, frz_own, fAdd_int, fAdd_tup, fAdd_lst, fIx_tup0, fIx_tup1, fIx_lst0, fIx_lst1, fLen_tup, fLen_lst, fInt_bl, fTuple_tup, fTuple_lst, isN_int, isN_tup, isN_lst, isN_bl, isN_str, isN_non, dVar, dC, dNeg, dSet, dSetO, dPar, dAsg, dAug, dRet, dRetO, dRetV, dRetN, dTup, dCons, dNil, dFn, dFnO, lenIs, dCB, fAbs, fMax2, fMin2, dIsi, dAndV, dOrV, dNotV, dIf, dFor, iSeq, iRange1, iRange2, iZip, aName, aTup, aCons, aNil, dLc, dYes, dLitO, noOwn, wipeE, ends, startD, setV, setO, ownAt, asV, dLst, dListO, dLenO, dTupO, dFrz, dApp, dPop, dClear, dSub, dIxO, d2O, fCatO, fRepO, pt_non, isi_non_int, isi_non_bool, isi_non_tuple, isi_non_list, isi_non_str, pt_bl, isi_bl_int, isi_bl_bool, isi_bl_tuple, isi_bl_list, isi_bl_str, pt_int, isi_int_int, isi_int_bool, isi_int_tuple, isi_int_list, isi_int_str, pt_str, isi_str_int, isi_str_bool, isi_str_tuple, isi_str_list, isi_str_str, pt_tup, isi_tup_int, isi_tup_bool, isi_tup_tuple, isi_tup_list, isi_tup_str, pt_lst, isi_lst_int, isi_lst_bool, isi_lst_tuple, isi_lst_list, isi_lst_str, Br_true, Br_false, Br_dec, Br_not, tt_imp, List.map_cons, List.map_nil, List.cons_append, List.nil_append, List.replicate_succ, List.replicate_zero, List.getElem?_cons_zero, List.getElem?_cons_succ, List.set_nil, List.set_cons_zero, List.set_cons_succ, List.length_cons, List.length_nil, Bool.not_true, Bool.not_false, decide_eq_true_eq, not_true_eq_false, not_false_eq_true, true_and, and_true])
theorem nq_int (i : Int) : D.tup [.int i, .int 1] = nq (i : Rat) := rfl
theorem q_add (p q : Rat) : Rat.divInt (p.num * q.den + q.num * p.den) ((p.den : Int) * q.den) = p + q := by
  have h := Rat.divInt_add_divInt p.num q.num (d₁ := p.den) (d₂ := q.den) (by have := p.den_pos; omega) (by have := q.den_pos; omega)
  rw [Rat.num_divInt_den, Rat.num_divInt_den] at h
  exact h.symm
theorem q_sub (p q : Rat) : Rat.divInt (p.num * q.den - q.num * p.den) ((p.den : Int) * q.den) = p - q := by
  have h := Rat.divInt_sub_divInt p.num q.num (d₁ := p.den) (d₂ := q.den) (by have := p.den_pos; omega) (by have := q.den_pos; omega)
  rw [Rat.num_divInt_den, Rat.num_divInt_den] at h
  exact h.symm
theorem q_mul (p q : Rat) : Rat.divInt (p.num * q.num) ((p.den : Int) * q.den) = p * q := by
  have h := Rat.divInt_mul_divInt p.num q.num (d₁ := p.den) (d₂ := q.den)
  rw [Rat.num_divInt_den, Rat.num_divInt_den] at h
  exact h.symm
theorem q_div (p q : Rat) : Rat.divInt (p.num * q.den) ((p.den : Int) * q.num) = p / q := by
  rw [Rat.div_def]
  conv => rhs; rw [← Rat.num_divInt_den q]
  rw [Rat.inv_divInt]
  conv => rhs; rw [← Rat.num_divInt_den p]
  rw [Rat.divInt_mul_divInt]
theorem den_ne (q : Rat) : (q.den : Int) ≠ 0 := by have := q.den_pos; omega
theorem dens_ne (p q : Rat) : (p.den : Int) * q.den ≠ 0 := Int.mul_ne_zero (den_ne p) (den_ne q)
theorem pow_mono {a b : Nat} (h : a ≤ b) : 2 ^ a ≤ 2 ^ b := Nat.pow_le_pow_right (by decide) h
theorem mul_lt {x y a b : Nat} (ha : x < 2 ^ a) (hb : y < 2 ^ b) : x * y < 2 ^ (a + b) := by
  rw [Nat.pow_add]; exact Nat.mul_lt_mul'' ha hb
theorem mul_abs {i j : Int} {a b : Nat} (ha : i.natAbs < 2 ^ a) (hb : j.natAbs < 2 ^ b) : (i * j).natAbs < 2 ^ (a + b) := by
  rw [Int.natAbs_mul]; exact mul_lt ha hb
theorem add_abs {i j : Int} {a : Nat} (ha : i.natAbs < 2 ^ a) (hb : j.natAbs < 2 ^ a) : (i + j).natAbs < 2 ^ (a + 1) := by
  have := Int.natAbs_add_le i j
  rw [Nat.pow_succ]; omega
theorem sub_abs {i j : Int} {a : Nat} (ha : i.natAbs < 2 ^ a) (hb : j.natAbs < 2 ^ a) : (i - j).natAbs < 2 ^ (a + 1) := by
  have := Int.natAbs_sub_le i j
  rw [Nat.pow_succ]; omega
theorem abs_small {i : Int} {n : Nat} (h : i.natAbs < 64) (hn : 6 ≤ n) : i.natAbs < 2 ^ n := Nat.lt_of_lt_of_le h (Nat.le_trans (by decide : 64 ≤ 2 ^ 6) (pow_mono hn))
theorem abs_up {i : Int} {n m : Nat} (h : i.natAbs < 2 ^ n) (hn : n ≤ m) : i.natAbs < 2 ^ m := Nat.lt_of_lt_of_le h (pow_mono hn)
/-- of at most k bits, top and below -/
structure BQ (k : Nat) (q : Rat) : Prop where
  n : q.num.natAbs < 2 ^ k
  d : q.den < 2 ^ k
theorem BQ.da {k : Nat} {q : Rat} (h : BQ k q) : (q.den : Int).natAbs < 2 ^ k := h.d
theorem BQ.mono {j k : Nat} {q : Rat} (h : BQ j q) (hk : j ≤ k) : BQ k q := ⟨abs_up h.n hk, Nat.lt_of_lt_of_le h.d (pow_mono hk)⟩
theorem BQ.divInt {k : Nat} {t b : Int} (h0 : b ≠ 0) (ht : t.natAbs < 2 ^ k) (hb : b.natAbs < 2 ^ k) : BQ k (Rat.divInt t b) where
  n := by
    rw [rat_num, Int.natAbs_ediv_of_dvd, Int.natAbs_mul]
    · refine Nat.lt_of_le_of_lt (Nat.div_le_self _ _) ?_
      rw [show b.sign.natAbs = 1 from Int.natAbs_sign_of_ne_zero h0, Nat.one_mul]; exact ht
    · exact Int.dvd_trans (Int.gcd_dvd_right _ _) (Int.dvd_mul_left _ _)
  d := by
    rw [Rat.den_divInt, if_neg h0]
    exact Nat.lt_of_le_of_lt (Nat.div_le_self _ _) hb
theorem BQ.add {a b : Nat} {p q : Rat} (hp : BQ a p) (hq : BQ b q) : BQ (a + b + 1) (p + q) := by
  rw [← q_add]
  refine BQ.divInt (dens_ne p q) (add_abs (mul_abs hp.n hq.da) ?_) (abs_up (mul_abs hp.da hq.da) (Nat.le_succ _))
  rw [Nat.add_comm a b]; exact mul_abs hq.n hp.da
theorem BQ.sub {a b : Nat} {p q : Rat} (hp : BQ a p) (hq : BQ b q) : BQ (a + b + 1) (p - q) := by
  rw [← q_sub]
  refine BQ.divInt (dens_ne p q) (sub_abs (mul_abs hp.n hq.da) ?_) (abs_up (mul_abs hp.da hq.da) (Nat.le_succ _))
  rw [Nat.add_comm a b]; exact mul_abs hq.n hp.da
theorem BQ.mul {a b : Nat} {p q : Rat} (hp : BQ a p) (hq : BQ b q) : BQ (a + b) (p * q) := by
  rw [← q_mul]
  exact BQ.divInt (dens_ne p q) (mul_abs hp.n hq.n) (mul_abs hp.da hq.da)
theorem num_ne {q : Rat} (h : q ≠ 0) : q.num ≠ 0 := fun e => h (Rat.num_eq_zero.mp e)
theorem num_eq {q : Rat} : q.num = 0 ↔ q = 0 := Rat.num_eq_zero
theorem BQ.div {a b : Nat} {p q : Rat} (h0 : q ≠ 0) (hp : BQ a p) (hq : BQ b q) : BQ (a + b) (p / q) := by
  rw [← q_div]
  exact BQ.divInt (Int.mul_ne_zero (den_ne p) (num_ne h0)) (mul_abs hp.n hq.da) (mul_abs hp.da hq.n)
theorem BQ.int {k : Nat} {i : Int} (h : i.natAbs < 2 ^ k) (hk : 1 ≤ k) : BQ k (i : Rat) := ⟨h, Nat.lt_of_lt_of_le (by decide : 1 < 2 ^ 1) (pow_mono hk)⟩
theorem BQ.neg {k : Nat} {q : Rat} (h : BQ k q) : BQ k (-q) := ⟨by rw [Rat.neg_num, Int.natAbs_neg]; exact h.n, h.d⟩
/-- what may be reckoned with -/
def Sq (q : Rat) : Prop := BQ 67000000 q
theorem Sq.of {k : Nat} {q : Rat} (h : BQ k q) (hk : k ≤ 67000000) : Sq q := h.mono hk
theorem mulSq {i j : Int} (ha : i.natAbs < 2 ^ 67000000) (hb : j.natAbs < 2 ^ 67000000) : MulOk i j := MulOk.of_abs ha hb (by decide)
/-- two numbers, what is told of them -/
def nn (f : Rat → Rat → D) : DFn := fun ds st Kf => as2 ds fun x y => asN x fun p => asN y fun q => Sq p ∧ Sq q ∧ Kf (.v (f p q)) st
def c_plus : DFn := nn fun p q => nq (p + q)
def c_minus : DFn := nn fun p q => nq (p - q)
def c_times : DFn := nn fun p q => nq (p * q)
def c_before : DFn := nn fun p q => .bl (decide (p < q))
def c_over : DFn := fun ds st Kf => as2 ds fun x y => asN x fun p => asN y fun q => q ≠ 0 ∧ Sq p ∧ Sq q ∧ Kf (.v (nq (p / q))) st
def c_l_plus : DFn := c_plus
def c_l_minus : DFn := c_minus
def c_l_times : DFn := c_times
def c_l_over : DFn := c_over
def b_plus : DSv := (dRet (dFn c_number (lenIs 2 (dCons (d2 fAdd (d2 fMul (d2 fIx (dVar 0) (dC (.int 0))) (d2 fIx (dVar 1) (dC (.int 1)))) (d2 fMul (d2 fIx (dVar 1) (dC (.int 0))) (d2 fIx (dVar 0) (dC (.int 1))))) (dCons (d2 fMul (d2 fIx (dVar 0) (dC (.int 1))) (d2 fIx (dVar 1) (dC (.int 1)))) dNil)))))
def b_minus : DSv := (dRet (dFn c_number (lenIs 2 (dCons (d2 fSub (d2 fMul (d2 fIx (dVar 0) (dC (.int 0))) (d2 fIx (dVar 1) (dC (.int 1)))) (d2 fMul (d2 fIx (dVar 1) (dC (.int 0))) (d2 fIx (dVar 0) (dC (.int 1))))) (dCons (d2 fMul (d2 fIx (dVar 0) (dC (.int 1))) (d2 fIx (dVar 1) (dC (.int 1)))) dNil)))))
def b_times : DSv := (dRet (dFn c_number (lenIs 2 (dCons (d2 fMul (d2 fIx (dVar 0) (dC (.int 0))) (d2 fIx (dVar 1) (dC (.int 0)))) (dCons (d2 fMul (d2 fIx (dVar 0) (dC (.int 1))) (d2 fIx (dVar 1) (dC (.int 1)))) dNil)))))
def b_over : DSv := (dRet (dFn c_number (lenIs 2 (dCons (d2 fMul (d2 fIx (dVar 0) (dC (.int 0))) (d2 fIx (dVar 1) (dC (.int 1)))) (dCons (d2 fMul (d2 fIx (dVar 0) (dC (.int 1))) (d2 fIx (dVar 1) (dC (.int 0)))) dNil)))))
def b_before : DSv := (dRet (d2 fLt (d2 fMul (d2 fIx (dVar 0) (dC (.int 0))) (d2 fIx (dVar 1) (dC (.int 1)))) (d2 fMul (d2 fIx (dVar 1) (dC (.int 0))) (d2 fIx (dVar 0) (dC (.int 1))))))
def b_l_plus : DSv := (dRet (dFn c_l_part (lenIs 2 (dCons (d2 fAdd (d2 fMul (d2 fIx (dVar 0) (dC (.int 0))) (d2 fIx (dVar 1) (dC (.int 1)))) (d2 fMul (d2 fIx (dVar 1) (dC (.int 0))) (d2 fIx (dVar 0) (dC (.int 1))))) (dCons (d2 fMul (d2 fIx (dVar 0) (dC (.int 1))) (d2 fIx (dVar 1) (dC (.int 1)))) dNil)))))
def b_l_minus : DSv := (dRet (dFn c_l_part (lenIs 2 (dCons (d2 fSub (d2 fMul (d2 fIx (dVar 0) (dC (.int 0))) (d2 fIx (dVar 1) (dC (.int 1)))) (d2 fMul (d2 fIx (dVar 1) (dC (.int 0))) (d2 fIx (dVar 0) (dC (.int 1))))) (dCons (d2 fMul (d2 fIx (dVar 0) (dC (.int 1))) (d2 fIx (dVar 1) (dC (.int 1)))) dNil)))))
def b_l_times : DSv := (dRet (dFn c_l_part (lenIs 2 (dCons (d2 fMul (d2 fIx (dVar 0) (dC (.int 0))) (d2 fIx (dVar 1) (dC (.int 0)))) (dCons (d2 fMul (d2 fIx (dVar 0) (dC (.int 1))) (d2 fIx (dVar 1) (dC (.int 1)))) dNil)))))
def b_l_over : DSv := (dRet (dFn c_l_part (lenIs 2 (dCons (d2 fMul (d2 fIx (dVar 0) (dC (.int 0))) (d2 fIx (dVar 1) (dC (.int 1)))) (dCons (d2 fMul (d2 fIx (dVar 0) (dC (.int 1))) (d2 fIx (dVar 1) (dC (.int 0)))) dNil)))))
theorem nn_e {f : Rat → Rat → D} {args : List D} {st : Stt} {Kf : Sl → Stt → Prop} (hl : args.length = 2) (q : nn f args st Kf) : ∃ x y : Rat, args = [nq x, nq y] ∧ Sq x ∧ Sq y ∧ Kf (.v (f x y)) st := by
  obtain ⟨x, y, rfl⟩ := len2 hl
  obtain ⟨x, rfl, y, rfl, hx, hy, q⟩ := q
  exact ⟨x, y, rfl, hx, hy, q⟩
theorem d_plus (args : List D) (st : Stt) (Kf : Sl → Stt → Prop) (hl : args.length = 2) (q : c_plus args st Kf) : b_plus (ends Kf) (startD 0 args, st) := by
  obtain ⟨x, y, rfl, hx, hy, q⟩ := nn_e hl q
  unfold b_plus c_number
  walk_at "dn"
  rw [q_add]
  exact ⟨mulSq hx.n hy.da, mulSq hy.n hx.da, mulSq hx.da hy.da, dens_ne _ _, q⟩
theorem d_l_plus (args : List D) (st : Stt) (Kf : Sl → Stt → Prop) (hl : args.length = 2) (q : c_l_plus args st Kf) : b_l_plus (ends Kf) (startD 0 args, st) := d_plus args st Kf hl q
theorem d_minus (args : List D) (st : Stt) (Kf : Sl → Stt → Prop) (hl : args.length = 2) (q : c_minus args st Kf) : b_minus (ends Kf) (startD 0 args, st) := by
  obtain ⟨x, y, rfl, hx, hy, q⟩ := nn_e hl q
  unfold b_minus c_number
  walk_at "dn"
  rw [q_sub]
  exact ⟨mulSq hx.n hy.da, mulSq hy.n hx.da, mulSq hx.da hy.da, dens_ne _ _, q⟩
theorem d_l_minus (args : List D) (st : Stt) (Kf : Sl → Stt → Prop) (hl : args.length = 2) (q : c_l_minus args st Kf) : b_l_minus (ends Kf) (startD 0 args, st) := d_minus args st Kf hl q
theorem d_times (args : List D) (st : Stt) (Kf : Sl → Stt → Prop) (hl : args.length = 2) (q : c_times args st Kf) : b_times (ends Kf) (startD 0 args, st) := by
  obtain ⟨x, y, rfl, hx, hy, q⟩ := nn_e hl q
  unfold b_times c_number
  walk_at "dn"
  rw [q_mul]
  exact ⟨mulSq hx.n hy.n, mulSq hx.da hy.da, dens_ne _ _, q⟩
theorem d_l_times (args : List D) (st : Stt) (Kf : Sl → Stt → Prop) (hl : args.length = 2) (q : c_l_times args st Kf) : b_l_times (ends Kf) (startD 0 args, st) := d_times args st Kf hl q
theorem d_over (args : List D) (st : Stt) (Kf : Sl → Stt → Prop) (hl : args.length = 2) (q : c_over args st Kf) : b_over (ends Kf) (startD 0 args, st) := by
  obtain ⟨x, y, rfl⟩ := len2 hl
  obtain ⟨x, rfl, y, rfl, h0, hx, hy, q⟩ := q
  unfold b_over c_number
  walk_at "dn"
  rw [q_div]
  exact ⟨mulSq hx.n hy.da, mulSq hx.da hy.n, Int.mul_ne_zero (den_ne _) (num_ne h0), q⟩
theorem d_l_over (args : List D) (st : Stt) (Kf : Sl → Stt → Prop) (hl : args.length = 2) (q : c_l_over args st Kf) : b_l_over (ends Kf) (startD 0 args, st) := d_over args st Kf hl q
theorem d_before (args : List D) (st : Stt) (Kf : Sl → Stt → Prop) (hl : args.length = 2) (q : c_before args st Kf) : b_before (ends Kf) (startD 0 args, st) := by
  obtain ⟨x, y, rfl, hx, hy, q⟩ := nn_e hl q
  unfold b_before
  walk_at "dn"
  rw [show decide (x.num * y.den < y.num * x.den) = decide (x < y) from decide_eq_decide.mpr (Rat.lt_iff _ _).symm]
  exact ⟨mulSq hx.n hy.da, mulSq hy.n hx.da, q⟩
/-! ### as lemmas for a walk -/
theorem num_ok {t b : Int} {st : Stt} {Kf : Sl → Stt → Prop} (h0 : b ≠ 0) (k : Kf (.v (nq (Rat.divInt t b))) st) : c_number [.int t, .int b] st Kf := ⟨h0, k⟩
theorem part_ok {t b : Int} {st : Stt} {Kf : Sl → Stt → Prop} (h0 : b ≠ 0) (k : Kf (.v (nq (Rat.divInt t b))) st) : c_l_part [.int t, .int b] st Kf := ⟨h0, k⟩
theorem same_ok {n : Nat} {y : D} {st : Stt} {Kf : Sl → Stt → Prop} (h : dueOk n y = true) (k : Kf (.v (.bl true)) st) : c_l_same n [y, y] st Kf := ⟨y, rfl, h, k⟩
theorem nn_ok {f : Rat → Rat → D} {p q : Rat} {st : Stt} {Kf : Sl → Stt → Prop} (hp : Sq p) (hq : Sq q) (k : Kf (.v (f p q)) st) : nn f [nq p, nq q] st Kf := ⟨p, rfl, q, rfl, hp, hq, k⟩
theorem over_ok {p q : Rat} {st : Stt} {Kf : Sl → Stt → Prop} (h0 : q ≠ 0) (hp : Sq p) (hq : Sq q) (k : Kf (.v (nq (p / q))) st) : c_over [nq p, nq q] st Kf := ⟨p, rfl, q, rfl, h0, hp, hq, k⟩
theorem tens_ok {n : Int} {st : Stt} {Kf : Sl → Stt → Prop} (h0 : 0 ≤ n) (h1 : n ≤ 1000) (k : Kf (.v (.int (10 ^ n.toNat))) st) : c_l_tens [.int n] st Kf := ⟨h0, h1, k⟩
/-! ### .. as equations for simp -/
theorem num_e {t b : Int} {st : Stt} {Kf : Sl → Stt → Prop} : c_number [.int t, .int b] st Kf = (b ≠ 0 ∧ Kf (.v (nq (Rat.divInt t b))) st) := rfl
theorem part_e {t b : Int} {st : Stt} {Kf : Sl → Stt → Prop} : c_l_part [.int t, .int b] st Kf = (b ≠ 0 ∧ Kf (.v (nq (Rat.divInt t b))) st) := rfl
theorem same_e {n : Nat} {y : D} {st : Stt} {Kf : Sl → Stt → Prop} : c_l_same n [y, y] st Kf = (dueOk n y = true ∧ Kf (.v (.bl true)) st) :=
  propext ⟨fun ⟨z, e, h, k⟩ => by cases e; exact ⟨h, k⟩, fun ⟨h, k⟩ => ⟨y, rfl, h, k⟩⟩
theorem nn_e2 {f : Rat → Rat → D} {p q : Rat} {st : Stt} {Kf : Sl → Stt → Prop} : nn f [nq p, nq q] st Kf = (Sq p ∧ Sq q ∧ Kf (.v (f p q)) st) := by
  show asN (nq p) _ = _
  rw [asN_nq, asN_nq]
theorem over_e {p q : Rat} {st : Stt} {Kf : Sl → Stt → Prop} : c_over [nq p, nq q] st Kf = (q ≠ 0 ∧ Sq p ∧ Sq q ∧ Kf (.v (nq (p / q))) st) := by
  show asN (nq p) _ = _
  rw [asN_nq, asN_nq]
theorem l_over_e {p q : Rat} {st : Stt} {Kf : Sl → Stt → Prop} : c_l_over [nq p, nq q] st Kf = (q ≠ 0 ∧ Sq p ∧ Sq q ∧ Kf (.v (nq (p / q))) st) := over_e
theorem num_lt0 {q : Rat} : q.num < 0 ↔ q < 0 := by rw [Rat.lt_iff]; simp
theorem sub_lt0 {x y : Rat} : x - y < 0 ↔ x < y := by grind
/-! ### drawn numbers -/
def drawQ (m : Int) (k : Nat) : DFn := drawF m (fun ds => ds = [.stt]) fun _ r => ∃ q, r = .v (nq q) ∧ BQ k q
def c_l_number : DFn := drawQ 5 31
def c_l_great : DFn := drawQ 6 200
def c_l_any_number : DFn := drawQ 7 200
def b_l_number : DSv := (dSeq (dSet 1 (dFn c_l_take (lenIs 2 (dCons (dVar 0) (dCons (dC (.int 16)) dNil)))))
  (dSeq (dIfS (dB (d2 fLt (dVar 1) (dC (.int 10)))) (dRet (dTup (dCons (d2 fSub (dFn c_l_take (lenIs 2 (dCons (dVar 0) (dCons (dC (.int 9)) dNil)))) (dC (.int 4))) (dCons (dC (.int 1)) dNil)))) dNext)
  (dSeq (dIfS (dB (d2 fLt (dVar 1) (dC (.int 15)))) (dRet (dFn c_l_part (lenIs 2 (dCons (d2 fSub (dFn c_l_take (lenIs 2 (dCons (dVar 0) (dCons (dC (.int 25)) dNil)))) (dC (.int 12))) (dCons (d2 fAdd (dC (.int 2)) (dFn c_l_take (lenIs 2 (dCons (dVar 0) (dCons (dC (.int 4)) dNil))))) dNil))))) dNext)
  (dSeq (dSet 2 (d2 fAdd (d2 fMul (dFn c_l_take (lenIs 2 (dCons (dVar 0) (dCons (dC (.int 1000)) dNil)))) (d2 fPow (dC (.int 10)) (dC (.int 6)))) (dFn c_l_take (lenIs 2 (dCons (dVar 0) (dCons (d2 fPow (dC (.int 10)) (dC (.int 6))) dNil))))))
  (dRet (dFn c_l_part (lenIs 2 (dCons (d2 fMul (dVar 2) (d2 fSub (dC (.int 1)) (d2 fMul (dC (.int 2)) (dFn c_l_take (lenIs 2 (dCons (dVar 0) (dCons (dC (.int 2)) dNil))))))) (dCons (d2 fAdd (dC (.int 1)) (dFn c_l_take (lenIs 2 (dCons (dVar 0) (dCons (dC (.int 999999)) dNil))))) dNil)))))))))
def b_l_great : DSv := (dSeq (dSet 1 (d2 fAdd (d2 fMul (dFn c_l_take (lenIs 2 (dCons (dVar 0) (dCons (d2 fPow (dC (.int 10)) (dC (.int 18))) dNil)))) (dFn c_l_tens (lenIs 1 (dCons (dFn c_l_take (lenIs 2 (dCons (dVar 0) (dCons (dC (.int 21)) dNil)))) dNil)))) (dFn c_l_take (lenIs 2 (dCons (dVar 0) (dCons (d2 fPow (dC (.int 10)) (dC (.int 9))) dNil))))))
  (dSeq (dSet 2 (d2 fAdd (dC (.int 1)) (d2 fMul (dFn c_l_take (lenIs 2 (dCons (dVar 0) (dCons (d2 fPow (dC (.int 10)) (dC (.int 15))) dNil)))) (dFn c_l_tens (lenIs 1 (dCons (dFn c_l_take (lenIs 2 (dCons (dVar 0) (dCons (dC (.int 16)) dNil)))) dNil))))))
  (dRet (dFn c_l_part (lenIs 2 (dCons (d2 fMul (dVar 1) (d2 fSub (dC (.int 1)) (d2 fMul (dC (.int 2)) (dFn c_l_take (lenIs 2 (dCons (dVar 0) (dCons (dC (.int 2)) dNil))))))) (dCons (dVar 2) dNil)))))))
def b_l_any_number : DSv := (dRet (dIf (dB (d2 fEqI (dFn c_l_take (lenIs 2 (dCons (dVar 0) (dCons (dC (.int 8)) dNil)))) (dC (.int 0)))) (dFn c_l_great (lenIs 1 (dCons (dVar 0) dNil))) (dFn c_l_number (lenIs 1 (dCons (dVar 0) dNil)))))
theorem d_l_number (args : List D) (st : Stt) (Kf : Sl → Stt → Prop) (hl : args.length = 1) (q : c_l_number args st Kf) : b_l_number (ends Kf) (startD 2 args, st) := by
  obtain ⟨rfl, g, q⟩ := q
  unfold b_l_number
  walk_at "dl"
  refine take_ok g (by omega) (by omega) (by omega) fun way s1 w0 w1 l1 g1 => ?_
  walk_at "dl"
  refine ⟨fun _ => take_ok g1 (by omega) (by omega) (by omega) fun r s2 r0 r1 l2 g2 => ?_, fun _ => ⟨fun _ => take_ok g1 (by omega) (by omega) (by omega) fun r s2 r0 r1 l2 g2 => ?_, fun _ => ?_⟩⟩
  · walk_at "dl"
    exact ⟨by decide, q _ _ ⟨((r - 4 : Int) : Rat), rfl, BQ.int (abs_small (by omega) (by decide)) (by decide)⟩ ((l1.trans l2).mono (by omega))⟩
  · walk_at "dl"
    refine take_ok g2 (by omega) (by omega) (by omega) fun t s3 t0 t1 l3 g3 => ?_
    walk_at "dl"
    exact part_ok (by omega) (q _ _ ⟨_, rfl, BQ.divInt (by omega) (abs_small (by omega) (by decide)) (abs_small (by omega) (by decide))⟩ (((l1.trans l2).trans l3).mono (by omega)))
  · rw [p6]
    refine take_ok g1 (by omega) (by omega) (by omega) fun a s2 a0 a1 l2 g2 => ?_
    walk_at "dl"
    refine ⟨cp6, MulOk.of_right (by decide), cp6, take_ok g2 (by omega) (by omega) (by omega) fun b s3 b0 b1 l3 g3 => ?_⟩
    walk_at "dl"
    refine take_ok g3 (by omega) (by omega) (by omega) fun c s4 c0 c1 l4 g4 => ?_
    walk_at "dl"
    refine ⟨MulOk.of_left (by decide), MulOk.sr (by omega), take_ok g4 (by omega) (by omega) (by omega) fun e s5 e0 e1 l5 g5 => ?_⟩
    walk_at "dl"
    have p31 : (2 : Nat) ^ 31 = 2147483648 := by decide +kernel
    have ht : ((a * 1000000 + b) * (1 - 2 * c)).natAbs < 2 ^ 31 := by
      rw [p31, Int.natAbs_mul]
      have h1 : (1 - 2 * c).natAbs = 1 := by omega
      rw [h1]
      omega
    exact part_ok (by omega) (q _ _ ⟨_, rfl, BQ.divInt (by omega) ht (by rw [p31]; omega)⟩ ((((l1.trans l2).trans l3).trans (l4.trans l5)).mono (by omega)))
theorem d_l_great (args : List D) (st : Stt) (Kf : Sl → Stt → Prop) (hl : args.length = 1) (q : c_l_great args st Kf) : b_l_great (ends Kf) (startD 2 args, st) := by
  obtain ⟨rfl, g, q⟩ := q
  unfold b_l_great
  walk_at "dl"
  rw [p18, p9, p15]
  have p60 : (2 : Nat) ^ 60 = 1152921504606846976 := by decide +kernel
  refine ⟨cp18, take_ok g (by omega) (by omega) (by omega) fun a s1 a0 a1 l1 g1 => ?_⟩
  walk_at "dl"
  refine take_ok g1 (by omega) (by omega) (by omega) fun n s2 n0 n1 l2 g2 => ?_
  walk_at "dl"
  refine tens_ok (by omega) (by omega) ?_
  walk_at "dl"
  have ha : a.natAbs < 2 ^ 60 := by omega
  have hn : ((10 : Int) ^ n.toNat).natAbs < 2 ^ 81 := abs_up (pow10_lt _) (by omega)
  refine ⟨MulOk.of_abs ha hn (by decide), cp9, take_ok g2 (by omega) (by omega) (by omega) fun b s3 b0 b1 l3 g3 => ?_⟩
  walk_at "dl"
  refine ⟨cp15, take_ok g3 (by omega) (by omega) (by omega) fun c s4 c0 c1 l4 g4 => ?_⟩
  walk_at "dl"
  refine take_ok g4 (by omega) (by omega) (by omega) fun m s5 m0 m1 l5 g5 => ?_
  walk_at "dl"
  refine tens_ok (by omega) (by omega) ?_
  walk_at "dl"
  have hc : c.natAbs < 2 ^ 60 := by omega
  have hm : ((10 : Int) ^ m.toNat).natAbs < 2 ^ 61 := abs_up (pow10_lt _) (by omega)
  refine ⟨MulOk.of_abs hc hm (by decide), take_ok g5 (by omega) (by omega) (by omega) fun e s6 e0 e1 l6 g6 => ?_⟩
  walk_at "dl"
  have ht : (a * 10 ^ n.toNat + b).natAbs < 2 ^ 142 := add_abs (mul_abs ha hn) (abs_up (n := 60) (by omega) (by decide))
  have hb : (1 + c * 10 ^ m.toNat).natAbs < 2 ^ 122 := add_abs (abs_small (by decide) (by decide)) (mul_abs hc hm)
  have h1 : (1 - 2 * e).natAbs < 2 ^ 1 := by omega
  have h0 : 0 ≤ c * 10 ^ m.toNat := Int.mul_nonneg c0 (Int.le_of_lt (Int.pow_pos (by decide)))
  refine ⟨MulOk.of_left (by decide), MulOk.of_abs ht h1 (by decide), part_ok (by omega) (q _ _ ⟨_, rfl, BQ.divInt (by omega) (abs_up (mul_abs ht h1) (by decide)) (abs_up hb (by decide))⟩ ((((l1.trans l2).trans (l3.trans l4)).trans (l5.trans l6)).mono (by omega)))⟩
theorem d_l_any_number (args : List D) (st : Stt) (Kf : Sl → Stt → Prop) (hl : args.length = 1) (q : c_l_any_number args st Kf) : b_l_any_number (ends Kf) (startD 0 args, st) := by
  obtain ⟨rfl, g, q⟩ := q
  unfold b_l_any_number c_l_great c_l_number drawQ
  walk_at "dl"
  refine take_ok g (by omega) (by omega) (by omega) fun way s1 w0 w1 l1 g1 => ?_
  walk_at "dl"
  refine ⟨fun _ => draw_ok rfl g1 (by omega) fun r s2 ⟨z, er, hz⟩ l2 g2 => ?_, fun _ => draw_ok rfl g1 (by omega) fun r s2 ⟨z, er, hz⟩ l2 g2 => ?_⟩
  · subst er
    exact q _ _ ⟨z, rfl, hz⟩ ((l1.trans l2).mono (by omega))
  · subst er
    exact q _ _ ⟨z, rfl, hz.mono (by decide)⟩ ((l1.trans l2).mono (by omega))
end DL
namespace DL
open PySem PySem.Spec PyProof.Rows L2
/-! ### rows of numbers -/
def nqs (l : List Rat) : List D := l.map nq
theorem nqs_nil : nqs [] = [] := rfl
theorem nqs_cons {a : Rat} {l : List Rat} : nqs (a :: l) = nq a :: nqs l := rfl
theorem nqs_app {l m : List Rat} : nqs l ++ nqs m = nqs (l ++ m) := by simp [nqs]
theorem nqs_one {a : Rat} : [nq a] = nqs [a] := rfl
theorem nqs_len {l : List Rat} : (nqs l).length = l.length := by simp [nqs]
theorem nqs_inj {l m : List Rat} (h : nqs l = nqs m) : l = m := by
  induction l generalizing m with
  | nil => cases m with
    | nil => rfl
    | cons b m => cases h
  | cons a l ih => cases m with
    | nil => cases h
    | cons b m =>
      rw [nqs_cons, nqs_cons] at h
      injection h with h1 h2
      rw [nq_inj h1, ih h2]
theorem nqs_get {l : List Rat} {i : Nat} : (nqs l)[i]? = l[i]?.map nq := by simp [nqs]
theorem nqs_drop {l : List Rat} {n : Nat} : (nqs l).drop n = nqs (l.drop n) := by simp [nqs, List.map_drop]
theorem nqs_take {l : List Rat} {n : Nat} : (nqs l).take n = nqs (l.take n) := by simp [nqs, List.map_take]
theorem nqs_rev {l : List Rat} : (nqs l).reverse = nqs l.reverse := by simp [nqs]
theorem nqs_rep {a : Rat} {n : Nat} : List.replicate n (nq a) = nqs (List.replicate n a) := by simp [nqs]
/-- a row of numbers, as a tuple or a list -/
def rD (b : Bool) (l : List Rat) : D := bif b then .tup (nqs l) else .lst (nqs l)
theorem rD_t (l : List Rat) : D.tup (nqs l) = rD true l := rfl
theorem rD_l (l : List Rat) : D.lst (nqs l) = rD false l := rfl
theorem rD_inj {b c : Bool} {l m : List Rat} (h : rD b l = rD c m) : l = m := by
  cases b <;> cases c <;> simp only [rD, cond_true, cond_false] at h <;> first | (injection h with h; exact nqs_inj h) | cases h
def asR (x : D) (k : List Rat → Prop) : Prop := ∃ b l, x = rD b l ∧ k l
theorem asR_r {b : Bool} {l : List Rat} {k : List Rat → Prop} : asR (rD b l) k = k l := by
  refine propext ⟨fun q => ?_, fun h => ⟨b, l, rfl, h⟩⟩
  obtain ⟨c, m, e, h⟩ := q
  rw [rD_inj e]; exact h
theorem asR_t {l : List Rat} {k : List Rat → Prop} : asR (.tup (nqs l)) k = k l := asR_r (b := true)
theorem asR_l {l : List Rat} {k : List Rat → Prop} : asR (.lst (nqs l)) k = k l := asR_r (b := false)
theorem asQ_r {b : Bool} {l : List Rat} {k : List D → Prop} : asQ (rD b l) k = k (nqs l) := by cases b <;> rfl
theorem fLen_r {b : Bool} {l : List Rat} {P : D → Prop} : fLen [rD b l] P = P (.int l.length) := by cases b <;> (show P _ = P _) <;> rw [nqs_len]
theorem fTuple_r {b : Bool} {l : List Rat} {P : D → Prop} : fTuple [rD b l] P = P (.tup (nqs l)) := by cases b <;> rfl
theorem pt_r {b : Bool} {l : List Rat} : plainTy (rD b l) = true := by cases b <;> rfl
def asT1 (x : D) (k : List Rat → Prop) : Prop := ∃ l, x = .tup (nqs l) ∧ k l
theorem asT1_t {l : List Rat} {k : List Rat → Prop} : asT1 (.tup (nqs l)) k = k l := propext ⟨fun ⟨m, e, h⟩ => by
  injection e with e; rw [nqs_inj e]; exact h, fun h => ⟨l, rfl, h⟩⟩
/-! indexing -/
theorem atI_nqs {l : List Rat} {j : Nat} (h : j < l.length) : atI (nqs l) (j : Int) = some (nq (l.getD j 0)) := by
  rw [atI_nat (v := nq (l.getD j 0))]
  rw [nqs_get]; simp [h]
theorem atI_in {l : List Rat} {i : Int} (h0 : 0 ≤ i) (h1 : i.toNat < l.length) : atI (nqs l) i = some (nq (l.getD i.toNat 0)) := by
  have := atI_nqs h1
  rwa [show ((i.toNat : Nat) : Int) = i by omega] at this
theorem fIx_in {b : Bool} {l : List Rat} {i : Int} {P : D → Prop} (h0 : 0 ≤ i) (h1 : i.toNat < l.length) : fIx (rD b l) (.int i) P = P (nq (l.getD i.toNat 0)) := by
  have e := atI_in h0 h1
  cases b
  · show fIx (.lst (nqs l)) _ _ = _
    rw [fIx_lst, e]
  · show fIx (.tup (nqs l)) _ _ = _
    rw [fIx_tup, e]
theorem fIx_int {b : Bool} {l : List Rat} {i : Int} {P : D → Prop} (h0 : 0 ≤ i) (h1 : i.toNat < l.length) : fIx (.tup (nqs l)) (.int i) P = P (nq (l.getD i.toNat 0)) := fIx_in (b := true) h0 h1
theorem fIx_inl {b : Bool} {l : List Rat} {i : Int} {P : D → Prop} (h0 : 0 ≤ i) (h1 : i.toNat < l.length) : fIx (.lst (nqs l)) (.int i) P = P (nq (l.getD i.toNat 0)) := fIx_in (b := false) h0 h1
theorem atI_last {α : Type} {l : List α} (h : l ≠ []) : atI l (-1) = some (l.getLast h) := by
  have hp : 0 < l.length := List.length_pos_iff.mpr h
  unfold atI ixN
  rw [if_neg (by omega), if_pos (by omega)]
  simp only [Option.bind_some]
  rw [show (-1 + ((l.length : Nat) : Int)).toNat = l.length - 1 by omega]
  rw [List.getLast_eq_getElem]
  simp [show l.length - 1 < l.length by omega]
/-! equality -/
theorem okD_nq (q : Rat) : okD (nq q) = true := by simp [okD, nq, plainD, plainL, pyD, pyL, SeqAt.shaped, PyData.canLay0, PyData.canLayAll0, PyData.depth, PyData.depthAll]
theorem plain_nqs : ∀ l : List Rat, plainL (nqs l) = true
  | [] => rfl
  | a :: l => by rw [nqs_cons]; unfold plainL; rw [plain_nqs l]; simp [nq, plainD, plainL]
theorem lay_nqs : ∀ l : List Rat, PyData.canLayAll0 (pyL (nqs l)) = true
  | [] => by simp [nqs, pyL, PyData.canLayAll0]
  | a :: l => by rw [nqs_cons]; unfold pyL PyData.canLayAll0; rw [lay_nqs l]; simp [nq, pyD, pyL, PyData.canLay0, PyData.canLayAll0]
theorem dep_nqs : ∀ l : List Rat, PyData.depthAll (pyL (nqs l)) ≤ 1
  | [] => by simp [nqs, pyL, PyData.depthAll]
  | a :: l => by rw [nqs_cons]; unfold pyL PyData.depthAll; have := dep_nqs l; simp [nq, pyD, pyL, PyData.depth, PyData.depthAll]; omega
theorem okD_lst (l : List Rat) : okD (.lst (nqs l)) = true := by
  have h := dep_nqs l
  simp [okD, plainD, pyD, SeqAt.shaped, PyData.canLay0, PyData.depth, plain_nqs, lay_nqs]; omega
theorem okD_tup (l : List Rat) : okD (.tup (nqs l)) = true := by
  have h := dep_nqs l
  simp [okD, plainD, pyD, SeqAt.shaped, PyData.canLay0, PyData.depth, plain_nqs, lay_nqs]; omega
theorem eqD_nq (p q : Rat) : eqD (nq p) (nq q) = decide (p = q) := by
  simp only [eqD, nq, pyD, pyL, PyData.eqv, PyData.eqvAll, Bool.and_true]
  by_cases h : p = q
  · subst h; simp
  · rw [decide_eq_false h]
    by_cases h1 : p.num = q.num
    · have : ¬ ((p.den : Int) = q.den) := fun h2 => h (Rat.ext h1 (by omega))
      simp [h1]; omega
    · simp [h1]
theorem eqv_nqs : ∀ l m : List Rat, PyData.eqvAll (pyL (nqs l)) (pyL (nqs m)) = decide (l = m)
  | [], [] => rfl
  | [], b :: m => by simp [nqs_cons, nqs_nil, pyL, PyData.eqvAll]
  | a :: l, [] => by simp [nqs_cons, nqs_nil, pyL, PyData.eqvAll]
  | a :: l, b :: m => by
    rw [nqs_cons, nqs_cons]
    unfold pyL PyData.eqvAll
    rw [eqv_nqs l m, show PyData.eqv (pyD (nq a)) (pyD (nq b)) = decide (a = b) from eqD_nq a b]
    by_cases h1 : a = b <;> by_cases h2 : l = m <;> simp [h1, h2]
theorem eqD_lst (l m : List Rat) : eqD (.lst (nqs l)) (.lst (nqs m)) = decide (l = m) := by unfold eqD pyD PyData.eqv; exact eqv_nqs l m
theorem eqD_tup (l m : List Rat) : eqD (.tup (nqs l)) (.tup (nqs m)) = decide (l = m) := by unfold eqD pyD PyData.eqv; exact eqv_nqs l m
theorem okD_nil : okD (.lst []) = true := okD_lst []
theorem okD_nilt : okD (.tup []) = true := okD_tup []
theorem eqD_nil (l : List Rat) : eqD (.lst (nqs l)) (.lst []) = decide (l = []) := eqD_lst l []
theorem eqD_nilt (l : List Rat) : eqD (.tup (nqs l)) (.tup []) = decide (l = []) := eqD_tup l []
theorem due_nqs (n : Nat) {l : List Rat} (h : l.length ≤ 500000) : dueOk (n + 2) (.lst (nqs l)) = true := by
  unfold dueOk
  rw [nqs_len, decide_eq_true h, Bool.true_and, List.all_eq_true]
  intro x hx
  obtain ⟨q, _, rfl⟩ := List.mem_map.mp hx
  exact due_nq n q
theorem due_nqt (n : Nat) {l : List Rat} (h : l.length ≤ 500000) : dueOk (n + 2) (.tup (nqs l)) = true := by
  unfold dueOk
  rw [nqs_len, decide_eq_true h, Bool.true_and, List.all_eq_true]
  intro x hx
  obtain ⟨q, _, rfl⟩ := List.mem_map.mp hx
  exact due_nq n q
/-! ### the noughts at the end -/
def trim (l : List Rat) : List Rat := (l.reverse.dropWhile (fun a => a == 0)).reverse
theorem trim_snoc0 (l : List Rat) : trim (l ++ [0]) = trim l := by simp [trim]
theorem trim_snoc {l : List Rat} {a : Rat} (h : a ≠ 0) : trim (l ++ [a]) = l ++ [a] := by simp [trim, h]
theorem trim_nil : trim [] = [] := rfl
theorem snoc_cases (l : List Rat) : l = [] ∨ ∃ m a, l = m ++ [a] := by
  rcases List.eq_nil_or_concat l with h | ⟨m, a, h⟩
  · exact .inl h
  · exact .inr ⟨m, a, by simpa using h⟩
local macro_rules | `(tactic| walk_at "dl") => `(tactic| simp -implicitDefEqProofs only [dSeq, dNext, dIfS, dB, dNot, dAnd, dOr, d2, fLt, fLe, fGt, fGe, fEqI, fNeI, fEqB, fNeB, fEqS, fNeS, fIsN_non, fNotN_non, fIsB, fNotB, fSub, fMul, fDiv, fDivE, fMod, fPow, fI, fI0, asI_int, asB_bl, asT_tup, asL_lst, asQ_tup, asQ_lst, asS_str, as1_one, as2_two, frz_v, frz_own, fAdd_int, fAdd_tup, fAdd_lst, fIx_tup0, fIx_tup1, fIx_lst0, fIx_lst1, fLen_tup, fLen_lst, fInt_bl, fTuple_tup, fTuple_lst, isN_int, isN_tup, isN_lst, isN_bl, isN_str, isN_non, dVar, dC, dNeg, dSet, dSetO, dPar, dAsg, dAug, dRet, dRetO, dRetV, dRetN, dTup, dCons, dNil, dFn, dFnO, lenIs, dCB, fAbs, fMax2, fMin2, dIsi, dAndV, dOrV, dNotV, dIf, dFor, iSeq, iRange1, iRange2, iZip, aName, aTup, aCons, aNil, dLc, dYes, dLitO, noOwn, wipeE, ends, startD, setV, setO, ownAt, asV, dLst, dListO, dLenO, dTupO, dFrz, dApp, dPop, dClear, dSub, dIxO, d2O, fCatO, fRepO, pt_non, isi_non_int, isi_non_bool, isi_non_tuple, isi_non_list, isi_non_str, pt_bl, isi_bl_int, isi_bl_bool, isi_bl_tuple, isi_bl_list, isi_bl_str, pt_int, isi_int_int, isi_int_bool, isi_int_tuple, isi_int_list, isi_int_str, pt_str, isi_str_int, isi_str_bool, isi_str_tuple, isi_str_list, isi_str_str, pt_tup, isi_tup_int, isi_tup_bool, isi_tup_tuple, isi_tup_list, isi_tup_str, pt_lst, isi_lst_int, isi_lst_bool, isi_lst_tuple, isi_lst_list, isi_lst_str, Br_true, Br_false, Br_dec, Br_not, tt_imp, List.map_cons, List.map_nil, List.cons_append, List.nil_append, List.replicate_succ, List.replicate_zero, List.getElem?_cons_zero, List.getElem?_cons_succ, List.set_nil, List.set_cons_zero, List.set_cons_succ, List.length_cons, List.length_nil, Bool.not_true, Bool.not_false, decide_eq_true_eq, not_true_eq_false, not_false_eq_true, true_and, and_true])
local macro_rules | `(tactic| walk_at "d1") => `(tactic| simp -implicitDefEqProofs only [aName, setV, setO, List.set_cons_zero, List.set_cons_succ])
local macro_rules | `(tactic| walk_at "dn") => `(tactic| simp -implicitDefEqProofs only [fIx_nq0, fIx_nq1, asN_nq, num_e, part_e, same_e, nn_e2, over_e, l_over_e, c_plus, c_minus, c_times, c_before, c_l_plus, c_l_minus, c_l_times, num_eq, num_lt0, sub_lt0, due_nq, asR_r, asR_t, asR_l, asQ_r, fLen_r, fTuple_r, pt_r, asT1_t, okD_nq, okD_lst, okD_tup, okD_nil, okD_nilt, eqD_nq, eqD_lst, eqD_tup, eqD_nil, eqD_nilt, nqs_len, dCmpO, eqB, neB, dMeth, dChain, iEnum, iRev, iRange3, as3_three, dSeq, dNext, dIfS, dB, dNot, dAnd, dOr, d2, fLt, fLe, fGt, fGe, fEqI, fNeI, fEqB, fNeB, fEqS, fNeS, fIsN_non, fNotN_non, fIsB, fNotB, fSub, fMul, fDiv, fDivE, fMod, fPow, fI, fI0, asI_int, asB_bl, asT_tup, asL_lst, asQ_tup, asQ_lst, asS_str, as1_one, as2_two, frz_v, frz_own, fAdd_int, fAdd_tup, fAdd_lst, fIx_tup0, fIx_tup1, fIx_lst0, fIx_lst1, fLen_tup, fLen_lst, fInt_bl, fTuple_tup, fTuple_lst, isN_int, isN_tup, isN_lst, isN_bl, isN_str, isN_non, dVar, dC, dNeg, dSet, dSetO, dPar, dAsg, dAug, dRet, dRetO, dRetV, dRetN, dTup, dCons, dNil, dFn, dFnO, lenIs, dCB, fAbs, fMax2, fMin2, dIsi, dAndV, dOrV, dNotV, dIf, dFor, iSeq, iRange1, iRange2, iZip, aName, aTup, aCons, aNil, dLc, dYes, dLitO, noOwn, wipeE, ends, startD, setV, setO, ownAt, asV, dLst, dListO, dLenO, dTupO, dFrz, dApp, dPop, dClear, dSub, dIxO, d2O, fCatO, fRepO, pt_non, isi_non_int, isi_non_bool, isi_non_tuple, isi_non_list, isi_non_str, pt_bl, isi_bl_int, isi_bl_bool, isi_bl_tuple, isi_bl_list, isi_bl_str, pt_int, isi_int_int, isi_int_bool, isi_int_tuple, isi_int_list, isi_int_str, pt_str, isi_str_int, isi_str_bool, isi_str_tuple, isi_str_list, isi_str_str, pt_tup, isi_tup_int, isi_tup_bool, isi_tup_tuple, isi_tup_list, isi_tup_str, pt_lst, isi_lst_int, isi_lst_bool, isi_lst_tuple, isi_lst_list, isi_lst_str, Br_true, Br_false, Br_dec, Br_not, tt_imp, List.map_cons, List.map_nil, List.cons_append, List.nil_append, List.replicate_succ, List.replicate_zero, List.getElem?_cons_zero, List.getElem?_cons_succ, List.set_nil, List.set_cons_zero, List.set_cons_succ, List.length_cons, List.length_nil, Bool.not_true, Bool.not_false, decide_eq_true_eq, not_true_eq_false, not_false_eq_true, true_and, and_true])
theorem c_part {t b : Int} {st : Stt} {Kf : Sl → Stt → Prop} (h0 : b ≠ 0) (k : Kf (.v (nq (Rat.divInt t b))) st) : c_l_part [.int t, .int b] st Kf := part_ok h0 k
theorem divInt_zero {n b : Int} (h : b ≠ 0) (z : Rat.divInt n b = 0) : n = 0 := by
  rw [← Rat.zero_divInt b, Rat.divInt_eq_divInt_iff h h] at z
  exact Int.eq_of_mul_eq_mul_right h (by simpa using z)
/-! ### the law's own on rows -/
def c_l_small : DFn := drawF 2 (fun ds => ds = [.stt]) fun _ r => ∃ q, r = .v (nq q) ∧ BQ 2 q ∧ q ≠ 0
def b_l_small : DSv := (dRet (dFn c_l_part (lenIs 2 (dCons (d2 fIx (dC (.lst [(.int 1), (.int (-1)), (.int 2), (.int (-2)), (.int 3), (.int (-3)), (.int 1), (.int (-1))])) (dFn c_l_take (lenIs 2 (dCons (dVar 0) (dCons (dC (.int 8)) dNil))))) (dCons (d2 fAdd (dC (.int 1)) (d2 fDivE (dFn c_l_take (lenIs 2 (dCons (dVar 0) (dCons (dC (.int 8)) dNil)))) (dC (.int 6)))) dNil)))))
theorem d_l_small (args : List D) (st : Stt) (Kf : Sl → Stt → Prop) (hl : args.length = 1) (q : c_l_small args st Kf) : b_l_small (ends Kf) (startD 0 args, st) := by
  obtain ⟨rfl, g, q⟩ := q
  unfold b_l_small
  walk_at "dn"
  refine take_ok g (by omega) (by omega) (by omega) fun way s1 w0 w1 l1 g1 => fIx_any w0 (by simpa using w1) fun d hd => ?_
  obtain ⟨n, rfl, n0, n1⟩ : ∃ n : Int, d = .int n ∧ n ≠ 0 ∧ n.natAbs < 2 ^ 2 := by
    simp only [List.mem_cons, List.not_mem_nil, or_false] at hd
    rcases hd with rfl | rfl | rfl | rfl | rfl | rfl | rfl | rfl <;> exact ⟨_, rfl, by decide, by decide⟩
  refine take_ok g1 (by omega) (by omega) (by omega) fun b s2 b0 b1 l2 g2 => ?_
  walk_at "dn"
  have hb : 1 + b.fdiv 6 ≠ 0 ∧ (1 + b.fdiv 6).natAbs < 2 ^ 2 := by
    rw [Int.fdiv_eq_ediv_of_nonneg _ (by decide)]
    omega
  refine ⟨⟨by decide⟩, hb.1, q _ _ ⟨_, rfl, BQ.divInt hb.1 n1 hb.2, fun z => ?_⟩ ((l1.trans l2).mono (by omega))⟩
  exact n0 (divInt_zero hb.1 z)
def c_l_trimmed : DFn := fun ds st Kf => as1 ds fun x => asR x fun l => Kf (.v (.tup (nqs (trim l)))) st
def b_l_trimmed : DSv := (dSeq (dSetO 1 (dListO (dCons (dVar 0) dNil)))
  (dSeq (dWhile (dAnd (dB (dCmpO 1 neB (asV (dLst dNil)))) (dB (d2 fEqI (d2 fIx (dIxO 1 (dNeg (dC (.int 1)))) (dC (.int 0))) (dC (.int 0))))) (dPop 1))
  (dRet (dTupO 1))))
theorem d_l_trimmed (args : List D) (st : Stt) (Kf : Sl → Stt → Prop) (hl : args.length = 1) (q : c_l_trimmed args st Kf) : b_l_trimmed (ends Kf) (startD 1 args, st) := by
  obtain ⟨x, rfl⟩ := len1 hl
  obtain ⟨b, l, rfl, q⟩ := q
  unfold b_l_trimmed
  walk_at "dn"
  have fin : ∀ x0 : D, dWhile (dAnd (dB (dCmpO 1 neB (asV (dLst dNil)))) (dB (d2 (fI0 fun i j => D.bl (decide (i = j))) (d2 fIx (dIxO 1 (dNeg (dC (D.int 1)))) (dC (D.int 0))) (dC (D.int 0))))) (dPop 1)
      { nx := dRet (dTupO 1) { nx := fun ρ => Kf (Sl.v D.non) ρ.snd, rt := fun d ρ => Kf (Sl.v d) ρ.snd, ro := fun l ρ => Kf (Sl.own l) ρ.snd, bk := fun x => False, ct := fun x => False },
        rt := fun d ρ => Kf (Sl.v d) ρ.snd, ro := fun l ρ => Kf (Sl.own l) ρ.snd, bk := fun x => False, ct := fun x => False } ([some (Sl.v x0), some (Sl.own (nqs l))], st) := fun x0 => by
    refine while_of (fun m ρ => ∃ k, ρ = ([some (.v x0), some (.own (nqs k))], st) ∧ m = k.length ∧ trim k = trim l) l.length ⟨l, rfl, rfl, rfl⟩ ?_
    rintro m ρ ⟨k, rfl, rfl, hk⟩
    walk_at "dn"
    refine ⟨by decide, ?_⟩
    rcases snoc_cases k with rfl | ⟨k, a, rfl⟩
    · walk_at "dn"
      rw [← hk] at q
      exact ⟨q, fun z => z.elim⟩
    · have hlast : atI (nqs (k ++ [a])) (-1) = some (nq a) := by
        rw [atI_last (by simp [nqs])]
        simp [nqs]
      rw [hlast]
      walk_at "dn"
      refine ⟨fun z => by simp at z, fun _ => ⟨fun z => ⟨by simp [nqs], k.length, by simp, k, by simp [nqs], rfl, ?_⟩, fun z => ?_⟩⟩
      · subst z
        rw [← hk, trim_snoc0]
      · rw [← hk, trim_snoc z] at q
        exact q
  exact fin _
/-! ### the first numbers of top by below -/
/-- the i-th figure, the first j of below's shares taken off -/
def figP (T B F : List Rat) (i : Nat) : Nat → Rat
  | 0 => T.getD i 0
  | j + 1 => figP T B F i j - B.getD (j + 1) 0 * F.getD (i - (j + 1)) 0
/-- how many of below's numbers the i-th figure sees -/
def figN (B : List Rat) (i : Nat) : Nat := min (i + 1) B.length - 1
def serL (T B : List Rat) : Nat → List Rat
  | 0 => []
  | n + 1 => serL T B n ++ [figP T B (serL T B n) n (figN B n)]
theorem serL_len (T B : List Rat) : ∀ n, (serL T B n).length = n
  | 0 => rfl
  | n + 1 => by simp [serL, serL_len T B n]
theorem serL_getD (T B : List Rat) {k : Nat} : ∀ {n : Nat}, k < n → (serL T B n).getD k 0 = figP T B (serL T B k) k (figN B k)
  | 0, h => absurd h (Nat.not_lt_zero _)
  | n + 1, h => by
    show (serL T B n ++ [figP T B (serL T B n) n (figN B n)]).getD k 0 = _
    by_cases e : k = n
    · subst e
      rw [List.getD_eq_getElem?_getD, List.getElem?_append_right (by rw [serL_len]; exact Nat.le_refl _), serL_len]
      simp
    · have ih := serL_getD T B (k := k) (n := n) (by omega)
      rw [← ih, List.getD_eq_getElem?_getD, List.getD_eq_getElem?_getD, List.getElem?_append_left (by rw [serL_len]; omega)]
theorem Sq0 : Sq 0 := ⟨Nat.two_pow_pos _, by show 1 < _; exact Nat.lt_of_lt_of_le (by decide : 1 < 2 ^ 1) (pow_mono (by decide))⟩
theorem getD_all {P : Rat → Prop} {l : List Rat} (h : ∀ x, x ∈ l → P x) (h0 : P 0) (i : Nat) : P (l.getD i 0) := by
  rw [List.getD_eq_getElem?_getD]
  cases e : l[i]? with
  | none => exact h0
  | some a => exact h a (List.mem_of_getElem? e)
/-- its reckoning stays in bounds -/
structure SerOk (T B : List Rat) (n : Nat) : Prop where
  fig : ∀ i, i < n → ∀ j, j ≤ figN B i → Sq (figP T B (serL T B i) i j)
  mul : ∀ i, i < n → ∀ j, j < figN B i → Sq (B.getD (j + 1) 0 * (serL T B i).getD (i - (j + 1)) 0)
  b : ∀ x, x ∈ B → Sq x
  t : ∀ x, x ∈ T → Sq x
def c_l_series : DFn := fun ds st Kf => ∃ a T b B n, ds = [rD a T, rD b B, .int n] ∧ 0 ≤ n ∧ n ≤ 1000 ∧ SerOk T B n.toNat ∧ Kf (.own (nqs (serL T B n.toNat))) st
def b_l_series : DSv := (dSeq (dSetO 3 (dLst dNil))
  (dSeq (dFor (iRange1 (dCons (dVar 2) dNil)) (aName 4) (dSeq (dSet 5 (dIf (dB (d2 fLt (dVar 4) (dCB fLen (dCons (dVar 0) dNil)))) (d2 fIx (dVar 0) (dVar 4)) (dTup (dCons (dC (.int 0)) (dCons (dC (.int 1)) dNil)))))
  (dSeq (dFor (iRange2 (dCons (dC (.int 1)) (dCons (dCB fMin2 (dCons (d2 fAdd (dVar 4) (dC (.int 1))) (dCons (dCB fLen (dCons (dVar 1) dNil)) dNil))) dNil))) (aName 6) (dSet 5 (dFn c_l_minus (lenIs 2 (dCons (dVar 5) (dCons (dFn c_l_times (lenIs 2 (dCons (d2 fIx (dVar 1) (dVar 6)) (dCons (dIxO 3 (d2 fSub (dVar 4) (dVar 6))) dNil)))) dNil))))))
  (dApp 3 (dVar 5)))))
  (dRetV 3)))
theorem d_l_series (args : List D) (st : Stt) (Kf : Sl → Stt → Prop) (hl : args.length = 3) (q : c_l_series args st Kf) : b_l_series (ends Kf) (startD 4 args, st) := by
  obtain ⟨a, T, b, B, n, rfl, h0, h1, ok, q⟩ := q
  unfold b_l_series
  walk_at "dn"
  refine ⟨by decide, by omega, by omega, for_range_ind (fun lo m ρ => ∃ x y z, ρ = ([some (.v (rD a T)), some (.v (rD b B)), some (.v (.int n)), some (.own (nqs (serL T B lo.toNat))), x, y, z], st) ∧ 0 ≤ lo ∧ lo + m = n) ?_ ?_ _ _ _ ⟨none, none, none, rfl, by decide, by omega⟩⟩
  · rintro lo ρ ⟨x, y, z, rfl, h2, h3⟩
    rw [show lo = n by omega]
    exact q
  rintro lo m ρ ⟨x, y, z, rfl, h2, h3⟩ ih
  walk_at "d1"
  have hi : lo.toNat < n.toNat := by omega
  refine seq_by (fun ρ => ρ = ([some (.v (rD a T)), some (.v (rD b B)), some (.v (.int n)), some (.own (nqs (serL T B lo.toNat))), some (.v (.int lo)), some (.v (nq (T.getD lo.toNat 0))), z], st)) (fun nx hnx => ?_) ?_
  · clear ih
    walk_at "dn"
    refine ⟨fun h => ?_, fun h => ?_⟩
    · rw [fIx_in h2 (by omega)]
      exact hnx _ rfl
    · refine ⟨by decide, ?_⟩
      have : nq (T.getD lo.toNat 0) = D.tup [.int 0, .int 1] := by
        rw [List.getD_eq_getElem?_getD, List.getElem?_eq_none (by omega)]; rfl
      rw [← this]
      exact hnx _ rfl
  rintro ρ rfl
  refine seq_by (fun ρ => ∃ z, ρ = ([some (.v (rD a T)), some (.v (rD b B)), some (.v (.int n)), some (.own (nqs (serL T B lo.toNat))), some (.v (.int lo)), some (.v (nq (figP T B (serL T B lo.toNat) lo.toNat (figN B lo.toNat)))), z], st)) (fun nx hnx => ?_) ?_
  · clear ih
    walk_at "dn"
    have en : ((if (B.length : Int) < lo + 1 then (B.length : Int) else lo + 1) - 1).toNat = figN B lo.toNat := by
      unfold figN
      split <;> omega
    refine ⟨⟨by decide, by decide, by split <;> omega, by split <;> omega⟩, ?_⟩
    rw [en]
    refine for_range_ind (fun l1 m1 ρ => ∃ z j, ρ = ([some (.v (rD a T)), some (.v (rD b B)), some (.v (.int n)), some (.own (nqs (serL T B lo.toNat))), some (.v (.int lo)), some (.v (nq (figP T B (serL T B lo.toNat) lo.toNat j))), z], st) ∧ l1 = ((j + 1 : Nat) : Int) ∧ j + m1 = figN B lo.toNat) ?_ ?_ _ _ _ ⟨z, 0, rfl, rfl, by omega⟩
    · rintro l1 ρ ⟨z, j, rfl, h4, h5⟩
      have : j = figN B lo.toNat := by omega
      subst this
      exact hnx _ ⟨_, rfl⟩
    rintro l1 m1 ρ ⟨z, j, rfl, rfl, h5⟩ ih
    have hj : j < figN B lo.toNat := by omega
    have hj2 : j + 1 < B.length ∧ j + 1 ≤ lo.toNat := by unfold figN at hj; omega
    walk_at "dn"
    rw [fIx_in (by omega) (by omega), atI_in (by omega) (by rw [serL_len]; omega)]
    rw [show ((j + 1 : Nat) : Int).toNat = j + 1 by omega, show (lo - ((j + 1 : Nat) : Int)).toNat = lo.toNat - (j + 1) by omega]
    walk_at "dn"
    have q1 := getD_all ok.b Sq0 (j + 1)
    have q2 : Sq ((serL T B lo.toNat).getD (lo.toNat - (j + 1)) 0) := by
      rw [serL_getD T B (by omega)]
      exact ok.fig _ (by omega) _ (Nat.le_refl _)
    have q3 := ok.fig _ hi j (by omega)
    have q4 := ok.mul _ hi j hj
    exact ⟨q1, q2, q3, q4, ih _ ⟨_, j + 1, rfl, by omega, by omega⟩⟩
  rintro ρ ⟨z, rfl⟩
  walk_at "dn"
  have step : nqs (serL T B lo.toNat) ++ [nq (figP T B (serL T B lo.toNat) lo.toNat (figN B lo.toNat))] = nqs (serL T B (lo + 1).toNat) := by
    rw [nqs_one, nqs_app, show (lo + 1).toNat = lo.toNat + 1 by omega]; rfl
  rw [step]
  exact ⟨by rw [serL_len]; omega, ih _ ⟨_, _, _, rfl, by omega, by omega⟩⟩
end DL
namespace DL
open PySem PySem.Spec PyProof.Rows L2
local macro_rules | `(tactic| walk_at "dl") => `(tactic| simp -implicitDefEqProofs only [dSeq, dNext, dIfS, dB, dNot, dAnd, dOr, d2, fLt, fLe, fGt, fGe, fEqI, fNeI, fEqB, fNeB, fEqS, fNeS, fIsN_non, fNotN_non, fIsB, fNotB, fSub, fMul, fDiv, fDivE, fMod, fPow, fI, fI0, asI_int, asB_bl, asT_tup, asL_lst, asQ_tup, asQ_lst, asS_str, as1_one, as2_two, frz_v, frz_own, fAdd_int, fAdd_tup, fAdd_lst, fIx_tup0, fIx_tup1, fIx_lst0, fIx_lst1, fLen_tup, fLen_lst, fInt_bl, fTuple_tup, fTuple_lst, isN_int, isN_tup, isN_lst, isN_bl, isN_str, isN_non, dVar, dC, dNeg, dSet, dSetO, dPar, dAsg, dAug, dRet, dRetO, dRetV, dRetN, dTup, dCons, dNil, dFn, dFnO, lenIs, dCB, fAbs, fMax2, fMin2, dIsi, dAndV, dOrV, dNotV, dIf, dFor, iSeq, iRange1, iRange2, iZip, aName, aTup, aCons, aNil, dLc, dYes, dLitO, noOwn, wipeE, ends, startD, setV, setO, ownAt, asV, dLst, dListO, dLenO, dTupO, dFrz, dApp, dPop, dClear, dSub, dIxO, d2O, fCatO, fRepO, pt_non, isi_non_int, isi_non_bool, isi_non_tuple, isi_non_list, isi_non_str, pt_bl, isi_bl_int, isi_bl_bool, isi_bl_tuple, isi_bl_list, isi_bl_str, pt_int, isi_int_int, isi_int_bool, isi_int_tuple, isi_int_list, isi_int_str, pt_str, isi_str_int, isi_str_bool, isi_str_tuple, isi_str_list, isi_str_str, pt_tup, isi_tup_int, isi_tup_bool, isi_tup_tuple, isi_tup_list, isi_tup_str, pt_lst, isi_lst_int, isi_lst_bool, isi_lst_tuple, isi_lst_list, isi_lst_str, Br_true, Br_false, Br_dec, Br_not, tt_imp, List.map_cons, List.map_nil, List.cons_append, List.nil_append, List.replicate_succ, List.replicate_zero, List.getElem?_cons_zero, List.getElem?_cons_succ, List.set_nil, List.set_cons_zero, List.set_cons_succ, List.length_cons, List.length_nil, Bool.not_true, Bool.not_false, decide_eq_true_eq, not_true_eq_false, not_false_eq_true, true_and, and_true])
local macro_rules | `(tactic| walk_at "d1") => `(tactic| simp -implicitDefEqProofs only [aName, setV, setO, List.set_cons_zero, List.set_cons_succ])
local macro_rules | `(tactic| walk_at "dn") => `(tactic| simp -implicitDefEqProofs only [fIx_nq0, fIx_nq1, asN_nq, num_e, part_e, same_e, nn_e2, over_e, l_over_e, c_plus, c_minus, c_times, c_before, c_l_plus, c_l_minus, c_l_times, num_eq, num_lt0, sub_lt0, due_nq, asR_r, asR_t, asR_l, asQ_r, fLen_r, fTuple_r, pt_r, asT1_t, okD_nq, okD_lst, okD_tup, okD_nil, okD_nilt, eqD_nq, eqD_lst, eqD_tup, eqD_nil, eqD_nilt, nqs_len, dCmpO, eqB, neB, dMeth, dChain, iEnum, iRev, iRange3, as3_three, dSeq, dNext, dIfS, dB, dNot, dAnd, dOr, d2, fLt, fLe, fGt, fGe, fEqI, fNeI, fEqB, fNeB, fEqS, fNeS, fIsN_non, fNotN_non, fIsB, fNotB, fSub, fMul, fDiv, fDivE, fMod, fPow, fI, fI0, asI_int, asB_bl, asT_tup, asL_lst, asQ_tup, asQ_lst, asS_str, as1_one, as2_two, frz_v, frz_own, fAdd_int, fAdd_tup, fAdd_lst, fIx_tup0, fIx_tup1, fIx_lst0, fIx_lst1, fLen_tup, fLen_lst, fInt_bl, fTuple_tup, fTuple_lst, isN_int, isN_tup, isN_lst, isN_bl, isN_str, isN_non, dVar, dC, dNeg, dSet, dSetO, dPar, dAsg, dAug, dRet, dRetO, dRetV, dRetN, dTup, dCons, dNil, dFn, dFnO, lenIs, dCB, fAbs, fMax2, fMin2, dIsi, dAndV, dOrV, dNotV, dIf, dFor, iSeq, iRange1, iRange2, iZip, aName, aTup, aCons, aNil, dLc, dYes, dLitO, noOwn, wipeE, ends, startD, setV, setO, ownAt, asV, dLst, dListO, dLenO, dTupO, dFrz, dApp, dPop, dClear, dSub, dIxO, d2O, fCatO, fRepO, pt_non, isi_non_int, isi_non_bool, isi_non_tuple, isi_non_list, isi_non_str, pt_bl, isi_bl_int, isi_bl_bool, isi_bl_tuple, isi_bl_list, isi_bl_str, pt_int, isi_int_int, isi_int_bool, isi_int_tuple, isi_int_list, isi_int_str, pt_str, isi_str_int, isi_str_bool, isi_str_tuple, isi_str_list, isi_str_str, pt_tup, isi_tup_int, isi_tup_bool, isi_tup_tuple, isi_tup_list, isi_tup_str, pt_lst, isi_lst_int, isi_lst_bool, isi_lst_tuple, isi_lst_list, isi_lst_str, Br_true, Br_false, Br_dec, Br_not, tt_imp, List.map_cons, List.map_nil, List.cons_append, List.nil_append, List.replicate_succ, List.replicate_zero, List.getElem?_cons_zero, List.getElem?_cons_succ, List.set_nil, List.set_cons_zero, List.set_cons_succ, List.length_cons, List.length_nil, Bool.not_true, Bool.not_false, decide_eq_true_eq, not_true_eq_false, not_false_eq_true, true_and, and_true])
/-! ### a crude bound of a series' numbers -/
theorem BQ0 {k : Nat} (h : 1 ≤ k) : BQ k 0 := BQ.int (i := 0) (Nat.two_pow_pos _) h
theorem ser_bound {T B : List Rat} {t b : Nat} (ht : ∀ x, x ∈ T → BQ t x) (hb : ∀ x, x ∈ B → BQ b x) (t1 : 1 ≤ t) (b1 : 1 ≤ b) : ∀ i : Nat, (∀ j, j ≤ i → BQ (t + ((t + b + 1) * 2 ^ i - (t + b + 1) * 2 ^ (i - j))) (figP T B (serL T B i) i j)) ∧ BQ ((t + b + 1) * 2 ^ i - (b + 1)) (figP T B (serL T B i) i (figN B i)) := by
  intro i
  induction i using Nat.strongRecOn with
  | _ i ih =>
    have main : ∀ j, j ≤ i → BQ (t + ((t + b + 1) * 2 ^ i - (t + b + 1) * 2 ^ (i - j))) (figP T B (serL T B i) i j) := by
      intro j
      induction j with
      | zero =>
        intro _
        exact (getD_all ht (BQ0 t1) i).mono (by omega)
      | succ j ihj =>
        intro hj
        have h1 := ihj (by omega)
        have h2 := getD_all hb (BQ0 b1) (j + 1)
        have h3 : BQ ((t + b + 1) * 2 ^ (i - (j + 1)) - (b + 1)) ((serL T B i).getD (i - (j + 1)) 0) := by
          rw [serL_getD T B (by omega)]
          exact (ih _ (by omega)).2
        refine (h1.sub (h2.mul h3)).mono ?_
        have e1 : (t + b + 1) * 2 ^ (i - j) = 2 * ((t + b + 1) * 2 ^ (i - (j + 1))) := by
          rw [show i - j = (i - (j + 1)) + 1 by omega, Nat.pow_succ, ← Nat.mul_assoc, Nat.mul_comm _ 2]
        have e2 : (t + b + 1) * 2 ^ (i - j) ≤ (t + b + 1) * 2 ^ i := Nat.mul_le_mul_left _ (pow_mono (by omega))
        have e3 : (t + b + 1) * 1 ≤ (t + b + 1) * 2 ^ (i - (j + 1)) := Nat.mul_le_mul_left _ (Nat.two_pow_pos _)
        omega
    refine ⟨main, ?_⟩
    have hf : figN B i ≤ i := by unfold figN; omega
    refine (main _ hf).mono ?_
    have e2 : (t + b + 1) * 2 ^ (i - figN B i) ≤ (t + b + 1) * 2 ^ i := Nat.mul_le_mul_left _ (pow_mono (by omega))
    have e3 : (t + b + 1) * 1 ≤ (t + b + 1) * 2 ^ (i - figN B i) := Nat.mul_le_mul_left _ (Nat.two_pow_pos _)
    omega
theorem ser_mem {T B : List Rat} {n : Nat} {P : Rat → Prop} (h : ∀ i, i < n → P (figP T B (serL T B i) i (figN B i))) : ∀ x, x ∈ serL T B n → P x := fun x hx => by
  obtain ⟨i, hi, e⟩ := List.getElem_of_mem hx
  rw [serL_len] at hi
  have := h i hi
  rw [← serL_getD T B hi] at this
  rw [List.getD_eq_getElem?_getD, List.getElem?_eq_getElem (by rw [serL_len]; exact hi)] at this
  rw [← e]; exact this
theorem ser_le {c n i b : Nat} (h : i ≤ n) : c * 2 ^ i - b ≤ c * 2 ^ n := Nat.le_trans (Nat.sub_le _ _) (Nat.mul_le_mul_left _ (pow_mono h))
theorem SerOk.crude {T B : List Rat} {t b n : Nat} (ht : ∀ x, x ∈ T → BQ t x) (hb : ∀ x, x ∈ B → BQ b x) (t1 : 1 ≤ t) (b1 : 1 ≤ b) (h : (t + b + 1) * 2 ^ n ≤ 30000000) : SerOk T B n ∧ ∀ x, x ∈ serL T B n → BQ ((t + b + 1) * 2 ^ n) x := by
  have k := ser_bound ht hb t1 b1
  have t2 : (t + b + 1) * 1 ≤ (t + b + 1) * 2 ^ n := Nat.mul_le_mul_left _ (Nat.two_pow_pos _)
  refine ⟨⟨fun i hi j hj => ?_, fun i hi j hj => ?_, fun x hx => (hb x hx).mono (by omega), fun x hx => (ht x hx).mono (by omega)⟩, ser_mem fun i hi => (k i).2.mono (ser_le (Nat.le_of_lt hi))⟩
  · have hf : figN B i ≤ i := by unfold figN; omega
    have e := ser_le (c := t + b + 1) (b := (t + b + 1) * 2 ^ (i - j)) (Nat.le_of_lt hi)
    exact ((k i).1 j (by omega)).mono (by omega)
  · have hf : figN B i ≤ i := by unfold figN; omega
    have h2 := getD_all hb (BQ0 b1) (j + 1)
    rw [serL_getD T B (by omega)]
    have e := ser_le (c := t + b + 1) (b := b + 1) (show i - (j + 1) ≤ n by omega)
    exact (h2.mul (k (i - (j + 1))).2).mono (by omega)
/-! ### rows drawn -/
def AllBQ (k : Nat) (l : List Rat) : Prop := ∀ x, x ∈ l → BQ k x
theorem AllBQ.mono {j k : Nat} {l : List Rat} (h : AllBQ j l) (hk : j ≤ k) : AllBQ k l := fun x hx => (h x hx).mono hk
theorem trim_sub {l : List Rat} {x : Rat} (h : x ∈ trim l) : x ∈ l := by
  unfold trim at h
  rw [List.mem_reverse] at h
  have := (List.dropWhile_sublist _).subset h
  simpa using this
theorem trim_len (l : List Rat) : (trim l).length ≤ l.length := by
  unfold trim
  rw [List.length_reverse]
  have := (List.dropWhile_sublist (l := l.reverse) (fun a => a == 0)).length_le
  simpa using this
theorem AllBQ.trim {k : Nat} {l : List Rat} (h : AllBQ k l) : AllBQ k (trim l) := fun x hx => h x (trim_sub hx)
theorem AllBQ.app {k : Nat} {l m : List Rat} (h : AllBQ k l) (h' : AllBQ k m) : AllBQ k (l ++ m) := fun x hx => (List.mem_append.mp hx).elim (h x) (h' x)
theorem AllBQ.one {k : Nat} {a : Rat} (h : BQ k a) : AllBQ k [a] := fun x hx => by rw [List.mem_singleton.mp hx]; exact h
theorem AllBQ.nil {k : Nat} : AllBQ k [] := fun x hx => by cases hx
theorem AllBQ.rep {k n : Nat} {a : Rat} (h : BQ k a) : AllBQ k (List.replicate n a) := fun x hx => by rw [List.eq_of_mem_replicate hx]; exact h
theorem AllBQ.set {k i : Nat} {l : List Rat} {a : Rat} (h : AllBQ k l) (ha : BQ k a) : AllBQ k (l.set i a) := fun x hx => (List.mem_or_eq_of_mem_set hx).elim (h x) (fun e => by rw [e]; exact ha)
theorem nqs_set {l : List Rat} {i : Nat} {a : Rat} : (nqs l).set i (nq a) = nqs (l.set i a) := by simp [nqs, List.map_set]
/-- a comprehension of drawn numbers -/
theorem lc_nums {s : Nat} {te : DEv} {env : List (Option Sl)} {K : List D → Stt → Prop} {m : Int} {k : Nat} (hm : 0 ≤ m)
    (h : ∀ (i : Int) (st : Stt) (Kd : D → En → Prop), Good m st → (∀ q (ρ : En), BQ k q → Left m st ρ.2 → Kd (nq q) ρ) → te (setV (env, st) s (.int i)) Kd) :
    ∀ (n : Nat) (lo : Int) (acc : List Rat) (st : Stt), Good (m * n) st → acc.length + n ≤ 1000000 → AllBQ k acc → (∀ l st', l.length = acc.length + n → AllBQ k l → Left (m * n) st st' → K (nqs l) st') → lcD (aName s) dYes te env (rangeD lo n) (nqs acc) st K
  | 0, lo, acc, st, g, hl, ha, fin => fin acc st rfl ha (Left.refl g (by simp))
  | n + 1, lo, acc, st, g, hl, ha, fin => by
    have e : m * ((n + 1 : Nat) : Int) = m * (n : Int) + m := by rw [Int.natCast_add, Int.mul_add]; simp
    have h0 : 0 ≤ m * (n : Int) := Int.mul_nonneg hm (Int.natCast_nonneg n)
    rw [rangeD_succ]
    unfold lcD aName dYes
    rw [e] at g
    refine ⟨fun _ => ?_, fun z => nomatch z⟩
    refine h lo st _ (g.mono (by omega)) fun q ρ hq l => ⟨by rw [nqs_len]; omega, ?_⟩
    rw [nqs_one, nqs_app]
    refine lc_nums hm h n (lo + 1) (acc ++ [q]) ρ.2 ((g.left l).mono (by omega)) (by simp; omega) (ha.app (AllBQ.one hq)) fun l' st' e1 e2 e3 => fin l' st' (by rw [e1]; simp; omega) e2 ?_
    rw [e]
    exact (l.trans e3).mono (by omega)
theorem rep_one {x : D} {k : Int} : repD [x] k = List.replicate k.toNat x := by
  unfold repD
  induction k.toNat with
  | zero => rfl
  | succ n ih => rw [List.replicate_succ, List.replicate_succ, List.flatten_cons, ih]; rfl
/-- a comprehension over a row, number by number -/
theorem lc_map {s : Nat} {te : DEv} {env : List (Option Sl)} {K : List D → Stt → Prop} (f : Rat → Rat) :
    ∀ (l acc : List Rat) (st : Stt), (∀ x, x ∈ l → ∀ (Kd : D → En → Prop), (∀ ρ : En, ρ.2 = st → Kd (nq (f x)) ρ) → te (setV (env, st) s (nq x)) Kd) → acc.length + l.length ≤ 1000000 → K (nqs (acc ++ l.map f)) st → lcD (aName s) dYes te env (nqs l) (nqs acc) st K
  | [], acc, st, h, hl, fin => by
    rw [List.map_nil, List.append_nil] at fin
    exact fin
  | x :: l, acc, st, h, hl, fin => by
    rw [nqs_cons]
    unfold lcD aName dYes
    simp only [List.length_cons] at hl
    refine ⟨fun _ => ?_, fun z => nomatch z⟩
    refine h x List.mem_cons_self _ fun ρ e => ⟨by rw [nqs_len]; omega, ?_⟩
    rw [nqs_one, nqs_app, e]
    exact lc_map f l (acc ++ [f x]) st (fun y hy => h y (List.mem_cons_of_mem _ hy)) (by simp; omega) (by simpa using fin)
/-- a small whole number, or a drawn one -/
def c_l_any : DFn := drawF 5 (fun ds => ∃ n, ds = [.stt, .int n]) fun _ r => ∃ q, r = .v (nq q) ∧ BQ 31 q
def b_l_any : DSv := (dSeq (dIfS (dB (d2 fGt (dVar 1) (dC (.int 6)))) (dRet (dTup (dCons (d2 fSub (dFn c_l_take (lenIs 2 (dCons (dVar 0) (dCons (dC (.int 9)) dNil)))) (dC (.int 4))) (dCons (dC (.int 1)) dNil)))) dNext)
  (dRet (dFn c_l_number (lenIs 1 (dCons (dVar 0) dNil)))))
theorem d_l_any (args : List D) (st : Stt) (Kf : Sl → Stt → Prop) (hl : args.length = 2) (q : c_l_any args st Kf) : b_l_any (ends Kf) (startD 0 args, st) := by
  obtain ⟨⟨n, rfl⟩, g, q⟩ := q
  unfold b_l_any c_l_number drawQ
  walk_at "dn"
  refine ⟨fun _ => take_ok g (by omega) (by omega) (by omega) fun r s2 r0 r1 l2 g2 => ?_, fun _ => draw_ok rfl g (by omega) fun r s2 ⟨z, er, hz⟩ l2 g2 => ?_⟩
  · walk_at "dn"
    exact ⟨by decide, q _ _ ⟨((r - 4 : Int) : Rat), rfl, BQ.int (abs_small (by omega) (by decide)) (by decide)⟩ (l2.mono (by omega))⟩
  · subst er
    exact q _ _ ⟨z, rfl, hz⟩ (l2.mono (by omega))
/-- a top and a below, below's number 0 one; no more numbers than a + 1, b + 1 -/
def c_l_two_polys : DFn := drawF 2000 (fun ds => ∃ a b, ds = [.stt, .int a, .int b] ∧ 0 ≤ a ∧ a ≤ 200 ∧ 0 ≤ b ∧ b ≤ 200) fun ds r => ∃ T B : List Rat, r = .v (.tup [.tup (nqs T), .tup (nqs B)]) ∧ AllBQ 31 T ∧ AllBQ 3 B ∧ B.head? = some 1 ∧
  ∀ a b : Int, ds = [.stt, .int a, .int b] → T.length ≤ a.toNat + 1 ∧ B.length = b.toNat + 1
def b_l_two_polys : DSv := (dSeq (dSet 3 (d2 fAdd (asV (dLc (iRange1 (dCons (dVar 1) dNil)) (aName 5) dYes (dIf (dB (d2 fLt (dVar 5) (dC (.int 2)))) (dFn c_l_number (lenIs 1 (dCons (dVar 0) dNil))) (dTup (dCons (d2 fSub (dFn c_l_take (lenIs 2 (dCons (dVar 0) (dCons (dC (.int 7)) dNil)))) (dC (.int 3))) (dCons (dC (.int 1)) dNil)))) [5])) (asV (dLst (dCons (dFn c_l_small (lenIs 1 (dCons (dVar 0) dNil))) dNil)))))
  (dSeq (dSet 4 (d2 fAdd (asV (dLst (dCons (dTup (dCons (dC (.int 1)) (dCons (dC (.int 1)) dNil))) dNil))) (asV (dLc (iRange1 (dCons (d2 fSub (dVar 2) (dC (.int 1))) dNil)) (aName 5) dYes (dTup (dCons (d2 fSub (dFn c_l_take (lenIs 2 (dCons (dVar 0) (dCons (dC (.int 5)) dNil)))) (dC (.int 2))) (dCons (dC (.int 1)) dNil))) [5]))))
  (dRet (dTup (dCons (dFn c_l_trimmed (lenIs 1 (dCons (dVar 3) dNil))) (dCons (dCB fTuple (dCons (d2 fAdd (dVar 4) (asV (d2O fRepO (asV (dLst (dCons (dFn c_l_small (lenIs 1 (dCons (dVar 0) dNil))) dNil))) (dCB fInt (dCons (d2 fGt (dVar 2) (dC (.int 0))) dNil))))) dNil)) dNil))))))
theorem d_l_two_polys (args : List D) (st : Stt) (Kf : Sl → Stt → Prop) (hl : args.length = 3) (q : c_l_two_polys args st Kf) : b_l_two_polys (ends Kf) (startD 3 args, st) := by
  obtain ⟨⟨a, b, rfl, a0, a1, b0, b1⟩, g, q⟩ := q
  unfold b_l_two_polys c_l_number c_l_small drawQ c_l_trimmed
  walk_at "dn"
  refine ⟨by omega, by omega, lc_nums (m := 5) (k := 31) (by decide) (fun i st Kd g k => ?_) _ _ [] _ (g.mono (by omega)) (by simp; omega) AllBQ.nil fun l s1 e1 a1' l1 => ?_⟩
  · walk_at "dn"
    refine ⟨fun _ => draw_ok rfl g (by omega) fun r s2 ⟨z, er, hz⟩ l2 g2 => ?_, fun _ => take_ok g (by omega) (by omega) (by omega) fun r s2 r0 r1 l2 g2 => ?_⟩
    · subst er
      exact k z _ hz (l2.mono (by omega))
    · walk_at "dn"
      exact ⟨by decide, k ((r - 3 : Int) : Rat) _ (BQ.int (abs_small (by omega) (by decide)) (by decide)) (l2.mono (by omega))⟩
  have g1 := g.left l1
  refine draw_ok rfl (g1.mono (k := 900) (by omega)) (by omega) fun r s2 ⟨z, er, hz, _⟩ l2 g2 => ?_
  subst er
  walk_at "dn"
  refine ⟨by decide, by simp [e1]; omega, by decide, by decide, by omega, by omega, lc_nums (m := 1) (k := 3) (by decide) (fun i st Kd g k => ?_) _ _ [] _ (g2.mono (by omega)) (by simp; omega) AllBQ.nil fun l' s3 e3 a3 l3 => ?_⟩
  · walk_at "dn"
    refine take_ok g (by omega) (by omega) (by omega) fun r s2 r0 r1 l2 g2 => ?_
    walk_at "dn"
    exact ⟨by decide, k ((r - 2 : Int) : Rat) _ (BQ.int (by omega) (by decide)) (l2.mono (by omega))⟩
  have g3 := g2.left l3
  rw [nqs_one, nqs_app]
  walk_at "dn"
  refine ⟨by simp [e3]; omega, draw_ok rfl (g3.mono (k := 600) (by omega)) (by omega) fun r s4 ⟨y, er, hy, _⟩ l4 g4 => ?_⟩
  subst er
  walk_at "dn"
  have hk : (if 0 < b then (1 : Int) else 0).toNat ≤ 1 := by split <;> decide
  have hk2 : (if 0 < b then (1 : Int) else 0).toNat + (b - 1).toNat = b.toNat := by split <;> omega
  rw [rep_one, nqs_rep, nqs_app, show D.tup [.int 1, .int 1] = nq 1 from rfl, ← nqs_cons]
  have m1 : Mil ((0 + 1) * (if 0 < b then (1 : Int) else 0).toNat) := by
    show _ ≤ _
    omega
  refine ⟨by decide, by split <;> decide, by split <;> decide, m1, by rw [nqs_len]; simp [e3]; omega, by decide, q _ _ ⟨_, _, rfl, (a1'.app (AllBQ.one (hz.mono (by decide)))).trim, ?_, rfl, fun a' b' e => ?_⟩ (((l1.trans l2).trans (l3.trans l4)).mono (by omega))⟩
  · exact AllBQ.app (l := [1]) (AllBQ.one (BQ.int (i := 1) (by decide) (by decide))) (a3.app (AllBQ.rep (hy.mono (by decide))))
  · injection e with _ e
    injection e with e1' e
    injection e with e2' _
    injection e1' with e1'
    injection e2' with e2'
    subst e1' e2'
    refine ⟨Nat.le_trans (trim_len _) (by simp [e1]), by simp [e3]; omega⟩

/-- a row of n numbers -/
def c_l_row : DFn := drawF 5000 (fun ds => ∃ n, ds = [.stt, .int n] ∧ 1 ≤ n ∧ n ≤ 19) fun ds r => ∃ l : List Rat, frz r = .lst (nqs l) ∧ ∀ n : Int, ds = [.stt, .int n] → (l.length : Int) = n ∧ AllBQ (35 * 2 ^ n.toNat + 4) l
def b_l_row : DSv := (dSeq (dSet 2 (dFn c_l_take (lenIs 2 (dCons (dVar 0) (dCons (dC (.int 8)) dNil)))))
  (dSeq (dIfS (dB (d2 fLt (dVar 2) (dC (.int 2)))) (dRet (asV (dLc (iRange1 (dCons (dVar 1) dNil)) (aName 9) dYes (dFn c_l_any (lenIs 2 (dCons (dVar 0) (dCons (dVar 1) dNil)))) [9]))) dNext)
  (dSeq (dIfS (dB (d2 fEqI (dVar 2) (dC (.int 2)))) (dSeq (dSet 3 (dFn c_l_take (lenIs 2 (dCons (dVar 0) (dCons (d2 fAdd (dVar 1) (dC (.int 1))) dNil)))))
  (dRet (d2 fAdd (asV (d2O fRepO (asV (dLst (dCons (dTup (dCons (dC (.int 0)) (dCons (dC (.int 1)) dNil))) dNil))) (dVar 3))) (asV (dLc (iRange1 (dCons (d2 fSub (dVar 1) (dVar 3)) dNil)) (aName 9) dYes (dFn c_l_any (lenIs 2 (dCons (dVar 0) (dCons (dVar 1) dNil)))) [9]))))) dNext)
  (dSeq (dIfS (dB (d2 fEqI (dVar 2) (dC (.int 3)))) (dSeq (dSetO 4 (d2O fRepO (asV (dLst (dCons (dTup (dCons (dC (.int 0)) (dCons (dC (.int 1)) dNil))) dNil))) (dVar 1)))
  (dSeq (dFor (iRange1 (dCons (dFn c_l_take (lenIs 2 (dCons (dVar 0) (dCons (dC (.int 4)) dNil)))) dNil)) (aName 5) (dSub 4 (dFn c_l_small (lenIs 1 (dCons (dVar 0) dNil))) (dFn c_l_take (lenIs 2 (dCons (dVar 0) (dCons (dVar 1) dNil))))))
  (dRetV 4))) dNext)
  (dSeq (dAsg (dFn c_l_two_polys (lenIs 3 (dCons (dVar 0) (dCons (dFn c_l_take (lenIs 2 (dCons (dVar 0) (dCons (d2 fAdd (dC (.int 1)) (d2 fDivE (dVar 1) (dC (.int 2)))) dNil)))) (dCons (dFn c_l_take (lenIs 2 (dCons (dVar 0) (dCons (d2 fAdd (dC (.int 1)) (d2 fDivE (dVar 1) (dC (.int 3)))) dNil)))) dNil))))) (aTup 2 (aCons (aName 6) (aCons (aName 7) aNil))))
  (dSeq (dIfS (dB (d2 fGt (dVar 1) (dC (.int 6)))) (dSet 6 (dFn c_l_trimmed (lenIs 1 (dCons (asV (dLc (iSeq (dVar 6)) (aName 10) dYes (dTup (dCons (d2 fSub (d2 fMod (d2 fIx (dVar 10) (dC (.int 0))) (dC (.int 9))) (dC (.int 4))) (dCons (dC (.int 1)) dNil))) [10])) dNil)))) dNext)
  (dSeq (dSetO 4 (dFnO c_l_series (lenIs 3 (dCons (dVar 6) (dCons (dVar 7) (dCons (dVar 1) dNil))))))
  (dSeq (dIfS (dB (d2 fGt (dVar 2) (dC (.int 5)))) (dSeq (dSet 8 (dFn c_l_take (lenIs 2 (dCons (dVar 0) (dCons (dVar 1) dNil)))))
  (dSub 4 (dFn c_l_plus (lenIs 2 (dCons (dIxO 4 (dVar 8)) (dCons (dFn c_l_small (lenIs 1 (dCons (dVar 0) dNil))) dNil)))) (dVar 8))) dNext)
  (dRetV 4)))))))))
theorem d_l_row (args : List D) (st : Stt) (Kf : Sl → Stt → Prop) (hl : args.length = 2) (q : c_l_row args st Kf) : b_l_row (ends Kf) (startD 9 args, st) := by
  obtain ⟨⟨n, rfl, n0, n1⟩, g, q⟩ := q
  have fin : ∀ (r : Sl) (l : List Rat) (st' : Stt), (l.length : Int) = n → AllBQ (35 * 2 ^ n.toNat + 4) l → Left 5000 st st' → frz r = .lst (nqs l) → Kf r st' := fun r l st' h1 h2 h3 h4 =>
    q r st' ⟨l, h4, fun n' e => by
      injection e with _ e
      injection e with e _
      injection e with e
      subst e
      exact ⟨h1, h2⟩⟩ h3
  clear q
  have two : 2 ^ 1 ≤ 2 ^ n.toNat := pow_mono (by omega)
  have z0 : D.tup [.int 0, .int 1] = nq 0 := rfl
  unfold b_l_row c_l_any c_l_small c_l_two_polys
  walk_at "dn"
  rw [z0]
  refine take_ok g (by omega) (by omega) (by omega) fun w s1 w0 w1 l1 g1 => ?_
  walk_at "dn"
  refine ⟨fun _ => ⟨by omega, by omega, lc_nums (m := 5) (k := 31) (by decide) (fun i st Kd g k => ?_) _ _ [] _ (g1.mono (by omega)) (by simp; omega) AllBQ.nil fun l s2 e2 a2 l2 => ?_⟩, fun _ => ⟨fun _ => ?_, fun _ => ⟨fun _ => ?_, fun _ => ?_⟩⟩⟩
  · walk_at "dn"
    refine draw_ok ⟨_, rfl⟩ g (by omega) fun r s2 ⟨z, er, hz⟩ l2 g2 => ?_
    subst er
    exact k z _ hz l2
  · exact fin _ l s2 (by rw [e2]; simp; omega) (a2.mono (by omega)) ((l1.trans l2).mono (by omega)) rfl
  · refine take_ok g1 (by omega) (by omega) (by omega) fun r s2 r0 r1 l2 g2 => ?_
    walk_at "dn"
    refine ⟨by decide, by decide, by omega, by omega, (show _ ≤ _ by omega), by omega, by omega, lc_nums (m := 5) (k := 31) (by decide) (fun i st Kd g k => ?_) _ _ [] _ (g2.mono (by omega)) (by simp; omega) AllBQ.nil fun l s3 e3 a3 l3 => ?_⟩
    · walk_at "dn"
      refine draw_ok ⟨_, rfl⟩ g (by omega) fun r s2 ⟨z, er, hz⟩ l2 g2 => ?_
      subst er
      exact k z _ hz l2
    rw [rep_one, nqs_rep, nqs_app]
    simp only [List.length_nil, Nat.zero_add] at e3
    refine ⟨by rw [nqs_len, nqs_len]; simp [e3]; omega, fin _ _ s3 (by simp [e3]; omega) ((AllBQ.rep (BQ0 (by omega))).app (a3.mono (by omega))) (((l1.trans l2).trans l3).mono (by omega)) rfl⟩
  · rw [rep_one, nqs_rep]
    refine ⟨by decide, by decide, by omega, by omega, (show _ ≤ _ by omega), take_ok g1 (by omega) (by omega) (by omega) fun r s2 r0 r1 l2 g2 => ?_⟩
    walk_at "dn"
    refine ⟨by omega, by omega, for_range_ind (fun lo m ρ => ∃ (l : List Rat) (x : Option Sl) (s3 : Stt), ρ = ([some (.v .stt), some (.v (.int n)), some (.v (.int w)), none, some (.own (nqs l)), x, none, none, none, none, none], s3) ∧ (l.length : Int) = n ∧ AllBQ 2 l ∧ m ≤ 3 ∧ Good (100 * (m : Int)) s3 ∧ Left (1000 - 100 * (m : Int)) st s3) ?_ ?_ _ _ _ ⟨List.replicate n.toNat 0, none, _, rfl, by simp; omega, AllBQ.rep (BQ0 (by decide)), by omega, g2.mono (by omega), (l1.trans l2).mono (by omega)⟩⟩
    · rintro lo ρ ⟨l, x, s3, rfl, h1, h2, _, _, h3⟩
      exact fin _ l s3 h1 (h2.mono (by omega)) (h3.mono (by omega)) rfl
    rintro lo m ρ ⟨l, x, s3, rfl, h1, h2, h3, g3, l3⟩ ih
    walk_at "dn"
    refine draw_ok rfl (g3.mono (k := 50) (by omega)) (by omega) fun r s4 ⟨y, er, hy, _⟩ l4 g4 => ?_
    subst er
    walk_at "dn"
    refine take_ok (m := 20) (g4.mono (by omega)) (by omega) (by omega) (by omega) fun pl s5 pl0 pl1 l5 g5 => ?_
    walk_at "dn"
    have ei : ixN l.length pl = some pl.toNat := by
      unfold ixN
      rw [if_pos pl0, if_pos (by omega)]
    rw [ei]
    show forD _ _ _ _ _
    rw [nqs_set]
    exact ih _ ⟨_, _, s5, rfl, by simp; omega, h2.set hy, by omega, (g3.left (l4.trans l5)).mono (by omega), (l3.trans (l4.trans l5)).mono (by omega)⟩
  · have dv : ∀ k : Int, 0 < k → 0 ≤ n.fdiv k ∧ n.fdiv k ≤ 19 := fun k hk => by
      rw [Int.fdiv_eq_ediv_of_nonneg _ (by omega)]
      exact ⟨Int.ediv_nonneg (by omega) (by omega), Int.le_trans (Int.ediv_le_self _ (by omega)) n1⟩
    have d2 := dv 2 (by decide)
    have d3 := dv 3 (by decide)
    have tail : ∀ (l : List Rat) (s : Stt), (l.length : Int) = n → AllBQ (35 * 2 ^ n.toNat) l → Good 100 s → Left 4000 st s →
        (5 < w → c_l_take [D.stt, D.int n] s fun r st => asI (frz r) fun j => match atI (nqs l) j with
          | some d => drawF 2 (fun ds => ds = [D.stt]) (fun x r => ∃ q, r = Sl.v (nq q) ∧ BQ 2 q ∧ q ≠ 0) [D.stt] st fun r_2 st => nn (fun p q => nq (p + q)) [d, frz r_2] st fun r_3 st => asI (frz r) fun j => match ixN (nqs l).length j with
            | some n => Kf (Sl.own ((nqs l).set n (frz r_3))) st
            | none => False
          | none => False) ∧ (¬5 < w → Kf (Sl.own (nqs l)) s) := fun l s h1 h2 gs ls => by
      refine ⟨fun _ => take_ok gs (by omega) (by omega) (by omega) fun r s2 r0 r1 l2 g2 => ?_, fun _ => fin _ l s h1 (h2.mono (by omega)) (ls.mono (by omega)) rfl⟩
      have ei : ixN l.length r = some r.toNat := by
        unfold ixN
        rw [if_pos r0, if_pos (by omega)]
      show asI (.int r) _
      rw [asI_int, atI_in r0 (by omega)]
      refine draw_ok rfl g2 (by omega) fun x s4 ⟨y, er, hy, _⟩ l4 g4 => ?_
      subst er
      walk_at "dn"
      rw [ei]
      have hb := getD_all h2 (BQ0 (by omega)) r.toNat
      have p19 : 2 ^ n.toNat ≤ 2 ^ 19 := pow_mono (by omega)
      refine ⟨Sq.of hb (by omega), Sq.of hy (by decide), ?_⟩
      show Kf (Sl.own ((nqs l).set _ (nq _))) _
      rw [nqs_set]
      exact fin _ _ s4 (by simpa using h1) ((h2.mono (by omega)).set ((hb.add hy).mono (by omega))) ((ls.trans (l2.trans l4)).mono (by omega)) rfl
    refine ⟨⟨by decide⟩, take_ok g1 (by omega) (by omega) (by omega) fun a s2 a0 a1 l2 g2 => ⟨⟨by decide⟩, ?_⟩⟩
    refine take_ok g2 (by omega) (by omega) (by omega) fun b s3 b0 b1 l3 g3 => ?_
    refine draw_ok ⟨a, b, rfl, a0, by omega, b0, by omega⟩ g3 (by omega) fun r s4 ⟨T, B, er, hT, hB, _, hTl⟩ l4 g4 => ?_
    subst er
    walk_at "dn"
    have big : (31 + 3 + 1) * 2 ^ n.toNat ≤ 30000000 := by
      have p19 : 2 ^ n.toNat ≤ 2 ^ 19 := pow_mono (by omega)
      omega
    have lT := g4.mono (k := 100) (by omega)
    have lS := (l1.trans l2).trans (l3.trans l4)
    refine ⟨fun _ => lc_map (fun x => (((x.num.fmod 9 - 4 : Int)) : Rat)) T [] _ (fun x hx Kd k => ?_) ?_ ?_, fun _ => ?_⟩
    · walk_at "dn"
      exact ⟨⟨by decide⟩, by decide, k _ rfl⟩
    · have : T.length ≤ 200 := Nat.le_trans (hTl a b rfl).1 (by omega)
      simp; omega
    · refine ⟨false, _, rfl, ?_⟩
      have hT2 : AllBQ 31 (trim (([] : List Rat) ++ T.map fun x => (((x.num.fmod 9 - 4 : Int)) : Rat))) := AllBQ.trim fun x hx => by
        obtain ⟨y, _, rfl⟩ := List.mem_map.mp (by simpa using hx)
        have h1 := (fmod_lt (a := y.num) (b := 9) (by decide))
        have := BQ.int (k := 31) (i := y.num.fmod 9 - 4) (abs_small (by omega) (by decide)) (by decide)
        simpa using this
      obtain ⟨ok, hb⟩ := SerOk.crude hT2 hB (by decide) (by decide) big
      exact ⟨true, _, true, B, n, rfl, by omega, by omega, ok, tail _ s4 (by rw [serL_len]; omega) hb lT (lS.mono (by omega))⟩
    · obtain ⟨ok, hb⟩ := SerOk.crude hT hB (by decide) (by decide) big
      exact ⟨true, T, true, B, n, rfl, by omega, by omega, ok, tail _ s4 (by rw [serL_len]; omega) hb lT (lS.mono (by omega))⟩
end DL
namespace DL
open PySem PySem.Spec PyProof.Rows L2
/-! ### the field of the rationals: Exact -/
def c_Exact_nought : DFn := fun _ st Kf => Kf (.v (nq 0)) st
def c_Exact_one : DFn := fun _ st Kf => Kf (.v (nq 1)) st
def c_Exact_plus : DFn := fun ds st Kf => c_plus ds.tail st Kf
def c_Exact_minus : DFn := fun ds st Kf => c_minus ds.tail st Kf
def c_Exact_times : DFn := fun ds st Kf => c_times ds.tail st Kf
def c_Exact_over : DFn := fun ds st Kf => c_over ds.tail st Kf
def c_Exact_is_nought : DFn := fun ds st Kf => as1 ds.tail fun x => asN x fun q => Kf (.v (.bl (decide (q = 0)))) st
local macro_rules | `(tactic| walk_at "dl") => `(tactic| simp -implicitDefEqProofs only [dSeq, dNext, dIfS, dB, dNot, dAnd, dOr, d2, fLt, fLe, fGt, fGe, fEqI, fNeI, fEqB, fNeB, fEqS, fNeS, fIsN_non, fNotN_non, fIsB, fNotB, fSub, fMul, fDiv, fDivE, fMod, fPow, fI, fI0, asI_int, asB_bl, asT_tup, asL_lst, asQ_tup, asQ_lst, asS_str, as1_one, as2_two, frz_v, frz_own, fAdd_int, fAdd_tup, fAdd_lst, fIx_tup0, fIx_tup1, fIx_lst0, fIx_lst1, fLen_tup, fLen_lst, fInt_bl, fTuple_tup, fTuple_lst, isN_int, isN_tup, isN_lst, isN_bl, isN_str, isN_non, dVar, dC, dNeg, dSet, dSetO, dPar, dAsg, dAug, dRet, dRetO, dRetV, dRetN, dTup, dCons, dNil, dFn, dFnO, lenIs, dCB, fAbs, fMax2, fMin2, dIsi, dAndV, dOrV, dNotV, dIf, dFor, iSeq, iRange1, iRange2, iZip, aName, aTup, aCons, aNil, dLc, dYes, dLitO, noOwn, wipeE, ends, startD, setV, setO, ownAt, asV, dLst, dListO, dLenO, dTupO, dFrz, dApp, dPop, dClear, dSub, dIxO, d2O, fCatO, fRepO, pt_non, isi_non_int, isi_non_bool, isi_non_tuple, isi_non_list, isi_non_str, pt_bl, isi_bl_int, isi_bl_bool, isi_bl_tuple, isi_bl_list, isi_bl_str, pt_int, isi_int_int, isi_int_bool, isi_int_tuple, isi_int_list, isi_int_str, pt_str, isi_str_int, isi_str_bool, isi_str_tuple, isi_str_list, isi_str_str, pt_tup, isi_tup_int, isi_tup_bool, isi_tup_tuple, isi_tup_list, isi_tup_str, pt_lst, isi_lst_int, isi_lst_bool, isi_lst_tuple, isi_lst_list, isi_lst_str, Br_true, Br_false, Br_dec, Br_not, tt_imp, List.map_cons, List.map_nil, List.cons_append, List.nil_append, List.replicate_succ, List.replicate_zero, List.getElem?_cons_zero, List.getElem?_cons_succ, List.set_nil, List.set_cons_zero, List.set_cons_succ, List.length_cons, List.length_nil, Bool.not_true, Bool.not_false, decide_eq_true_eq, not_true_eq_false, not_false_eq_true, true_and, and_true])
local macro_rules | `(tactic| walk_at "d1") => `(tactic| simp -implicitDefEqProofs only [aName, setV, setO, List.set_cons_zero, List.set_cons_succ])
local macro_rules | `(tactic| walk_at "dn") => `(tactic| simp -implicitDefEqProofs only [fIx_nq0, fIx_nq1, asN_nq, num_e, part_e, same_e, nn_e2, over_e, l_over_e, c_plus, c_minus, c_times, c_before, c_l_plus, c_l_minus, c_l_times, num_eq, num_lt0, sub_lt0, due_nq, asR_r, asR_t, asR_l, asQ_r, fLen_r, fTuple_r, pt_r, asT1_t, okD_nq, okD_lst, okD_tup, okD_nil, okD_nilt, eqD_nq, eqD_lst, eqD_tup, eqD_nil, eqD_nilt, nqs_len, dCmpO, eqB, neB, dMeth, dChain, iEnum, iRev, iRange3, as3_three, dBor, dCatO, fl_bl, fEqD, fNeD, c_Exact_nought, c_Exact_one, c_Exact_plus, c_Exact_minus, c_Exact_times, c_Exact_over, c_Exact_is_nought, List.tail_cons, D.ins.injEq, exists_eq', exists_and_left, and_true, true_and, dSeq, dNext, dIfS, dB, dNot, dAnd, dOr, d2, fLt, fLe, fGt, fGe, fEqI, fNeI, fEqB, fNeB, fEqS, fNeS, fIsN_non, fNotN_non, fIsB, fNotB, fSub, fMul, fDiv, fDivE, fMod, fPow, fI, fI0, asI_int, asB_bl, asT_tup, asL_lst, asQ_tup, asQ_lst, asS_str, as1_one, as2_two, frz_v, frz_own, fAdd_int, fAdd_tup, fAdd_lst, fIx_tup0, fIx_tup1, fIx_lst0, fIx_lst1, fLen_tup, fLen_lst, fInt_bl, fTuple_tup, fTuple_lst, isN_int, isN_tup, isN_lst, isN_bl, isN_str, isN_non, dVar, dC, dNeg, dSet, dSetO, dPar, dAsg, dAug, dRet, dRetO, dRetV, dRetN, dTup, dCons, dNil, dFn, dFnO, lenIs, dCB, fAbs, fMax2, fMin2, dIsi, dAndV, dOrV, dNotV, dIf, dFor, iSeq, iRange1, iRange2, iZip, aName, aTup, aCons, aNil, dLc, dYes, dLitO, noOwn, wipeE, ends, startD, setV, setO, ownAt, asV, dLst, dListO, dLenO, dTupO, dFrz, dApp, dPop, dClear, dSub, dIxO, d2O, fCatO, fRepO, pt_non, isi_non_int, isi_non_bool, isi_non_tuple, isi_non_list, isi_non_str, pt_bl, isi_bl_int, isi_bl_bool, isi_bl_tuple, isi_bl_list, isi_bl_str, pt_int, isi_int_int, isi_int_bool, isi_int_tuple, isi_int_list, isi_int_str, pt_str, isi_str_int, isi_str_bool, isi_str_tuple, isi_str_list, isi_str_str, pt_tup, isi_tup_int, isi_tup_bool, isi_tup_tuple, isi_tup_list, isi_tup_str, pt_lst, isi_lst_int, isi_lst_bool, isi_lst_tuple, isi_lst_list, isi_lst_str, Br_true, Br_false, Br_dec, Br_not, tt_imp, List.map_cons, List.map_nil, List.cons_append, List.nil_append, List.replicate_succ, List.replicate_zero, List.getElem?_cons_zero, List.getElem?_cons_succ, List.set_nil, List.set_cons_zero, List.set_cons_succ, List.length_cons, List.length_nil, Bool.not_true, Bool.not_false, decide_eq_true_eq, not_true_eq_false, not_false_eq_true, true_and, and_true])
def b_Exact_nought : DSv := (dRet (dTup (dCons (dC (.int 0)) (dCons (dC (.int 1)) dNil))))
def b_Exact_one : DSv := (dRet (dTup (dCons (dC (.int 1)) (dCons (dC (.int 1)) dNil))))
def b_Exact_plus : DSv := (dRet (dFn c_plus (lenIs 2 (dCons (dVar 1) (dCons (dVar 2) dNil)))))
def b_Exact_minus : DSv := (dRet (dFn c_minus (lenIs 2 (dCons (dVar 1) (dCons (dVar 2) dNil)))))
def b_Exact_times : DSv := (dRet (dFn c_times (lenIs 2 (dCons (dVar 1) (dCons (dVar 2) dNil)))))
def b_Exact_over : DSv := (dRet (dFn c_over (lenIs 2 (dCons (dVar 1) (dCons (dVar 2) dNil)))))
def b_Exact_is_nought : DSv := (dRet (d2 fEqI (d2 fIx (dVar 1) (dC (.int 0))) (dC (.int 0))))
theorem len3 {args : List D} (h : args.length = 3) : ∃ x y z, args = [x, y, z] := by
  match args, h with
  | [x, y, z], _ => exact ⟨x, y, z, rfl⟩
theorem d_Exact_nought (args : List D) (st : Stt) (Kf : Sl → Stt → Prop) (hl : args.length = 1) (q : c_Exact_nought args st Kf) : b_Exact_nought (ends Kf) (startD 0 args, st) := by
  unfold b_Exact_nought
  walk_at "dn"
  exact ⟨by decide, q⟩
theorem d_Exact_one (args : List D) (st : Stt) (Kf : Sl → Stt → Prop) (hl : args.length = 1) (q : c_Exact_one args st Kf) : b_Exact_one (ends Kf) (startD 0 args, st) := by
  unfold b_Exact_one
  walk_at "dn"
  exact ⟨by decide, q⟩
theorem d_Exact_plus (args : List D) (st : Stt) (Kf : Sl → Stt → Prop) (hl : args.length = 3) (q : c_Exact_plus args st Kf) : b_Exact_plus (ends Kf) (startD 0 args, st) := by
  obtain ⟨o, x, y, rfl⟩ := len3 hl
  obtain ⟨x, rfl, y, rfl, hx, hy, q⟩ := q
  unfold b_Exact_plus
  walk_at "dn"
  exact ⟨hx, hy, q⟩
theorem d_Exact_minus (args : List D) (st : Stt) (Kf : Sl → Stt → Prop) (hl : args.length = 3) (q : c_Exact_minus args st Kf) : b_Exact_minus (ends Kf) (startD 0 args, st) := by
  obtain ⟨o, x, y, rfl⟩ := len3 hl
  obtain ⟨x, rfl, y, rfl, hx, hy, q⟩ := q
  unfold b_Exact_minus
  walk_at "dn"
  exact ⟨hx, hy, q⟩
theorem d_Exact_times (args : List D) (st : Stt) (Kf : Sl → Stt → Prop) (hl : args.length = 3) (q : c_Exact_times args st Kf) : b_Exact_times (ends Kf) (startD 0 args, st) := by
  obtain ⟨o, x, y, rfl⟩ := len3 hl
  obtain ⟨x, rfl, y, rfl, hx, hy, q⟩ := q
  unfold b_Exact_times
  walk_at "dn"
  exact ⟨hx, hy, q⟩
theorem d_Exact_over (args : List D) (st : Stt) (Kf : Sl → Stt → Prop) (hl : args.length = 3) (q : c_Exact_over args st Kf) : b_Exact_over (ends Kf) (startD 0 args, st) := by
  obtain ⟨o, x, y, rfl⟩ := len3 hl
  obtain ⟨x, rfl, y, rfl, h0, hx, hy, q⟩ := q
  unfold b_Exact_over
  walk_at "dn"
  exact ⟨h0, hx, hy, q⟩
theorem d_Exact_is_nought (args : List D) (st : Stt) (Kf : Sl → Stt → Prop) (hl : args.length = 2) (q : c_Exact_is_nought args st Kf) : b_Exact_is_nought (ends Kf) (startD 0 args, st) := by
  obtain ⟨o, x, rfl⟩ := len2 hl
  obtain ⟨x, rfl, q⟩ := q
  unfold b_Exact_is_nought
  walk_at "dn"
  exact q
/-- a comprehension over range, place by place -/
theorem lc_fn {s : Nat} {te : DEv} {env : List (Option Sl)} {K : List D → Stt → Prop} (f : Nat → Rat) :
    ∀ (n lo : Nat) (acc : List Rat) (st : Stt), (∀ i, lo ≤ i → i < lo + n → ∀ (Kd : D → En → Prop), (∀ ρ : En, ρ.2 = st → Kd (nq (f i)) ρ) → te (setV (env, st) s (.int (i : Nat))) Kd) → acc.length + n ≤ 1000000 → K (nqs (acc ++ (List.range' lo n).map f)) st → lcD (aName s) dYes te env (rangeD ((lo : Nat) : Int) n) (nqs acc) st K
  | 0, lo, acc, st, h, hl, fin => by
    rw [List.range'_zero, List.map_nil, List.append_nil] at fin
    exact fin
  | n + 1, lo, acc, st, h, hl, fin => by
    rw [rangeD_succ]
    unfold lcD aName dYes
    refine ⟨fun _ => ?_, fun z => nomatch z⟩
    refine h lo (Nat.le_refl _) (by omega) _ fun ρ e => ⟨by rw [nqs_len]; omega, ?_⟩
    rw [nqs_one, nqs_app, e]
    have := lc_fn f n (lo + 1) (acc ++ [f lo]) st (te := te) (env := env) (K := K) (s := s) (fun i h1 h2 => h i (by omega) (by omega)) (by simp; omega) (by rw [List.range'_succ, List.map_cons] at fin; simpa using fin)
    exact this
theorem take_range (l : List Rat) : ∀ m, m ≤ l.length → (List.range' 0 m).map (fun i => l.getD i 0) = l.take m := by
  intro m hm
  refine List.ext_getElem (by simp; omega) fun i h1 h2 => ?_
  simp at h1
  simp [show i < l.length by omega]
/-! ### the noughts at the end, by a field -/
def c_trimmed : DFn := fun ds st Kf => ∃ b l, ds = [.ins 0 none, rD b l] ∧ l.length ≤ 100000 ∧ Kf (.v (.tup (nqs (trim l)))) st
def b_trimmed : DSv := (dSeq (dSet 2 (dCB fLen (dCons (dVar 1) dNil)))
  (dSeq (dWhile (dAnd (dB (d2 fGt (dVar 2) (dC (.int 0)))) (dB (dMeth 0 c_Exact_is_nought 1 (dVar 0) (dCons (d2 fIx (dVar 1) (d2 fSub (dVar 2) (dC (.int 1)))) dNil)))) (dAug 2 (fun i j => i - j) (dC (.int 1))))
  (dRet (dCB fTuple (dCons (asV (dLc (iRange1 (dCons (dVar 2) dNil)) (aName 3) dYes (d2 fIx (dVar 1) (dVar 3)) [3])) dNil)))))
theorem d_trimmed (args : List D) (st : Stt) (Kf : Sl → Stt → Prop) (hl : args.length = 2) (q : c_trimmed args st Kf) : b_trimmed (ends Kf) (startD 2 args, st) := by
  obtain ⟨b, l, rfl, h1, q⟩ := q
  unfold b_trimmed
  walk_at "dn"
  refine while_of (fun m ρ => ρ = ([some (.v (.ins 0 none)), some (.v (rD b l)), some (.v (.int (m : Nat))), none], st) ∧ m ≤ l.length ∧ trim (l.take m) = trim l) l.length ⟨rfl, Nat.le_refl _, by rw [List.take_length]⟩ ?_
  rintro m ρ ⟨rfl, hm, ht⟩
  have fin : trim (l.take m) = l.take m → (-2 ^ 62 ≤ ((m : Nat) : Int) ∧ ((m : Nat) : Int) < 2 ^ 62 ∧ lcD (aName 3) dYes (d2 fIx (dVar 1) (dVar 3)) [some (Sl.v (D.ins 0 none)), some (Sl.v (rD b l)), some (Sl.v (D.int (m : Nat))), none] (rangeD 0 ((m : Nat) : Int).toNat) [] st fun acc st => Kf (Sl.v (D.tup acc)) st) := fun e => by
    refine ⟨by omega, by omega, ?_⟩
    rw [show ((m : Nat) : Int).toNat = m by omega]
    refine lc_fn (fun i => l.getD i 0) m 0 [] st (fun i h0 h2 Kd k => ?_) (by simp; omega) ?_
    · walk_at "dn"
      rw [fIx_in (by omega) (by omega)]
      exact k _ rfl
    · rw [List.nil_append, take_range l m hm, ← e, ht]
      exact q
  walk_at "dn"
  refine ⟨fun h => ?_, fun h => fin ?_⟩
  · obtain ⟨j, rfl⟩ : ∃ j, m = j + 1 := ⟨m - 1, by omega⟩
    have et : l.take (j + 1) = l.take j ++ [l.getD j 0] := by
      rw [List.take_succ, List.getD_eq_getElem?_getD, List.getElem?_eq_getElem (by omega)]; rfl
    rw [fIx_in (by omega) (by omega), asN_nq, show (((j + 1 : Nat) : Int) - 1).toNat = j by omega]
    refine ⟨fun z => ⟨j, by omega, ?_, by omega, ?_⟩, fun z => fin ?_⟩
    · rw [show (((j + 1 : Nat) : Int) - 1) = (j : Int) by omega]
    · rw [← ht, et, z, trim_snoc0]
    · rw [et, trim_snoc z]
  · rw [show m = 0 by omega, List.take_zero]; rfl
end DL
namespace DL
open PySem PySem.Spec PyProof.Rows L2
/-! ### loops by index, what comes behind a turn kept dark -/
theorem for_list_ix {t : DGv} {body : DSv} {B : DEnds} {l : List D} (W : Nat → En → Prop) (hn : ∀ ρ, W l.length ρ → B.nx ρ)
    (hc : ∀ (i : Nat) d ρ (nx : En → Prop), l[i]? = some d → W i ρ → (∀ ρ', W (i + 1) ρ' → nx ρ') → t d ρ fun ρ1 => body { B with nx := nx, ct := nx, bk := B.nx } ρ1) :
    ∀ ρ, W 0 ρ → forD t body B l ρ := by
  have main : ∀ (n i : Nat) (ρ : En), i + n = l.length → W i ρ → forD t body B (l.drop i) ρ := by
    intro n
    induction n with
    | zero =>
      intro i ρ e w
      rw [List.drop_eq_nil_of_le (by omega)]
      have : i = l.length := by omega
      subst this
      exact hn ρ w
    | succ n ih =>
      intro i ρ e w
      obtain ⟨d, e1, e2⟩ := drop_cons (l := l) (i := i) (by omega)
      rw [e2]
      exact hc i d ρ (forD t body B (l.drop (i + 1))) e1 w fun ρ' w' => ih (i + 1) ρ' (by omega) w'
  intro ρ w
  have := main l.length 0 ρ (by omega) w
  rwa [List.drop_zero] at this
theorem for_num_ix {t : DGv} {body : DSv} {B : DEnds} {l : List Rat} (W : Nat → En → Prop) (hn : ∀ ρ, W l.length ρ → B.nx ρ)
    (hc : ∀ (i : Nat) ρ (nx : En → Prop), i < l.length → W i ρ → (∀ ρ', W (i + 1) ρ' → nx ρ') → t (.tup [.int (i : Nat), nq (l.getD i 0)]) ρ fun ρ1 => body { B with nx := nx, ct := nx, bk := B.nx } ρ1) :
    ∀ ρ, W 0 ρ → forD t body B (numD (nqs l)) ρ := for_list_ix W (fun ρ w => hn ρ (by rwa [numD_len, nqs_len] at w)) fun i d ρ nx e w k => by
  obtain ⟨y, e1, rfl⟩ := numD_get e
  rw [nqs_get] at e1
  cases e2 : l[i]? with
  | none => rw [e2] at e1; cases e1
  | some q =>
    rw [e2] at e1
    have e1 : nq q = y := by simpa using e1
    subst e1
    have hi := (List.getElem?_eq_some_iff.mp e2).1
    have := hc i ρ nx hi w k
    rw [List.getD_eq_getElem?_getD, e2] at this
    exact this
theorem for_rng_ix {t : DGv} {body : DSv} {B : DEnds} {n : Nat} {lo : Int} (W : Nat → En → Prop) (hn : ∀ ρ, W n ρ → B.nx ρ)
    (hc : ∀ (i : Nat) ρ (nx : En → Prop), i < n → W i ρ → (∀ ρ', W (i + 1) ρ' → nx ρ') → t (.int (lo + (i : Nat))) ρ fun ρ1 => body { B with nx := nx, ct := nx, bk := B.nx } ρ1) :
    ∀ ρ, W 0 ρ → forD t body B (rangeD lo n) ρ := for_list_ix W (fun ρ w => hn ρ (by rwa [rangeD_len] at w)) fun i d ρ nx e w k => by
  have hi := (List.getElem?_eq_some_iff.mp e).1
  rw [rangeD_len] at hi
  have : d = .int (lo + (i : Nat)) := by
    unfold rangeD at e
    simp [hi] at e
    exact e.symm
  subst this
  exact hc i ρ nx hi w k
theorem for_nqs_ix {t : DGv} {body : DSv} {B : DEnds} {l : List Rat} (W : Nat → En → Prop) (hn : ∀ ρ, W l.length ρ → B.nx ρ)
    (hc : ∀ (i : Nat) ρ (nx : En → Prop), i < l.length → W i ρ → (∀ ρ', W (i + 1) ρ' → nx ρ') → t (nq (l.getD i 0)) ρ fun ρ1 => body { B with nx := nx, ct := nx, bk := B.nx } ρ1) :
    ∀ ρ, W 0 ρ → forD t body B (nqs l) ρ := for_list_ix W (fun ρ w => hn ρ (by rwa [nqs_len] at w)) fun i d ρ nx e w k => by
  rw [nqs_get] at e
  cases e2 : l[i]? with
  | none => rw [e2] at e; cases e
  | some q =>
    rw [e2] at e
    have e1 : nq q = d := by simpa using e
    subst e1
    have hi := (List.getElem?_eq_some_iff.mp e2).1
    have := hc i ρ nx hi w k
    rw [List.getD_eq_getElem?_getD, e2] at this
    exact this
local macro_rules | `(tactic| walk_at "dl") => `(tactic| simp -implicitDefEqProofs only [dSeq, dNext, dIfS, dB, dNot, dAnd, dOr, d2, fLt, fLe, fGt, fGe, fEqI, fNeI, fEqB, fNeB, fEqS, fNeS, fIsN_non, fNotN_non, fIsB, fNotB, fSub, fMul, fDiv, fDivE, fMod, fPow, fI, fI0, asI_int, asB_bl, asT_tup, asL_lst, asQ_tup, asQ_lst, asS_str, as1_one, as2_two, frz_v, frz_own, fAdd_int, fAdd_tup, fAdd_lst, fIx_tup0, fIx_tup1, fIx_lst0, fIx_lst1, fLen_tup, fLen_lst, fInt_bl, fTuple_tup, fTuple_lst, isN_int, isN_tup, isN_lst, isN_bl, isN_str, isN_non, dVar, dC, dNeg, dSet, dSetO, dPar, dAsg, dAug, dRet, dRetO, dRetV, dRetN, dTup, dCons, dNil, dFn, dFnO, lenIs, dCB, fAbs, fMax2, fMin2, dIsi, dAndV, dOrV, dNotV, dIf, dFor, iSeq, iRange1, iRange2, iZip, aName, aTup, aCons, aNil, dLc, dYes, dLitO, noOwn, wipeE, ends, startD, setV, setO, ownAt, asV, dLst, dListO, dLenO, dTupO, dFrz, dApp, dPop, dClear, dSub, dIxO, d2O, fCatO, fRepO, pt_non, isi_non_int, isi_non_bool, isi_non_tuple, isi_non_list, isi_non_str, pt_bl, isi_bl_int, isi_bl_bool, isi_bl_tuple, isi_bl_list, isi_bl_str, pt_int, isi_int_int, isi_int_bool, isi_int_tuple, isi_int_list, isi_int_str, pt_str, isi_str_int, isi_str_bool, isi_str_tuple, isi_str_list, isi_str_str, pt_tup, isi_tup_int, isi_tup_bool, isi_tup_tuple, isi_tup_list, isi_tup_str, pt_lst, isi_lst_int, isi_lst_bool, isi_lst_tuple, isi_lst_list, isi_lst_str, Br_true, Br_false, Br_dec, Br_not, tt_imp, List.map_cons, List.map_nil, List.cons_append, List.nil_append, List.replicate_succ, List.replicate_zero, List.getElem?_cons_zero, List.getElem?_cons_succ, List.set_nil, List.set_cons_zero, List.set_cons_succ, List.length_cons, List.length_nil, Bool.not_true, Bool.not_false, decide_eq_true_eq, not_true_eq_false, not_false_eq_true, true_and, and_true])
local macro_rules | `(tactic| walk_at "d1") => `(tactic| simp -implicitDefEqProofs only [aName, setV, setO, List.set_cons_zero, List.set_cons_succ])
local macro_rules | `(tactic| walk_at "dn") => `(tactic| simp -implicitDefEqProofs only [fIx_nq0, fIx_nq1, asN_nq, num_e, part_e, same_e, nn_e2, over_e, l_over_e, c_plus, c_minus, c_times, c_before, c_l_plus, c_l_minus, c_l_times, num_eq, num_lt0, sub_lt0, due_nq, asR_r, asR_t, asR_l, asQ_r, fLen_r, fTuple_r, pt_r, asT1_t, okD_nq, okD_lst, okD_tup, okD_nil, okD_nilt, eqD_nq, eqD_lst, eqD_tup, eqD_nil, eqD_nilt, nqs_len, dCmpO, eqB, neB, dMeth, dChain, iEnum, iRev, iRange3, as3_three, dBor, dCatO, fl_bl, fEqD, fNeD, c_Exact_nought, c_Exact_one, c_Exact_plus, c_Exact_minus, c_Exact_times, c_Exact_over, c_Exact_is_nought, List.tail_cons, D.ins.injEq, exists_eq', exists_and_left, and_true, true_and, dSeq, dNext, dIfS, dB, dNot, dAnd, dOr, d2, fLt, fLe, fGt, fGe, fEqI, fNeI, fEqB, fNeB, fEqS, fNeS, fIsN_non, fNotN_non, fIsB, fNotB, fSub, fMul, fDiv, fDivE, fMod, fPow, fI, fI0, asI_int, asB_bl, asT_tup, asL_lst, asQ_tup, asQ_lst, asS_str, as1_one, as2_two, frz_v, frz_own, fAdd_int, fAdd_tup, fAdd_lst, fIx_tup0, fIx_tup1, fIx_lst0, fIx_lst1, fLen_tup, fLen_lst, fInt_bl, fTuple_tup, fTuple_lst, isN_int, isN_tup, isN_lst, isN_bl, isN_str, isN_non, dVar, dC, dNeg, dSet, dSetO, dPar, dAsg, dAug, dRet, dRetO, dRetV, dRetN, dTup, dCons, dNil, dFn, dFnO, lenIs, dCB, fAbs, fMax2, fMin2, dIsi, dAndV, dOrV, dNotV, dIf, dFor, iSeq, iRange1, iRange2, iZip, aName, aTup, aCons, aNil, dLc, dYes, dLitO, noOwn, wipeE, ends, startD, setV, setO, ownAt, asV, dLst, dListO, dLenO, dTupO, dFrz, dApp, dPop, dClear, dSub, dIxO, d2O, fCatO, fRepO, pt_non, isi_non_int, isi_non_bool, isi_non_tuple, isi_non_list, isi_non_str, pt_bl, isi_bl_int, isi_bl_bool, isi_bl_tuple, isi_bl_list, isi_bl_str, pt_int, isi_int_int, isi_int_bool, isi_int_tuple, isi_int_list, isi_int_str, pt_str, isi_str_int, isi_str_bool, isi_str_tuple, isi_str_list, isi_str_str, pt_tup, isi_tup_int, isi_tup_bool, isi_tup_tuple, isi_tup_list, isi_tup_str, pt_lst, isi_lst_int, isi_lst_bool, isi_lst_tuple, isi_lst_list, isi_lst_str, Br_true, Br_false, Br_dec, Br_not, tt_imp, List.map_cons, List.map_nil, List.cons_append, List.nil_append, List.replicate_succ, List.replicate_zero, List.getElem?_cons_zero, List.getElem?_cons_succ, List.set_nil, List.set_cons_zero, List.set_cons_succ, List.length_cons, List.length_nil, Bool.not_true, Bool.not_false, decide_eq_true_eq, not_true_eq_false, not_false_eq_true, true_and, and_true])
/-! ### sums and differences of polynomials -/
def zipL (f : Rat → Rat → Rat) (l m : List Rat) : List Rat := (List.range' 0 (max l.length m.length)).map fun i => f (l.getD i 0) (m.getD i 0)
def AllSq (l : List Rat) : Prop := ∀ x, x ∈ l → Sq x
theorem AllSq.at {l : List Rat} (h : AllSq l) (i : Nat) : Sq (l.getD i 0) := getD_all h Sq0 i
theorem AllBQ.sq {k : Nat} {l : List Rat} (h : AllBQ k l) (hk : k ≤ 67000000) : AllSq l := fun x hx => (h x hx).mono hk
def c_number_at : DFn := fun ds st Kf => ∃ b l i, ds = [.ins 0 none, rD b l, .int i] ∧ 0 ≤ i ∧ Kf (.v (nq (l.getD i.toNat 0))) st
def b_number_at : DSv := (dSeq (dIfS (dB (d2 fLt (dVar 2) (dCB fLen (dCons (dVar 1) dNil)))) (dRet (d2 fIx (dVar 1) (dVar 2))) dNext)
  (dRet (dMeth 0 c_Exact_nought 0 (dVar 0) dNil)))
theorem d_number_at (args : List D) (st : Stt) (Kf : Sl → Stt → Prop) (hl : args.length = 3) (q : c_number_at args st Kf) : b_number_at (ends Kf) (startD 0 args, st) := by
  obtain ⟨b, l, i, rfl, h0, q⟩ := q
  unfold b_number_at
  walk_at "dn"
  refine ⟨fun h => ?_, fun h => ?_⟩
  · rw [fIx_in h0 (by omega)]; exact q
  · rw [List.getD_eq_getElem?_getD, List.getElem?_eq_none (by omega)] at q; exact q
def zipC (f : Rat → Rat → Rat) : DFn := fun ds st Kf => ∃ b l c m, ds = [.ins 0 none, rD b l, rD c m] ∧ l.length ≤ 1000 ∧ m.length ≤ 1000 ∧ AllSq l ∧ AllSq m ∧ Kf (.v (.tup (nqs (trim (zipL f l m))))) st
def c_sum_by : DFn := zipC (· + ·)
def c_less_by : DFn := zipC (· - ·)
def b_sum_by : DSv := (dSeq (dSet 3 (dCB fMax2 (dCons (dCB fLen (dCons (dVar 1) dNil)) (dCons (dCB fLen (dCons (dVar 2) dNil)) dNil))))
  (dSeq (dSetO 4 (dLst dNil))
  (dSeq (dFor (iRange1 (dCons (dVar 3) dNil)) (aName 5) (dApp 4 (dMeth 0 c_Exact_plus 2 (dVar 0) (dCons (dFn c_number_at (lenIs 3 (dCons (dVar 0) (dCons (dVar 1) (dCons (dVar 5) dNil))))) (dCons (dFn c_number_at (lenIs 3 (dCons (dVar 0) (dCons (dVar 2) (dCons (dVar 5) dNil))))) dNil)))))
  (dRet (dFn c_trimmed (lenIs 2 (dCons (dVar 0) (dCons (dFrz 4) dNil))))))))
def b_less_by : DSv := (dSeq (dSet 3 (dCB fMax2 (dCons (dCB fLen (dCons (dVar 1) dNil)) (dCons (dCB fLen (dCons (dVar 2) dNil)) dNil))))
  (dSeq (dSetO 4 (dLst dNil))
  (dSeq (dFor (iRange1 (dCons (dVar 3) dNil)) (aName 5) (dApp 4 (dMeth 0 c_Exact_minus 2 (dVar 0) (dCons (dFn c_number_at (lenIs 3 (dCons (dVar 0) (dCons (dVar 1) (dCons (dVar 5) dNil))))) (dCons (dFn c_number_at (lenIs 3 (dCons (dVar 0) (dCons (dVar 2) (dCons (dVar 5) dNil))))) dNil)))))
  (dRet (dFn c_trimmed (lenIs 2 (dCons (dVar 0) (dCons (dFrz 4) dNil))))))))
theorem d_sum_by (args : List D) (st : Stt) (Kf : Sl → Stt → Prop) (hl : args.length = 3) (q : c_sum_by args st Kf) : b_sum_by (ends Kf) (startD 3 args, st) := by
  obtain ⟨b, l, c, m, rfl, h1, h2, s1, s2, q⟩ := q
  unfold b_sum_by
  walk_at "dn"
  have em : (if (m.length : Int) > l.length then (m.length : Int) else l.length) = ((max l.length m.length : Nat) : Int) := by split <;> omega
  rw [em]
  refine ⟨by decide, by omega, by omega, ?_⟩
  rw [show (((max l.length m.length : Nat) : Int)).toNat = max l.length m.length by omega]
  refine for_rng_ix (fun i ρ => ∃ y, ρ = ([some (.v (.ins 0 none)), some (.v (rD b l)), some (.v (rD c m)), some (.v (.int ((max l.length m.length : Nat) : Int))), some (.own (nqs ((List.range' 0 i).map fun i => l.getD i 0 + m.getD i 0))), y], st)) ?_ ?_ _ ⟨none, rfl⟩
  · rintro ρ ⟨y, rfl⟩
    walk_at "dn"
    exact ⟨false, _, rfl, by simp; omega, q⟩
  · rintro i ρ nx hi ⟨y, rfl⟩ k
    walk_at "dn"
    refine ⟨b, l, _, rfl, by omega, ?_⟩
    walk_at "dn"
    refine ⟨c, m, _, rfl, by omega, ?_⟩
    walk_at "dn"
    rw [show ((0 : Int) + (i : Nat)).toNat = i by omega, nqs_one, nqs_app]
    refine ⟨s1.at i, s2.at i, by simp; omega, k _ ⟨some (.v (.int (0 + (i : Nat)))), ?_⟩⟩
    rw [List.range'_concat, List.map_append]
    simp
theorem d_less_by (args : List D) (st : Stt) (Kf : Sl → Stt → Prop) (hl : args.length = 3) (q : c_less_by args st Kf) : b_less_by (ends Kf) (startD 3 args, st) := by
  obtain ⟨b, l, c, m, rfl, h1, h2, s1, s2, q⟩ := q
  unfold b_less_by
  walk_at "dn"
  have em : (if (m.length : Int) > l.length then (m.length : Int) else l.length) = ((max l.length m.length : Nat) : Int) := by split <;> omega
  rw [em]
  refine ⟨by decide, by omega, by omega, ?_⟩
  rw [show (((max l.length m.length : Nat) : Int)).toNat = max l.length m.length by omega]
  refine for_rng_ix (fun i ρ => ∃ y, ρ = ([some (.v (.ins 0 none)), some (.v (rD b l)), some (.v (rD c m)), some (.v (.int ((max l.length m.length : Nat) : Int))), some (.own (nqs ((List.range' 0 i).map fun i => l.getD i 0 - m.getD i 0))), y], st)) ?_ ?_ _ ⟨none, rfl⟩
  · rintro ρ ⟨y, rfl⟩
    walk_at "dn"
    exact ⟨false, _, rfl, by simp; omega, q⟩
  · rintro i ρ nx hi ⟨y, rfl⟩ k
    walk_at "dn"
    refine ⟨b, l, _, rfl, by omega, ?_⟩
    walk_at "dn"
    refine ⟨c, m, _, rfl, by omega, ?_⟩
    walk_at "dn"
    rw [show ((0 : Int) + (i : Nat)).toNat = i by omega, nqs_one, nqs_app]
    refine ⟨s1.at i, s2.at i, by simp; omega, k _ ⟨some (.v (.int (0 + (i : Nat)))), ?_⟩⟩
    rw [List.range'_concat, List.map_append]
    simp
/-! ### products -/
/-- place k of the product, the first i numbers of left taken -/
def cv (l m : List Rat) : Nat → Nat → Rat
  | 0, _ => 0
  | i + 1, k => cv l m i k + if i ≤ k then l.getD i 0 * m.getD (k - i) 0 else 0
def prodL (l m : List Rat) : List Rat := (List.range' 0 (l.length + m.length - 1)).map (cv l m l.length)
structure ProdOk (l m : List Rat) : Prop where
  sl : AllSq l
  sm : AllSq m
  mul : ∀ i j, Sq (l.getD i 0 * m.getD j 0)
  cv : ∀ i k, i ≤ l.length → Sq (cv l m i k)
def prodC : DFn := fun ds st Kf => ∃ b l c m, ds = [.ins 0 none, rD b l, rD c m] ∧ l.length ≤ 1000 ∧ m.length ≤ 1000 ∧ ProdOk l m ∧ Kf (.v (.tup (nqs (trim (prodL l m))))) st
def c_product_by : DFn := prodC
theorem map_set {N p : Nat} {f : Nat → Rat} {v : Rat} : ((List.range' 0 N).map f).set p v = (List.range' 0 N).map fun k => if k = p then v else f k := by
  refine List.ext_getElem (by simp) fun i h1 h2 => ?_
  rw [List.getElem_set]
  simp only [List.getElem_map, List.getElem_range']
  by_cases h : p = i
  · subst h; simp
  · rw [if_neg h, if_neg (by omega)]
theorem rng_getD {N p : Nat} {f : Nat → Rat} (h : p < N) : ((List.range' 0 N).map f).getD p 0 = f p := by
  rw [List.getD_eq_getElem?_getD]
  simp [h]
theorem map_congr {N : Nat} {f g : Nat → Rat} (h : ∀ k, k < N → f k = g k) : (List.range' 0 N).map f = (List.range' 0 N).map g := by
  refine List.map_congr_left fun k hk => h k ?_
  have := List.mem_range'_1.mp hk
  omega
/-- .. the first j of right for left's i-th -/
def cvj (l m : List Rat) (i j k : Nat) : Rat := if i ≤ k ∧ k - i < j then cv l m (i + 1) k else cv l m i k
theorem cvj_zero (l m : List Rat) (i k : Nat) : cvj l m i 0 k = cv l m i k := by unfold cvj; rw [if_neg (by omega)]
theorem cvj_all (l m : List Rat) (i k : Nat) : cvj l m i m.length k = cv l m (i + 1) k := by
  unfold cvj
  split
  · rfl
  · rename_i h
    show _ = cv l m i k + if i ≤ k then l.getD i 0 * m.getD (k - i) 0 else 0
    by_cases h1 : i ≤ k
    · rw [if_pos h1, List.getD_eq_getElem?_getD (l := m), List.getElem?_eq_none (by omega)]
      simp [Rat.mul_zero, Rat.add_zero]
    · rw [if_neg h1]; simp [Rat.add_zero]
theorem cv_skip {l m : List Rat} {i k : Nat} (h : l.getD i 0 = 0) : cv l m (i + 1) k = cv l m i k := by
  show cv l m i k + (if i ≤ k then l.getD i 0 * m.getD (k - i) 0 else 0) = _
  rw [h]
  split <;> simp [Rat.zero_mul, Rat.add_zero]
def b_product_by : DSv := (dSeq (dSetO 3 (d2O fRepO (asV (dLst (dCons (dMeth 0 c_Exact_nought 0 (dVar 0) dNil) dNil))) (dCB fMax2 (dCons (dC (.int 0)) (dCons (d2 fSub (d2 fAdd (dCB fLen (dCons (dVar 1) dNil)) (dCB fLen (dCons (dVar 2) dNil))) (dC (.int 1))) dNil)))))
  (dSeq (dFor (iEnum (dCons (dVar 1) dNil)) (aTup 2 (aCons (aName 4) (aCons (aName 5) aNil))) (dIfS (dNot (dB (dMeth 0 c_Exact_is_nought 1 (dVar 0) (dCons (dVar 5) dNil)))) (dFor (iEnum (dCons (dVar 2) dNil)) (aTup 2 (aCons (aName 6) (aCons (aName 7) aNil))) (dSub 3 (dMeth 0 c_Exact_plus 2 (dVar 0) (dCons (dIxO 3 (d2 fAdd (dVar 4) (dVar 6))) (dCons (dMeth 0 c_Exact_times 2 (dVar 0) (dCons (dVar 5) (dCons (dVar 7) dNil))) dNil))) (d2 fAdd (dVar 4) (dVar 6)))) dNext))
  (dRet (dFn c_trimmed (lenIs 2 (dCons (dVar 0) (dCons (dFrz 3) dNil)))))))
theorem d_product_by (args : List D) (st : Stt) (Kf : Sl → Stt → Prop) (hl : args.length = 3) (q : c_product_by args st Kf) : b_product_by (ends Kf) (startD 5 args, st) := by
  obtain ⟨b, l, c, m, rfl, h1, h2, ok, q⟩ := q
  unfold b_product_by
  walk_at "dn"
  have em : (if (l.length : Int) + m.length - 1 > 0 then (l.length : Int) + m.length - 1 else 0) = ((l.length + m.length - 1 : Nat) : Int) := by split <;> omega
  rw [em, rep_one, nqs_rep]
  have e0 : List.replicate (((l.length + m.length - 1 : Nat) : Int).toNat) (0 : Rat) = (List.range' 0 (l.length + m.length - 1)).map (cv l m 0) := by
    rw [show (((l.length + m.length - 1 : Nat) : Int).toNat) = l.length + m.length - 1 by omega]
    refine List.ext_getElem (by simp) fun i h1 h2 => ?_
    simp [cv]
  rw [e0]
  refine ⟨by decide, by omega, by omega, (show _ ≤ _ by omega), ?_⟩
  refine for_num_ix (fun i ρ => ∃ w x y z, ρ = ([some (.v (.ins 0 none)), some (.v (rD b l)), some (.v (rD c m)), some (.own (nqs ((List.range' 0 (l.length + m.length - 1)).map (cv l m i)))), w, x, y, z], st)) ?_ ?_ _ ⟨none, none, none, none, rfl⟩
  · rintro ρ ⟨w, x, y, z, rfl⟩
    walk_at "dn"
    exact ⟨false, _, rfl, by simp; omega, q⟩
  rintro i ρ nx hi ⟨w, x, y, z, rfl⟩ k
  walk_at "dn"
  refine ⟨fun h => k _ ⟨some (.v (.int (i : Nat))), some (.v (nq (l.getD i 0))), y, z, ?_⟩, fun h => ?_⟩
  · rw [map_congr (f := cv l m (i + 1)) (g := cv l m i) fun k _ => cv_skip h]
  rw [map_congr (f := cv l m i) (g := cvj l m i 0) fun k _ => (cvj_zero l m i k).symm]
  refine for_num_ix (fun j ρ => ∃ y z, ρ = ([some (.v (.ins 0 none)), some (.v (rD b l)), some (.v (rD c m)), some (.own (nqs ((List.range' 0 (l.length + m.length - 1)).map (cvj l m i j)))), some (.v (.int (i : Nat))), some (.v (nq (l.getD i 0))), y, z], st)) ?_ ?_ _ ⟨y, z, rfl⟩
  · rintro ρ ⟨y, z, rfl⟩
    rw [map_congr (g := cv l m (i + 1)) fun k _ => cvj_all l m i k]
    exact k _ ⟨_, _, y, z, rfl⟩
  rintro j ρ nx' hj ⟨y, z, rfl⟩ k'
  walk_at "dn"
  have hp : i + j < l.length + m.length - 1 := by omega
  rw [atI_in (by omega) (by simp; omega), show ((i : Int) + (j : Nat)).toNat = i + j by omega, rng_getD hp]
  have e1 : cvj l m i j (i + j) = cv l m i (i + j) := by unfold cvj; rw [if_neg (by omega)]
  have e2 : cv l m i (i + j) + l.getD i 0 * m.getD j 0 = cv l m (i + 1) (i + j) := by
    show _ = cv l m i (i + j) + if i ≤ i + j then _ else _
    rw [if_pos (by omega), show i + j - i = j by omega]
  rw [e1]
  walk_at "dn"
  rw [e2]
  have ei : ixN ((List.range' 0 (l.length + m.length - 1)).map (cvj l m i j)).length ((i : Int) + (j : Nat)) = some (i + j) := by
    unfold ixN
    rw [if_pos (by omega), if_pos (by simp; omega)]
    simp; omega
  rw [ei]
  refine ⟨ok.sl.at i, ok.sm.at j, ok.cv i _ (by omega), ok.mul i j, ?_⟩
  show nx' _
  rw [nqs_set, map_set]
  refine k' _ ⟨some (.v (.int (j : Nat))), some (.v (nq (m.getD j 0))), ?_⟩
  rw [map_congr (g := cvj l m i (j + 1)) fun k hk => ?_]
  unfold cvj
  by_cases h3 : k = i + j
  · subst h3
    rw [if_pos rfl, if_pos (by omega)]
  · rw [if_neg h3]
    by_cases h4 : i ≤ k ∧ k - i < j
    · rw [if_pos h4, if_pos (by omega)]
    · rw [if_neg h4, if_neg (by omega)]
end DL
namespace DL
open PySem PySem.Spec PyProof.Rows L2
theorem fSl_lst {l : List D} {lo hi : Option Int} {P : D → Prop} : fSl (.lst l) lo hi P = P (.lst (cutD l lo hi)) := rfl
theorem fSl_tup {l : List D} {lo hi : Option Int} {P : D → Prop} : fSl (.tup l) lo hi P = P (.tup (cutD l lo hi)) := rfl
local macro_rules | `(tactic| walk_at "dl") => `(tactic| simp -implicitDefEqProofs only [dSeq, dNext, dIfS, dB, dNot, dAnd, dOr, d2, fLt, fLe, fGt, fGe, fEqI, fNeI, fEqB, fNeB, fEqS, fNeS, fIsN_non, fNotN_non, fIsB, fNotB, fSub, fMul, fDiv, fDivE, fMod, fPow, fI, fI0, asI_int, asB_bl, asT_tup, asL_lst, asQ_tup, asQ_lst, asS_str, as1_one, as2_two, frz_v, frz_own, fAdd_int, fAdd_tup, fAdd_lst, fIx_tup0, fIx_tup1, fIx_lst0, fIx_lst1, fLen_tup, fLen_lst, fInt_bl, fTuple_tup, fTuple_lst, isN_int, isN_tup, isN_lst, isN_bl, isN_str, isN_non, dVar, dC, dNeg, dSet, dSetO, dPar, dAsg, dAug, dRet, dRetO, dRetV, dRetN, dTup, dCons, dNil, dFn, dFnO, lenIs, dCB, fAbs, fMax2, fMin2, dIsi, dAndV, dOrV, dNotV, dIf, dFor, iSeq, iRange1, iRange2, iZip, aName, aTup, aCons, aNil, dLc, dYes, dLitO, noOwn, wipeE, ends, startD, setV, setO, ownAt, asV, dLst, dListO, dLenO, dTupO, dFrz, dApp, dPop, dClear, dSub, dIxO, d2O, fCatO, fRepO, pt_non, isi_non_int, isi_non_bool, isi_non_tuple, isi_non_list, isi_non_str, pt_bl, isi_bl_int, isi_bl_bool, isi_bl_tuple, isi_bl_list, isi_bl_str, pt_int, isi_int_int, isi_int_bool, isi_int_tuple, isi_int_list, isi_int_str, pt_str, isi_str_int, isi_str_bool, isi_str_tuple, isi_str_list, isi_str_str, pt_tup, isi_tup_int, isi_tup_bool, isi_tup_tuple, isi_tup_list, isi_tup_str, pt_lst, isi_lst_int, isi_lst_bool, isi_lst_tuple, isi_lst_list, isi_lst_str, Br_true, Br_false, Br_dec, Br_not, tt_imp, List.map_cons, List.map_nil, List.cons_append, List.nil_append, List.replicate_succ, List.replicate_zero, List.getElem?_cons_zero, List.getElem?_cons_succ, List.set_nil, List.set_cons_zero, List.set_cons_succ, List.length_cons, List.length_nil, Bool.not_true, Bool.not_false, decide_eq_true_eq, not_true_eq_false, not_false_eq_true, true_and, and_true])
local macro_rules | `(tactic| walk_at "d1") => `(tactic| simp -implicitDefEqProofs only [aName, setV, setO, List.set_cons_zero, List.set_cons_succ])
local macro_rules | `(tactic| walk_at "dn") => `(tactic| simp -implicitDefEqProofs only [fIx_nq0, fIx_nq1, asN_nq, num_e, part_e, same_e, nn_e2, over_e, l_over_e, c_plus, c_minus, c_times, c_before, c_l_plus, c_l_minus, c_l_times, num_eq, num_lt0, sub_lt0, due_nq, asR_r, asR_t, asR_l, asQ_r, fLen_r, fTuple_r, pt_r, asT1_t, okD_nq, okD_lst, okD_tup, okD_nil, okD_nilt, eqD_nq, eqD_lst, eqD_tup, eqD_nil, eqD_nilt, nqs_len, dCmpO, eqB, neB, dMeth, dChain, iEnum, iRev, iRange3, as3_three, dBor, dCatO, fl_bl, fEqD, fNeD, c_Exact_nought, c_Exact_one, c_Exact_plus, c_Exact_minus, c_Exact_times, c_Exact_over, c_Exact_is_nought, List.tail_cons, D.ins.injEq, exists_eq', exists_and_left, and_true, true_and, dSl, dPn, dPs, fSl_lst, fSl_tup, dSeq, dNext, dIfS, dB, dNot, dAnd, dOr, d2, fLt, fLe, fGt, fGe, fEqI, fNeI, fEqB, fNeB, fEqS, fNeS, fIsN_non, fNotN_non, fIsB, fNotB, fSub, fMul, fDiv, fDivE, fMod, fPow, fI, fI0, asI_int, asB_bl, asT_tup, asL_lst, asQ_tup, asQ_lst, asS_str, as1_one, as2_two, frz_v, frz_own, fAdd_int, fAdd_tup, fAdd_lst, fIx_tup0, fIx_tup1, fIx_lst0, fIx_lst1, fLen_tup, fLen_lst, fInt_bl, fTuple_tup, fTuple_lst, isN_int, isN_tup, isN_lst, isN_bl, isN_str, isN_non, dVar, dC, dNeg, dSet, dSetO, dPar, dAsg, dAug, dRet, dRetO, dRetV, dRetN, dTup, dCons, dNil, dFn, dFnO, lenIs, dCB, fAbs, fMax2, fMin2, dIsi, dAndV, dOrV, dNotV, dIf, dFor, iSeq, iRange1, iRange2, iZip, aName, aTup, aCons, aNil, dLc, dYes, dLitO, noOwn, wipeE, ends, startD, setV, setO, ownAt, asV, dLst, dListO, dLenO, dTupO, dFrz, dApp, dPop, dClear, dSub, dIxO, d2O, fCatO, fRepO, pt_non, isi_non_int, isi_non_bool, isi_non_tuple, isi_non_list, isi_non_str, pt_bl, isi_bl_int, isi_bl_bool, isi_bl_tuple, isi_bl_list, isi_bl_str, pt_int, isi_int_int, isi_int_bool, isi_int_tuple, isi_int_list, isi_int_str, pt_str, isi_str_int, isi_str_bool, isi_str_tuple, isi_str_list, isi_str_str, pt_tup, isi_tup_int, isi_tup_bool, isi_tup_tuple, isi_tup_list, isi_tup_str, pt_lst, isi_lst_int, isi_lst_bool, isi_lst_tuple, isi_lst_list, isi_lst_str, Br_true, Br_false, Br_dec, Br_not, tt_imp, List.map_cons, List.map_nil, List.cons_append, List.nil_append, List.replicate_succ, List.replicate_zero, List.getElem?_cons_zero, List.getElem?_cons_succ, List.set_nil, List.set_cons_zero, List.set_cons_succ, List.length_cons, List.length_nil, Bool.not_true, Bool.not_false, decide_eq_true_eq, not_true_eq_false, not_false_eq_true, true_and, and_true])
/-! ### values -/
def valH (x : Rat) : List Rat → Rat
  | [] => 0
  | a :: l => valH x l * x + a
structure ValOk (x : Rat) (l : List Rat) : Prop where
  sx : Sq x
  sl : AllSq l
  val : ∀ i, Sq (valH x (l.drop i))
  mul : ∀ i, Sq (valH x (l.drop i) * x)
theorem valH_drop {x : Rat} {l : List Rat} {i : Nat} (h : i < l.length) : valH x (l.drop i) = valH x (l.drop (i + 1)) * x + l.getD i 0 := by
  rw [List.drop_eq_getElem_cons h, List.getD_eq_getElem?_getD, List.getElem?_eq_getElem h]
  rfl
def c_value_by : DFn := fun ds st Kf => ∃ b l x, ds = [.ins 0 none, rD b l, nq x] ∧ l.length ≤ 1000 ∧ ValOk x l ∧ Kf (.v (nq (valH x l))) st
def b_value_by : DSv := (dSeq (dSet 3 (dMeth 0 c_Exact_nought 0 (dVar 0) dNil))
  (dSeq (dFor (iRev (dVar 1)) (aName 4) (dSet 3 (dMeth 0 c_Exact_plus 2 (dVar 0) (dCons (dMeth 0 c_Exact_times 2 (dVar 0) (dCons (dVar 3) (dCons (dVar 2) dNil))) (dCons (dVar 4) dNil)))))
  (dRet (dVar 3))))
theorem d_value_by (args : List D) (st : Stt) (Kf : Sl → Stt → Prop) (hl : args.length = 3) (q : c_value_by args st Kf) : b_value_by (ends Kf) (startD 2 args, st) := by
  obtain ⟨b, l, x, rfl, h1, ok, q⟩ := q
  unfold b_value_by
  walk_at "dn"
  rw [nqs_rev]
  refine for_nqs_ix (fun i ρ => ∃ y, ρ = ([some (.v (.ins 0 none)), some (.v (rD b l)), some (.v (nq x)), some (.v (nq (valH x (l.drop (l.length - i))))), y], st)) ?_ ?_ _ ⟨none, by rw [Nat.sub_zero, List.drop_length]; rfl⟩
  · rintro ρ ⟨y, rfl⟩
    rw [List.length_reverse, Nat.sub_self, List.drop_zero]
    exact q
  · rintro i ρ nx hi ⟨y, rfl⟩ k
    rw [List.length_reverse] at hi
    have e : l.reverse.getD i 0 = l.getD (l.length - (i + 1)) 0 := by
      rw [List.getD_eq_getElem?_getD, List.getElem?_reverse hi, List.getD_eq_getElem?_getD]
      congr 2
      omega
    rw [e]
    have s := valH_drop (x := x) (l := l) (i := l.length - (i + 1)) (by omega)
    rw [show l.length - (i + 1) + 1 = l.length - i by omega] at s
    walk_at "dn"
    rw [← s]
    exact ⟨ok.val _, ok.sx, ok.mul _, ok.sl.at _, k _ ⟨some (.v (nq (l.getD (l.length - (i + 1)) 0))), rfl⟩⟩
/-! ### how often and the rest -/
/-- the rest (by places) when the first i shares are taken off; N places of how often -/
def prR (l m : List Rat) (N : Nat) : Nat → Nat → Rat
  | 0, k => l.getD k 0
  | i + 1, k => if N - 1 - i ≤ k ∧ k - (N - 1 - i) < m.length then prR l m N i k - prR l m N i (N - 1 - i + m.length - 1) / m.getD (m.length - 1) 0 * m.getD (k - (N - 1 - i)) 0 else prR l m N i k
/-- the i-th share -/
def prS (l m : List Rat) (N i : Nat) : Rat := prR l m N i (N - 1 - i + m.length - 1) / m.getD (m.length - 1) 0
/-- how often, the first i shares told -/
def prO (l m : List Rat) (N i k : Nat) : Rat := if N - i ≤ k then prS l m N (N - 1 - k) else 0
def howN (l m : List Rat) : Nat := l.length + 1 - m.length
def oftL (l m : List Rat) : List Rat := (List.range' 0 (howN l m)).map (prO l m (howN l m) (howN l m))
def rstL (l m : List Rat) : List Rat := (List.range' 0 (min l.length (m.length - 1))).map (prR l m (howN l m) (howN l m))
theorem for_rngDn_ix {t : DGv} {body : DSv} {B : DEnds} {n : Nat} {lo : Int} (W : Nat → En → Prop) (hn : ∀ ρ, W n ρ → B.nx ρ)
    (hc : ∀ (i : Nat) ρ (nx : En → Prop), i < n → W i ρ → (∀ ρ', W (i + 1) ρ' → nx ρ') → t (.int (lo - (i : Nat))) ρ fun ρ1 => body { B with nx := nx, ct := nx, bk := B.nx } ρ1) :
    ∀ ρ, W 0 ρ → forD t body B (rangeDn lo n) ρ := for_list_ix W (fun ρ w => hn ρ (by simpa [rangeDn] using w)) fun i d ρ nx e w k => by
  have hi : i < n := by have := (List.getElem?_eq_some_iff.mp e).1; simpa [rangeDn] using this
  have : d = .int (lo - (i : Nat)) := by
    unfold rangeDn at e
    simp [hi] at e
    exact e.symm
  subst this
  exact hc i ρ nx hi w k
theorem cutD_take {l : List D} {n : Int} (h : 0 ≤ n) : cutD l none (some n) = l.take n.toNat := by
  unfold cutD
  obtain ⟨k, rfl⟩ := Int.eq_ofNat_of_zero_le h
  rw [HT.sIx_none, HT.sIx_nat]
  simp [Nat.min_comm]
theorem fIx_last {b : Bool} {l : List Rat} {P : D → Prop} (h : 1 ≤ l.length) : fIx (rD b l) (.int (-1)) P = P (nq (l.getD (l.length - 1) 0)) := by
  have hn : nqs l ≠ [] := fun z => by
    have : l = [] := by simpa [nqs] using z
    subst this; simp at h
  have e : atI (nqs l) (-1) = some (nq (l.getD (l.length - 1) 0)) := by
    rw [atI_last hn, List.getLast_eq_getElem]
    simp [nqs, show l.length - 1 < l.length by omega]
  cases b
  · show fIx (.lst (nqs l)) _ _ = _
    rw [fIx_lst, e]
  · show fIx (.tup (nqs l)) _ _ = _
    rw [fIx_tup, e]
/-- .. the first j of right taken off at the i-th share -/
def prJ (l m : List Rat) (N i j k : Nat) : Rat := if N - 1 - i ≤ k ∧ k - (N - 1 - i) < j then prR l m N (i + 1) k else prR l m N i k
theorem prJ_zero (l m : List Rat) (N i k : Nat) : prJ l m N i 0 k = prR l m N i k := by unfold prJ; rw [if_neg (by omega)]
theorem prJ_all (l m : List Rat) (N i k : Nat) : prJ l m N i m.length k = prR l m N (i + 1) k := by
  unfold prJ
  split
  · rfl
  · rename_i h
    show _ = if _ then _ else _
    rw [if_neg h]
theorem getD_range (l : List Rat) : l = (List.range' 0 l.length).map fun k => l.getD k 0 := by
  have := take_range l l.length (Nat.le_refl _)
  rw [List.take_length] at this
  exact this.symm
structure PartOk (l m : List Rat) : Prop where
  sm : AllSq m
  r : ∀ i k, i ≤ howN l m → Sq (prR l m (howN l m) i k)
  s : ∀ i, i < howN l m → Sq (prS l m (howN l m) i)
  mul : ∀ i j, i < howN l m → Sq (prS l m (howN l m) i * m.getD j 0)
def c_parted_by : DFn := fun ds st Kf => ∃ b l c m, ds = [.ins 0 none, rD b l, rD c m] ∧ l.length ≤ 1000 ∧ m.length ≤ 1000 ∧ 1 ≤ m.length ∧ m.getD (m.length - 1) 0 ≠ 0 ∧ PartOk l m ∧ Kf (.v (.tup [.tup (nqs (trim (oftL l m))), .tup (nqs (trim (rstL l m)))])) st
def b_parted_by : DSv := (dSeq (dSetO 3 (dListO (dCons (dVar 1) dNil)))
  (dSeq (dSet 4 (d2 fAdd (d2 fSub (dCB fLen (dCons (dVar 1) dNil)) (dCB fLen (dCons (dVar 2) dNil))) (dC (.int 1))))
  (dSeq (dSetO 5 (d2O fRepO (asV (dLst (dCons (dMeth 0 c_Exact_nought 0 (dVar 0) dNil) dNil))) (dCB fMax2 (dCons (dC (.int 0)) (dCons (dVar 4) dNil)))))
  (dSeq (dFor (iRange3 (dCons (d2 fSub (dVar 4) (dC (.int 1))) (dCons (dNeg (dC (.int 1))) (dCons (dNeg (dC (.int 1))) dNil)))) (aName 6) (dSeq (dSet 7 (dMeth 0 c_Exact_over 2 (dVar 0) (dCons (dIxO 3 (d2 fSub (d2 fAdd (dVar 6) (dCB fLen (dCons (dVar 2) dNil))) (dC (.int 1)))) (dCons (d2 fIx (dVar 2) (dNeg (dC (.int 1)))) dNil))))
  (dSeq (dSub 5 (dVar 7) (dVar 6))
  (dFor (iEnum (dCons (dVar 2) dNil)) (aTup 2 (aCons (aName 8) (aCons (aName 9) aNil))) (dSub 3 (dMeth 0 c_Exact_minus 2 (dVar 0) (dCons (dIxO 3 (d2 fAdd (dVar 6) (dVar 8))) (dCons (dMeth 0 c_Exact_times 2 (dVar 0) (dCons (dVar 7) (dCons (dVar 9) dNil))) dNil))) (d2 fAdd (dVar 6) (dVar 8)))))))
  (dRet (dTup (dCons (dFn c_trimmed (lenIs 2 (dCons (dVar 0) (dCons (dFrz 5) dNil)))) (dCons (dFn c_trimmed (lenIs 2 (dCons (dVar 0) (dCons (dSl (dFrz 3) dPn (dPs (d2 fSub (dCB fLen (dCons (dVar 2) dNil)) (dC (.int 1))))) dNil)))) dNil))))))))
theorem d_parted_by (args : List D) (st : Stt) (Kf : Sl → Stt → Prop) (hl : args.length = 3) (q : c_parted_by args st Kf) : b_parted_by (ends Kf) (startD 7 args, st) := by
  obtain ⟨b, l, c, m, rfl, h1, h2, h3, hm, ok, q⟩ := q
  unfold b_parted_by
  walk_at "dn"
  have em : (if (l.length : Int) - m.length + 1 > 0 then (l.length : Int) - m.length + 1 else 0) = ((howN l m : Nat) : Int) := by unfold howN; split <;> omega
  have hN : howN l m ≤ l.length ∧ (0 < howN l m → howN l m + m.length = l.length + 1) := by unfold howN; omega
  have eN : ((l.length : Int) - m.length + 1 - 1 - -1).toNat = howN l m := by unfold howN; omega
  rw [em, rep_one, nqs_rep, eN]
  refine ⟨by decide, by omega, by omega, (show _ ≤ _ by omega), ⟨by omega, by omega, by decide, by decide⟩, ?_⟩
  generalize hNN : howN l m = N at *
  have e0 : List.replicate (((N : Nat) : Int).toNat) (0 : Rat) = (List.range' 0 N).map (prO l m N 0) := by
    rw [show ((N : Nat) : Int).toNat = N by omega]
    refine List.ext_getElem (by simp) fun i h1 h2 => ?_
    simp at h1
    simp only [List.getElem_replicate, List.getElem_map, List.getElem_range', prO]
    rw [if_neg (by omega)]
  have e1 : nqs l = nqs ((List.range' 0 l.length).map (prR l m N 0)) := congrArg nqs (getD_range l)
  rw [e0, e1]
  refine for_rngDn_ix (fun i ρ => ∃ x y z w, ρ = ([some (.v (.ins 0 none)), some (.v (rD b l)), some (.v (rD c m)), some (.own (nqs ((List.range' 0 l.length).map (prR l m N i)))), some (.v (.int ((l.length : Int) - m.length + 1))), some (.own (nqs ((List.range' 0 N).map (prO l m N i)))), x, y, z, w], st)) ?_ ?_ _ ⟨none, none, none, none, rfl⟩
  · rintro ρ ⟨x, y, z, w, rfl⟩
    walk_at "dn"
    refine ⟨false, _, rfl, by simp; omega, ?_⟩
    walk_at "dn"
    rw [cutD_take (by omega), nqs_take]
    have e2 : ((List.range' 0 l.length).map (prR l m N N)).take ((m.length : Int) - 1).toNat = rstL l m := by
      unfold rstL
      rw [hNN, show ((m.length : Int) - 1).toNat = m.length - 1 by omega, ← List.map_take]
      congr 1
      refine List.ext_getElem (by simp; omega) fun i h1 h2 => ?_
      simp
    rw [e2]
    refine ⟨false, _, rfl, by unfold rstL; simp; omega, by decide, ?_⟩
    unfold oftL at q
    rw [hNN] at q
    exact q
  rintro i ρ nx hi ⟨x, y, z, w, rfl⟩ k
  walk_at "dn"
  have ep : (l.length : Int) - m.length + 1 - 1 - (i : Nat) = ((N - 1 - i : Nat) : Int) := by omega
  rw [ep]
  have eq : ((N - 1 - i : Nat) : Int) + m.length - 1 = ((N - 1 - i + m.length - 1 : Nat) : Int) := by omega
  rw [eq, atI_in (by omega) (by simp; omega), Int.toNat_natCast, rng_getD (by omega)]
  have ei : ixN ((List.range' 0 N).map (prO l m N i)).length ((N - 1 - i : Nat) : Int) = some (N - 1 - i) := by
    unfold ixN
    rw [if_pos (by omega), if_pos (by simp; omega)]
    simp
  show fIx (rD c m) (D.int (-1)) _
  rw [fIx_last h3]
  walk_at "dn"
  rw [ei]
  have es : prR l m N i (N - 1 - i + m.length - 1) / m.getD (m.length - 1) 0 = prS l m N i := rfl
  rw [es]
  refine ⟨hm, hNN ▸ ok.r i _ (by omega), ok.sm.at _, ?_⟩
  show forD _ _ _ _ ([_, _, _, _, _, some (Sl.own ((nqs _).set (N - 1 - i) (nq _))), _, _, _, _], _)
  have eo : (nqs ((List.range' 0 N).map (prO l m N i))).set (N - 1 - i) (nq (prS l m N i)) = nqs ((List.range' 0 N).map (prO l m N (i + 1))) := by
    rw [nqs_set, map_set]
    refine congrArg nqs (map_congr fun k hk => ?_)
    unfold prO
    by_cases h : k = N - 1 - i
    · subst h
      rw [if_pos rfl, if_pos (by omega), show N - 1 - (N - 1 - i) = i by omega]
    · rw [if_neg h]
      by_cases h' : N - i ≤ k
      · rw [if_pos h', if_pos (by omega)]
      · rw [if_neg h', if_neg (by omega)]
  rw [eo, map_congr (f := prR l m N i) (g := prJ l m N i 0) fun k _ => (prJ_zero l m N i k).symm]
  refine for_num_ix (fun j ρ => ∃ z w, ρ = ([some (.v (.ins 0 none)), some (.v (rD b l)), some (.v (rD c m)), some (.own (nqs ((List.range' 0 l.length).map (prJ l m N i j)))), some (.v (.int ((l.length : Int) - m.length + 1))), some (.own (nqs ((List.range' 0 N).map (prO l m N (i + 1))))), some (.v (.int ((N - 1 - i : Nat) : Int))), some (.v (nq (prS l m N i))), z, w], st)) ?_ ?_ _ ⟨z, w, rfl⟩
  · rintro ρ ⟨z, w, rfl⟩
    rw [map_congr (g := prR l m N (i + 1)) fun k _ => prJ_all l m N i k]
    exact k _ ⟨_, _, z, w, rfl⟩
  rintro j ρ nx' hj ⟨z, w, rfl⟩ k'
  walk_at "dn"
  have hp : N - 1 - i + j < l.length := by omega
  rw [atI_in (by omega) (by simp; omega), show (((N - 1 - i : Nat) : Int) + (j : Nat)).toNat = N - 1 - i + j by omega, rng_getD hp]
  have e3 : prJ l m N i j (N - 1 - i + j) = prR l m N i (N - 1 - i + j) := by unfold prJ; rw [if_neg (by omega)]
  have e4 : prR l m N i (N - 1 - i + j) - prS l m N i * m.getD j 0 = prR l m N (i + 1) (N - 1 - i + j) := by
    show _ = if _ then _ else _
    rw [if_pos (by omega), show N - 1 - i + j - (N - 1 - i) = j by omega]; rfl
  rw [e3]
  walk_at "dn"
  rw [e4]
  have ei2 : ixN ((List.range' 0 l.length).map (prJ l m N i j)).length (((N - 1 - i : Nat) : Int) + (j : Nat)) = some (N - 1 - i + j) := by
    unfold ixN
    rw [if_pos (by omega), if_pos (by simp; omega)]
    simp; omega
  rw [ei2]
  refine ⟨hNN ▸ ok.s i (by omega), ok.sm.at j, hNN ▸ ok.r i _ (by omega), hNN ▸ ok.mul i j (by omega), ?_⟩
  show nx' _
  rw [nqs_set, map_set]
  refine k' _ ⟨some (.v (.int (j : Nat))), some (.v (nq (m.getD j 0))), ?_⟩
  rw [map_congr (g := prJ l m N i (j + 1)) fun k hk => ?_]
  unfold prJ
  by_cases h3 : k = N - 1 - i + j
  · subst h3
    rw [if_pos rfl, if_pos (by omega)]
  · rw [if_neg h3]
    by_cases h4 : N - 1 - i ≤ k ∧ k - (N - 1 - i) < j
    · rw [if_pos h4, if_pos (by omega)]
    · rw [if_neg h4, if_neg (by omega)]
end DL
namespace DL
open PySem PySem.Spec PyProof.Rows L2
/-! ### rows up to noughts at the end -/
def Same0 (l m : List Rat) : Prop := ∀ i, l.getD i 0 = m.getD i 0
theorem trim_snoc_ind {P : List Rat → Prop} (h0 : P []) (h1 : ∀ l, P l → P (l ++ [0])) (h2 : ∀ l a, a ≠ 0 → P (l ++ [a])) : ∀ l, P l := by
  intro l
  induction hn : l.length generalizing l with
  | zero => rw [List.eq_nil_of_length_eq_zero hn]; exact h0
  | succ n ih =>
    rcases snoc_cases l with rfl | ⟨m, a, rfl⟩
    · cases hn
    · by_cases ha : a = 0
      · subst ha; exact h1 m (ih m (by simpa using hn))
      · exact h2 m a ha
theorem getD_app0 (l : List Rat) (i : Nat) : (l ++ [0]).getD i 0 = l.getD i 0 := by
  rw [List.getD_eq_getElem?_getD, List.getD_eq_getElem?_getD]
  by_cases h : i < l.length
  · rw [List.getElem?_append_left h]
  · rw [List.getElem?_append_right (by omega), List.getElem?_eq_none (l := l) (by omega)]
    by_cases h2 : i = l.length
    · subst h2; simp
    · rw [List.getElem?_eq_none (by simp; omega)]
theorem trim_same : ∀ l : List Rat, Same0 (trim l) l := trim_snoc_ind (fun _ => rfl) (fun l ih i => by rw [trim_snoc0, getD_app0]; exact ih i) fun l a h i => by rw [trim_snoc h]
theorem trim_last : ∀ l : List Rat, trim l = [] ∨ ∃ m a, a ≠ 0 ∧ trim l = m ++ [a] := trim_snoc_ind (.inl rfl) (fun l ih => by rw [trim_snoc0]; exact ih) fun l a h => .inr ⟨l, a, h, trim_snoc h⟩
theorem trim_trim (l : List Rat) : trim (trim l) = trim l := by
  rcases trim_last l with h | ⟨m, a, ha, h⟩
  · rw [h]; rfl
  · rw [h, trim_snoc ha]
theorem getD_len {m : List Rat} {a : Rat} : (m ++ [a]).getD m.length 0 = a := by
  rw [List.getD_eq_getElem?_getD, List.getElem?_append_right (Nat.le_refl _)]; simp
theorem getD_out {l : List Rat} {i : Nat} (h : l.length ≤ i) : l.getD i 0 = 0 := by
  rw [List.getD_eq_getElem?_getD, List.getElem?_eq_none h]; rfl
theorem same_len {l m : List Rat} (hl : l = [] ∨ ∃ k a, a ≠ 0 ∧ l = k ++ [a]) (s : Same0 l m) : l.length ≤ m.length := by
  rcases hl with rfl | ⟨k, a, ha, rfl⟩
  · exact Nat.zero_le _
  · by_cases h : (k ++ [a]).length ≤ m.length
    · exact h
    · have := s k.length
      rw [getD_len, getD_out (by simp at h; omega)] at this
      exact absurd this ha
theorem trim_eq {l m : List Rat} (s : Same0 l m) : trim l = trim m := by
  have s1 : Same0 (trim l) (trim m) := fun i => by rw [trim_same l i, trim_same m i, s i]
  have e : (trim l).length = (trim m).length := Nat.le_antisymm (same_len (trim_last l) s1) (same_len (trim_last m) fun i => (s1 i).symm)
  refine List.ext_getElem e fun i h1 h2 => ?_
  have := s1 i
  rw [List.getD_eq_getElem?_getD, List.getD_eq_getElem?_getD, List.getElem?_eq_getElem h1, List.getElem?_eq_getElem h2] at this
  exact this
theorem trim_iff {l m : List Rat} : trim l = trim m ↔ Same0 l m := ⟨fun h i => by rw [← trim_same l i, h, trim_same m i], trim_eq⟩
theorem map_getD {N : Nat} {f : Nat → Rat} (h : ∀ k, N ≤ k → f k = 0) (i : Nat) : ((List.range' 0 N).map f).getD i 0 = f i := by
  by_cases hi : i < N
  · exact rng_getD hi
  · rw [getD_out (by simp; omega), h i (by omega)]
theorem zipL_getD {f : Rat → Rat → Rat} (h0 : f 0 0 = 0) (l m : List Rat) (i : Nat) : (zipL f l m).getD i 0 = f (l.getD i 0) (m.getD i 0) := by
  unfold zipL
  refine map_getD (f := fun i => f (l.getD i 0) (m.getD i 0)) (fun k hk => ?_) i
  rw [getD_out (by omega), getD_out (by omega)]; exact h0
theorem cv_congr {l l' m m' : List Rat} (hl : Same0 l l') (hm : Same0 m m') : ∀ i k, cv l m i k = cv l' m' i k
  | 0, _ => rfl
  | i + 1, k => by
    show cv l m i k + _ = cv l' m' i k + _
    rw [cv_congr hl hm i k, hl i, hm (k - i)]
theorem cv_out {l m : List Rat} {k : Nat} : ∀ i, l.length + m.length ≤ k + 1 → i ≤ l.length → m.length ≠ 0 → cv l m i k = 0
  | 0, _, _, _ => rfl
  | i + 1, h, hi, hm => by
    show cv l m i k + _ = 0
    rw [cv_out i h (by omega) hm]
    split
    · rw [getD_out (l := m) (by omega), Rat.mul_zero]; exact Rat.add_zero 0
    · exact Rat.add_zero 0
theorem cv_more {l m : List Rat} {k : Nat} : ∀ i, l.length ≤ i → cv l m i k = cv l m l.length k
  | 0, h => by rw [show l.length = 0 by omega]
  | i + 1, h => by
    by_cases e : l.length = i + 1
    · rw [e]
    · rw [← cv_more i (by omega)]
      exact cv_skip (getD_out (by omega))

local macro_rules | `(tactic| walk_at "dl") => `(tactic| simp -implicitDefEqProofs only [dSeq, dNext, dIfS, dB, dNot, dAnd, dOr, d2, fLt, fLe, fGt, fGe, fEqI, fNeI, fEqB, fNeB, fEqS, fNeS, fIsN_non, fNotN_non, fIsB, fNotB, fSub, fMul, fDiv, fDivE, fMod, fPow, fI, fI0, asI_int, asB_bl, asT_tup, asL_lst, asQ_tup, asQ_lst, asS_str, as1_one, as2_two, frz_v, frz_own, fAdd_int, fAdd_tup, fAdd_lst, fIx_tup0, fIx_tup1, fIx_lst0, fIx_lst1, fLen_tup, fLen_lst, fInt_bl, fTuple_tup, fTuple_lst, isN_int, isN_tup, isN_lst, isN_bl, isN_str, isN_non, dVar, dC, dNeg, dSet, dSetO, dPar, dAsg, dAug, dRet, dRetO, dRetV, dRetN, dTup, dCons, dNil, dFn, dFnO, lenIs, dCB, fAbs, fMax2, fMin2, dIsi, dAndV, dOrV, dNotV, dIf, dFor, iSeq, iRange1, iRange2, iZip, aName, aTup, aCons, aNil, dLc, dYes, dLitO, noOwn, wipeE, ends, startD, setV, setO, ownAt, asV, dLst, dListO, dLenO, dTupO, dFrz, dApp, dPop, dClear, dSub, dIxO, d2O, fCatO, fRepO, pt_non, isi_non_int, isi_non_bool, isi_non_tuple, isi_non_list, isi_non_str, pt_bl, isi_bl_int, isi_bl_bool, isi_bl_tuple, isi_bl_list, isi_bl_str, pt_int, isi_int_int, isi_int_bool, isi_int_tuple, isi_int_list, isi_int_str, pt_str, isi_str_int, isi_str_bool, isi_str_tuple, isi_str_list, isi_str_str, pt_tup, isi_tup_int, isi_tup_bool, isi_tup_tuple, isi_tup_list, isi_tup_str, pt_lst, isi_lst_int, isi_lst_bool, isi_lst_tuple, isi_lst_list, isi_lst_str, Br_true, Br_false, Br_dec, Br_not, tt_imp, List.map_cons, List.map_nil, List.cons_append, List.nil_append, List.replicate_succ, List.replicate_zero, List.getElem?_cons_zero, List.getElem?_cons_succ, List.set_nil, List.set_cons_zero, List.set_cons_succ, List.length_cons, List.length_nil, Bool.not_true, Bool.not_false, decide_eq_true_eq, not_true_eq_false, not_false_eq_true, true_and, and_true])
local macro_rules | `(tactic| walk_at "d1") => `(tactic| simp -implicitDefEqProofs only [aName, setV, setO, List.set_cons_zero, List.set_cons_succ])
local macro_rules | `(tactic| walk_at "dn") => `(tactic| simp -implicitDefEqProofs only [fIx_nq0, fIx_nq1, asN_nq, num_e, part_e, same_e, nn_e2, over_e, l_over_e, c_plus, c_minus, c_times, c_before, c_l_plus, c_l_minus, c_l_times, num_eq, num_lt0, sub_lt0, due_nq, asR_r, asR_t, asR_l, asQ_r, fLen_r, fTuple_r, pt_r, asT1_t, okD_nq, okD_lst, okD_tup, okD_nil, okD_nilt, eqD_nq, eqD_lst, eqD_tup, eqD_nil, eqD_nilt, nqs_len, dCmpO, eqB, neB, dMeth, dChain, iEnum, iRev, iRange3, as3_three, dBor, dCatO, fl_bl, fEqD, fNeD, c_Exact_nought, c_Exact_one, c_Exact_plus, c_Exact_minus, c_Exact_times, c_Exact_over, c_Exact_is_nought, List.tail_cons, D.ins.injEq, exists_eq', exists_and_left, and_true, true_and, dSl, dPn, dPs, fSl_lst, fSl_tup, dSeq, dNext, dIfS, dB, dNot, dAnd, dOr, d2, fLt, fLe, fGt, fGe, fEqI, fNeI, fEqB, fNeB, fEqS, fNeS, fIsN_non, fNotN_non, fIsB, fNotB, fSub, fMul, fDiv, fDivE, fMod, fPow, fI, fI0, asI_int, asB_bl, asT_tup, asL_lst, asQ_tup, asQ_lst, asS_str, as1_one, as2_two, frz_v, frz_own, fAdd_int, fAdd_tup, fAdd_lst, fIx_tup0, fIx_tup1, fIx_lst0, fIx_lst1, fLen_tup, fLen_lst, fInt_bl, fTuple_tup, fTuple_lst, isN_int, isN_tup, isN_lst, isN_bl, isN_str, isN_non, dVar, dC, dNeg, dSet, dSetO, dPar, dAsg, dAug, dRet, dRetO, dRetV, dRetN, dTup, dCons, dNil, dFn, dFnO, lenIs, dCB, fAbs, fMax2, fMin2, dIsi, dAndV, dOrV, dNotV, dIf, dFor, iSeq, iRange1, iRange2, iZip, aName, aTup, aCons, aNil, dLc, dYes, dLitO, noOwn, wipeE, ends, startD, setV, setO, ownAt, asV, dLst, dListO, dLenO, dTupO, dFrz, dApp, dPop, dClear, dSub, dIxO, d2O, fCatO, fRepO, pt_non, isi_non_int, isi_non_bool, isi_non_tuple, isi_non_list, isi_non_str, pt_bl, isi_bl_int, isi_bl_bool, isi_bl_tuple, isi_bl_list, isi_bl_str, pt_int, isi_int_int, isi_int_bool, isi_int_tuple, isi_int_list, isi_int_str, pt_str, isi_str_int, isi_str_bool, isi_str_tuple, isi_str_list, isi_str_str, pt_tup, isi_tup_int, isi_tup_bool, isi_tup_tuple, isi_tup_list, isi_tup_str, pt_lst, isi_lst_int, isi_lst_bool, isi_lst_tuple, isi_lst_list, isi_lst_str, Br_true, Br_false, Br_dec, Br_not, tt_imp, List.map_cons, List.map_nil, List.cons_append, List.nil_append, List.replicate_succ, List.replicate_zero, List.getElem?_cons_zero, List.getElem?_cons_succ, List.set_nil, List.set_cons_zero, List.set_cons_succ, List.length_cons, List.length_nil, Bool.not_true, Bool.not_false, decide_eq_true_eq, not_true_eq_false, not_false_eq_true, true_and, and_true])
/-! ### the law's own reckoning of polynomials -/
def c_l_product : DFn := fun ds st Kf => ∃ b l c m, ds = [rD b l, rD c m] ∧ l.length ≤ 1000 ∧ m.length ≤ 1000 ∧ ProdOk l m ∧ Kf (.v (.tup (nqs (trim (prodL l m))))) st
def c_l_sum : DFn := fun ds st Kf => ∃ b l c m, ds = [rD b l, rD c m] ∧ l.length ≤ 1000 ∧ m.length ≤ 1000 ∧ AllSq l ∧ AllSq m ∧ Kf (.v (.tup (nqs (trim (zipL (· + ·) l m))))) st
def c_l_scaled : DFn := fun ds st Kf => ∃ b l x, ds = [rD b l, nq x] ∧ l.length ≤ 1000 ∧ AllSq l ∧ Sq x ∧ Kf (.v (.tup (nqs (trim (l.map fun a => a * x))))) st
def b_l_product : DSv := (dSeq (dSetO 2 (d2O fRepO (asV (dLst (dCons (dTup (dCons (dC (.int 0)) (dCons (dC (.int 1)) dNil))) dNil))) (dCB fMax2 (dCons (dC (.int 0)) (dCons (d2 fSub (d2 fAdd (dCB fLen (dCons (dVar 0) dNil)) (dCB fLen (dCons (dVar 1) dNil))) (dC (.int 1))) dNil)))))
  (dSeq (dFor (iEnum (dCons (dVar 0) dNil)) (aTup 2 (aCons (aName 3) (aCons (aName 4) aNil))) (dFor (iEnum (dCons (dVar 1) dNil)) (aTup 2 (aCons (aName 5) (aCons (aName 6) aNil))) (dSub 2 (dFn c_l_plus (lenIs 2 (dCons (dIxO 2 (d2 fAdd (dVar 3) (dVar 5))) (dCons (dFn c_l_times (lenIs 2 (dCons (dVar 4) (dCons (dVar 6) dNil)))) dNil)))) (d2 fAdd (dVar 3) (dVar 5)))))
  (dRet (dFn c_l_trimmed (lenIs 1 (dCons (dFrz 2) dNil))))))
def b_l_sum : DSv := (dSeq (dSetO 2 (dLst dNil))
  (dSeq (dFor (iRange1 (dCons (dCB fMax2 (dCons (dCB fLen (dCons (dVar 0) dNil)) (dCons (dCB fLen (dCons (dVar 1) dNil)) dNil))) dNil)) (aName 3) (dSeq (dSet 4 (dIf (dB (d2 fLt (dVar 3) (dCB fLen (dCons (dVar 0) dNil)))) (d2 fIx (dVar 0) (dVar 3)) (dTup (dCons (dC (.int 0)) (dCons (dC (.int 1)) dNil)))))
  (dSeq (dSet 5 (dIf (dB (d2 fLt (dVar 3) (dCB fLen (dCons (dVar 1) dNil)))) (d2 fIx (dVar 1) (dVar 3)) (dTup (dCons (dC (.int 0)) (dCons (dC (.int 1)) dNil)))))
  (dApp 2 (dFn c_l_plus (lenIs 2 (dCons (dVar 4) (dCons (dVar 5) dNil))))))))
  (dRet (dFn c_l_trimmed (lenIs 1 (dCons (dFrz 2) dNil))))))
def b_l_scaled : DSv := (dRet (dFn c_l_trimmed (lenIs 1 (dCons (asV (dLc (iSeq (dVar 0)) (aName 2) dYes (dFn c_l_times (lenIs 2 (dCons (dVar 2) (dCons (dVar 1) dNil)))) [2])) dNil))))
theorem d_l_scaled (args : List D) (st : Stt) (Kf : Sl → Stt → Prop) (hl : args.length = 2) (q : c_l_scaled args st Kf) : b_l_scaled (ends Kf) (startD 1 args, st) := by
  obtain ⟨b, l, x, rfl, h1, s1, sx, q⟩ := q
  unfold b_l_scaled
  walk_at "dn"
  refine lc_map (fun a => a * x) l [] st (fun a ha Kd k => ?_) (by simp; omega) ?_
  · walk_at "dn"
    exact ⟨s1 a ha, sx, k _ rfl⟩
  · exact ⟨false, _, rfl, q⟩
theorem d_l_sum (args : List D) (st : Stt) (Kf : Sl → Stt → Prop) (hl : args.length = 2) (q : c_l_sum args st Kf) : b_l_sum (ends Kf) (startD 4 args, st) := by
  obtain ⟨b, l, c, m, rfl, h1, h2, s1, s2, q⟩ := q
  unfold b_l_sum
  walk_at "dn"
  have em : (if (m.length : Int) > l.length then (m.length : Int) else l.length) = ((max l.length m.length : Nat) : Int) := by split <;> omega
  rw [em]
  refine ⟨by decide, by omega, by omega, ?_⟩
  rw [show (((max l.length m.length : Nat) : Int)).toNat = max l.length m.length by omega]
  refine for_rng_ix (fun i ρ => ∃ x y z, ρ = ([some (.v (rD b l)), some (.v (rD c m)), some (.own (nqs ((List.range' 0 i).map fun i => l.getD i 0 + m.getD i 0))), x, y, z], st)) ?_ ?_ _ ⟨none, none, none, rfl⟩
  · rintro ρ ⟨x, y, z, rfl⟩
    walk_at "dn"
    exact ⟨false, _, rfl, q⟩
  · rintro i ρ nx hi ⟨x, y, z, rfl⟩ k
    walk_at "d1"
    have pick : ∀ (b : Bool) (l : List Rat) (K : D → Prop), K (nq (l.getD i 0)) → ((0 : Int) + (i : Nat) < l.length → fIx (rD b l) (.int (0 + (i : Nat))) K) ∧ (¬ (0 : Int) + (i : Nat) < l.length → 0 + 1 + 1 ≤ 1000000 ∧ K (.tup [.int 0, .int 1])) := fun b l K k => by
      refine ⟨fun h => ?_, fun h => ⟨by decide, ?_⟩⟩
      · rw [fIx_in (by omega) (by omega), show ((0 : Int) + (i : Nat)).toNat = i by omega]; exact k
      · rw [getD_out (by omega)] at k; exact k
    refine seq_by (fun ρ => ρ = ([some (.v (rD b l)), some (.v (rD c m)), some (.own (nqs ((List.range' 0 i).map fun i => l.getD i 0 + m.getD i 0))), some (.v (.int (0 + (i : Nat)))), some (.v (nq (l.getD i 0))), z], st)) (fun nx' hnx => ?_) ?_
    · walk_at "dn"
      exact pick b l _ (hnx _ rfl)
    rintro ρ rfl
    refine seq_by (fun ρ => ρ = ([some (.v (rD b l)), some (.v (rD c m)), some (.own (nqs ((List.range' 0 i).map fun i => l.getD i 0 + m.getD i 0))), some (.v (.int (0 + (i : Nat)))), some (.v (nq (l.getD i 0))), some (.v (nq (m.getD i 0)))], st)) (fun nx' hnx => ?_) ?_
    · walk_at "dn"
      exact pick c m _ (hnx _ rfl)
    rintro ρ rfl
    walk_at "dn"
    rw [nqs_one, nqs_app]
    refine ⟨s1.at i, s2.at i, by simp; omega, k _ ⟨some (.v (.int (0 + (i : Nat)))), some (.v (nq (l.getD i 0))), some (.v (nq (m.getD i 0))), ?_⟩⟩
    rw [List.range'_concat, List.map_append]
    simp
theorem d_l_product (args : List D) (st : Stt) (Kf : Sl → Stt → Prop) (hl : args.length = 2) (q : c_l_product args st Kf) : b_l_product (ends Kf) (startD 5 args, st) := by
  obtain ⟨b, l, c, m, rfl, h1, h2, ok, q⟩ := q
  unfold b_l_product
  walk_at "dn"
  have em : (if (l.length : Int) + m.length - 1 > 0 then (l.length : Int) + m.length - 1 else 0) = ((l.length + m.length - 1 : Nat) : Int) := by split <;> omega
  rw [em, rep_one, show D.tup [.int 0, .int 1] = nq 0 from rfl, nqs_rep]
  have e0 : List.replicate (((l.length + m.length - 1 : Nat) : Int).toNat) (0 : Rat) = (List.range' 0 (l.length + m.length - 1)).map (cv l m 0) := by
    rw [show (((l.length + m.length - 1 : Nat) : Int).toNat) = l.length + m.length - 1 by omega]
    refine List.ext_getElem (by simp) fun i h1 h2 => ?_
    simp [cv]
  rw [e0]
  refine ⟨by decide, by decide, by omega, by omega, (show _ ≤ _ by omega), ?_⟩
  refine for_num_ix (fun i ρ => ∃ w x y z, ρ = ([some (.v (rD b l)), some (.v (rD c m)), some (.own (nqs ((List.range' 0 (l.length + m.length - 1)).map (cv l m i)))), w, x, y, z], st)) ?_ ?_ _ ⟨none, none, none, none, rfl⟩
  · rintro ρ ⟨w, x, y, z, rfl⟩
    walk_at "dn"
    exact ⟨false, _, rfl, q⟩
  rintro i ρ nx hi ⟨w, x, y, z, rfl⟩ k
  walk_at "dn"
  rw [map_congr (f := cv l m i) (g := cvj l m i 0) fun k _ => (cvj_zero l m i k).symm]
  refine for_num_ix (fun j ρ => ∃ y z, ρ = ([some (.v (rD b l)), some (.v (rD c m)), some (.own (nqs ((List.range' 0 (l.length + m.length - 1)).map (cvj l m i j)))), some (.v (.int (i : Nat))), some (.v (nq (l.getD i 0))), y, z], st)) ?_ ?_ _ ⟨y, z, rfl⟩
  · rintro ρ ⟨y, z, rfl⟩
    rw [map_congr (g := cv l m (i + 1)) fun k _ => cvj_all l m i k]
    exact k _ ⟨_, _, y, z, rfl⟩
  rintro j ρ nx' hj ⟨y, z, rfl⟩ k'
  walk_at "dn"
  have hp : i + j < l.length + m.length - 1 := by omega
  rw [atI_in (by omega) (by simp; omega), show ((i : Int) + (j : Nat)).toNat = i + j by omega, rng_getD hp]
  have e1 : cvj l m i j (i + j) = cv l m i (i + j) := by unfold cvj; rw [if_neg (by omega)]
  have e2 : cv l m i (i + j) + l.getD i 0 * m.getD j 0 = cv l m (i + 1) (i + j) := by
    show _ = cv l m i (i + j) + if i ≤ i + j then _ else _
    rw [if_pos (by omega), show i + j - i = j by omega]
  rw [e1]
  walk_at "dn"
  rw [e2]
  have ei : ixN ((List.range' 0 (l.length + m.length - 1)).map (cvj l m i j)).length ((i : Int) + (j : Nat)) = some (i + j) := by
    unfold ixN
    rw [if_pos (by omega), if_pos (by simp; omega)]
    simp; omega
  rw [ei]
  refine ⟨ok.sl.at i, ok.sm.at j, ok.cv i _ (by omega), ok.mul i j, ?_⟩
  show nx' _
  rw [nqs_set, map_set]
  refine k' _ ⟨some (.v (.int (j : Nat))), some (.v (nq (m.getD j 0))), ?_⟩
  rw [map_congr (g := cvj l m i (j + 1)) fun k hk => ?_]
  unfold cvj
  by_cases h3 : k = i + j
  · subst h3
    rw [if_pos rfl, if_pos (by omega)]
  · rw [if_neg h3]
    by_cases h4 : i ≤ k ∧ k - i < j
    · rw [if_pos h4, if_pos (by omega)]
    · rw [if_neg h4, if_neg (by omega)]
end DL
namespace DL
open PySem PySem.Spec PyProof.Rows L2
def lessC : DFn := fun ds st Kf => ∃ b l c m, ds = [rD b l, rD c m] ∧ l.length ≤ 1000 ∧ m.length ≤ 1000 ∧ AllSq l ∧ AllSq m ∧ Kf (.v (.tup (nqs (trim (zipL (· - ·) l m))))) st
def c_poly_sum : DFn := c_l_sum
def c_poly_less : DFn := lessC
def c_poly_product : DFn := c_l_product
def c_value_at : DFn := fun ds st Kf => ∃ b l x, ds = [rD b l, nq x] ∧ l.length ≤ 1000 ∧ ValOk x l ∧ Kf (.v (nq (valH x l))) st
local macro_rules | `(tactic| walk_at "dl") => `(tactic| simp -implicitDefEqProofs only [dSeq, dNext, dIfS, dB, dNot, dAnd, dOr, d2, fLt, fLe, fGt, fGe, fEqI, fNeI, fEqB, fNeB, fEqS, fNeS, fIsN_non, fNotN_non, fIsB, fNotB, fSub, fMul, fDiv, fDivE, fMod, fPow, fI, fI0, asI_int, asB_bl, asT_tup, asL_lst, asQ_tup, asQ_lst, asS_str, as1_one, as2_two, frz_v, frz_own, fAdd_int, fAdd_tup, fAdd_lst, fIx_tup0, fIx_tup1, fIx_lst0, fIx_lst1, fLen_tup, fLen_lst, fInt_bl, fTuple_tup, fTuple_lst, isN_int, isN_tup, isN_lst, isN_bl, isN_str, isN_non, dVar, dC, dNeg, dSet, dSetO, dPar, dAsg, dAug, dRet, dRetO, dRetV, dRetN, dTup, dCons, dNil, dFn, dFnO, lenIs, dCB, fAbs, fMax2, fMin2, dIsi, dAndV, dOrV, dNotV, dIf, dFor, iSeq, iRange1, iRange2, iZip, aName, aTup, aCons, aNil, dLc, dYes, dLitO, noOwn, wipeE, ends, startD, setV, setO, ownAt, asV, dLst, dListO, dLenO, dTupO, dFrz, dApp, dPop, dClear, dSub, dIxO, d2O, fCatO, fRepO, pt_non, isi_non_int, isi_non_bool, isi_non_tuple, isi_non_list, isi_non_str, pt_bl, isi_bl_int, isi_bl_bool, isi_bl_tuple, isi_bl_list, isi_bl_str, pt_int, isi_int_int, isi_int_bool, isi_int_tuple, isi_int_list, isi_int_str, pt_str, isi_str_int, isi_str_bool, isi_str_tuple, isi_str_list, isi_str_str, pt_tup, isi_tup_int, isi_tup_bool, isi_tup_tuple, isi_tup_list, isi_tup_str, pt_lst, isi_lst_int, isi_lst_bool, isi_lst_tuple, isi_lst_list, isi_lst_str, Br_true, Br_false, Br_dec, Br_not, tt_imp, List.map_cons, List.map_nil, List.cons_append, List.nil_append, List.replicate_succ, List.replicate_zero, List.getElem?_cons_zero, List.getElem?_cons_succ, List.set_nil, List.set_cons_zero, List.set_cons_succ, List.length_cons, List.length_nil, Bool.not_true, Bool.not_false, decide_eq_true_eq, not_true_eq_false, not_false_eq_true, true_and, and_true])
local macro_rules | `(tactic| walk_at "d1") => `(tactic| simp -implicitDefEqProofs only [aName, setV, setO, List.set_cons_zero, List.set_cons_succ])
local macro_rules | `(tactic| walk_at "dn") => `(tactic| simp -implicitDefEqProofs only [fIx_nq0, fIx_nq1, asN_nq, num_e, part_e, same_e, nn_e2, over_e, l_over_e, c_plus, c_minus, c_times, c_before, c_l_plus, c_l_minus, c_l_times, num_eq, num_lt0, sub_lt0, due_nq, asR_r, asR_t, asR_l, asQ_r, fLen_r, fTuple_r, pt_r, asT1_t, okD_nq, okD_lst, okD_tup, okD_nil, okD_nilt, eqD_nq, eqD_lst, eqD_tup, eqD_nil, eqD_nilt, nqs_len, dCmpO, eqB, neB, dMeth, dChain, iEnum, iRev, iRange3, as3_three, dBor, dCatO, fl_bl, fEqD, fNeD, c_Exact_nought, c_Exact_one, c_Exact_plus, c_Exact_minus, c_Exact_times, c_Exact_over, c_Exact_is_nought, List.tail_cons, D.ins.injEq, exists_eq', exists_and_left, and_true, true_and, dSl, dPn, dPs, fSl_lst, fSl_tup, dSeq, dNext, dIfS, dB, dNot, dAnd, dOr, d2, fLt, fLe, fGt, fGe, fEqI, fNeI, fEqB, fNeB, fEqS, fNeS, fIsN_non, fNotN_non, fIsB, fNotB, fSub, fMul, fDiv, fDivE, fMod, fPow, fI, fI0, asI_int, asB_bl, asT_tup, asL_lst, asQ_tup, asQ_lst, asS_str, as1_one, as2_two, frz_v, frz_own, fAdd_int, fAdd_tup, fAdd_lst, fIx_tup0, fIx_tup1, fIx_lst0, fIx_lst1, fLen_tup, fLen_lst, fInt_bl, fTuple_tup, fTuple_lst, isN_int, isN_tup, isN_lst, isN_bl, isN_str, isN_non, dVar, dC, dNeg, dSet, dSetO, dPar, dAsg, dAug, dRet, dRetO, dRetV, dRetN, dTup, dCons, dNil, dFn, dFnO, lenIs, dCB, fAbs, fMax2, fMin2, dIsi, dAndV, dOrV, dNotV, dIf, dFor, iSeq, iRange1, iRange2, iZip, aName, aTup, aCons, aNil, dLc, dYes, dLitO, noOwn, wipeE, ends, startD, setV, setO, ownAt, asV, dLst, dListO, dLenO, dTupO, dFrz, dApp, dPop, dClear, dSub, dIxO, d2O, fCatO, fRepO, pt_non, isi_non_int, isi_non_bool, isi_non_tuple, isi_non_list, isi_non_str, pt_bl, isi_bl_int, isi_bl_bool, isi_bl_tuple, isi_bl_list, isi_bl_str, pt_int, isi_int_int, isi_int_bool, isi_int_tuple, isi_int_list, isi_int_str, pt_str, isi_str_int, isi_str_bool, isi_str_tuple, isi_str_list, isi_str_str, pt_tup, isi_tup_int, isi_tup_bool, isi_tup_tuple, isi_tup_list, isi_tup_str, pt_lst, isi_lst_int, isi_lst_bool, isi_lst_tuple, isi_lst_list, isi_lst_str, Br_true, Br_false, Br_dec, Br_not, tt_imp, List.map_cons, List.map_nil, List.cons_append, List.nil_append, List.replicate_succ, List.replicate_zero, List.getElem?_cons_zero, List.getElem?_cons_succ, List.set_nil, List.set_cons_zero, List.set_cons_succ, List.length_cons, List.length_nil, Bool.not_true, Bool.not_false, decide_eq_true_eq, not_true_eq_false, not_false_eq_true, true_and, and_true])
def b_l_at : DSv := (dSeq (dSet 2 (dTup (dCons (dC (.int 0)) (dCons (dC (.int 1)) dNil))))
  (dSeq (dSet 3 (dTup (dCons (dC (.int 1)) (dCons (dC (.int 1)) dNil))))
  (dSeq (dFor (iSeq (dVar 0)) (aName 4) (dSeq (dSet 2 (dFn c_l_plus (lenIs 2 (dCons (dVar 2) (dCons (dFn c_l_times (lenIs 2 (dCons (dVar 4) (dCons (dVar 3) dNil)))) dNil)))))
  (dSet 3 (dFn c_l_times (lenIs 2 (dCons (dVar 3) (dCons (dVar 1) dNil)))))))
  (dRet (dVar 2)))))
def b_poly_sum : DSv := (dRet (dFn c_sum_by (lenIs 3 (dCons (dC (.ins 0 none)) (dCons (dVar 0) (dCons (dVar 1) dNil))))))
def b_poly_less : DSv := (dRet (dFn c_less_by (lenIs 3 (dCons (dC (.ins 0 none)) (dCons (dVar 0) (dCons (dVar 1) dNil))))))
def b_poly_product : DSv := (dRet (dFn c_product_by (lenIs 3 (dCons (dC (.ins 0 none)) (dCons (dVar 0) (dCons (dVar 1) dNil))))))
def b_value_at : DSv := (dRet (dFn c_value_by (lenIs 3 (dCons (dC (.ins 0 none)) (dCons (dVar 0) (dCons (dVar 1) dNil))))))
theorem d_poly_sum (args : List D) (st : Stt) (Kf : Sl → Stt → Prop) (hl : args.length = 2) (q : c_poly_sum args st Kf) : b_poly_sum (ends Kf) (startD 0 args, st) := by
  obtain ⟨b, l, c, m, rfl, h1, h2, s1, s2, q⟩ := q
  unfold b_poly_sum
  walk_at "dn"
  exact ⟨b, l, c, m, rfl, h1, h2, s1, s2, q⟩
theorem d_poly_less (args : List D) (st : Stt) (Kf : Sl → Stt → Prop) (hl : args.length = 2) (q : c_poly_less args st Kf) : b_poly_less (ends Kf) (startD 0 args, st) := by
  obtain ⟨b, l, c, m, rfl, h1, h2, s1, s2, q⟩ := q
  unfold b_poly_less
  walk_at "dn"
  exact ⟨b, l, c, m, rfl, h1, h2, s1, s2, q⟩
theorem d_poly_product (args : List D) (st : Stt) (Kf : Sl → Stt → Prop) (hl : args.length = 2) (q : c_poly_product args st Kf) : b_poly_product (ends Kf) (startD 0 args, st) := by
  obtain ⟨b, l, c, m, rfl, h1, h2, ok, q⟩ := q
  unfold b_poly_product
  walk_at "dn"
  exact ⟨b, l, c, m, rfl, h1, h2, ok, q⟩
theorem d_value_at (args : List D) (st : Stt) (Kf : Sl → Stt → Prop) (hl : args.length = 2) (q : c_value_at args st Kf) : b_value_at (ends Kf) (startD 0 args, st) := by
  obtain ⟨b, l, x, rfl, h1, ok, q⟩ := q
  unfold b_value_at
  walk_at "dn"
  exact ⟨b, l, x, rfl, h1, ok, q⟩
/-! ### the value by powers -/
def atL (x : Rat) : List Rat → Rat → Rat → Rat
  | [], t, _ => t
  | a :: l, t, p => atL x l (t + a * p) (p * x)
theorem atL_val (x : Rat) : ∀ (l : List Rat) (t p : Rat), atL x l t p = t + p * valH x l
  | [], t, p => by show t = t + p * 0; rw [Rat.mul_zero, Rat.add_zero]
  | a :: l, t, p => by
    show atL x l (t + a * p) (p * x) = t + p * (valH x l * x + a)
    rw [atL_val x l]
    grind
/-- its reckoning stays in bounds -/
def atOk (x : Rat) : List Rat → Rat → Rat → Prop
  | [], _, _ => True
  | a :: l, t, p => Sq t ∧ Sq a ∧ Sq p ∧ Sq x ∧ Sq (a * p) ∧ atOk x l (t + a * p) (p * x)
def c_l_at : DFn := fun ds st Kf => ∃ b l x, ds = [rD b l, nq x] ∧ l.length ≤ 1000 ∧ atOk x l 0 1 ∧ Kf (.v (nq (atL x l 0 1))) st
theorem d_l_at (args : List D) (st : Stt) (Kf : Sl → Stt → Prop) (hl : args.length = 2) (q : c_l_at args st Kf) : b_l_at (ends Kf) (startD 3 args, st) := by
  obtain ⟨b, l, x, rfl, h1, ok, q⟩ := q
  unfold b_l_at
  walk_at "dn"
  refine ⟨by decide, by decide, ?_⟩
  show forD _ _ _ (nqs l) ([some (Sl.v (rD b l)), some (Sl.v (nq x)), some (Sl.v (nq 0)), some (Sl.v (nq 1)), none], st)
  refine for_ind (fun m ρ => ∃ k t p y, ρ = ([some (.v (rD b l)), some (.v (nq x)), some (.v (nq t)), some (.v (nq p)), y], st) ∧ m = nqs k ∧ atL x k t p = atL x l 0 1 ∧ atOk x k t p) ?_ ?_ _ _ ⟨l, 0, 1, none, rfl, rfl, rfl, ok⟩
  · rintro ρ ⟨k, t, p, y, rfl, hk, e, _⟩
    cases k with
    | cons a k => cases hk
    | nil => rw [← e] at q; exact q
  · rintro d m ρ ⟨k, t, p, y, rfl, hk, e, ok⟩ ih
    cases k with
    | nil => cases hk
    | cons a k =>
      rw [nqs_cons] at hk
      injection hk with hk1 hk2
      subst hk1 hk2
      obtain ⟨o1, o2, o3, o4, o5, o6⟩ := ok
      walk_at "dn"
      exact ⟨o2, o3, o1, o5, o3, o4, ih _ ⟨k, _, _, _, rfl, rfl, e, o6⟩⟩
/-! ### bounds -/
theorem atOk.crude {x : Rat} {X R : Nat} (hx : BQ X x) : ∀ (l : List Rat) (t p : Rat) (T P : Nat), AllBQ R l → BQ T t → BQ P p → T + l.length * (R + P + X * l.length + 2) ≤ 30000000 → X ≤ 30000000 → atOk x l t p
  | [], _, _, _, _, _, _, _, _, _ => trivial
  | a :: l, t, p, T, P, hR, ht, hp, h, hX => by
    have ha := hR a List.mem_cons_self
    have e : (a :: l).length = l.length + 1 := rfl
    rw [e, Nat.add_mul] at h
    have hm : X * (l.length + 1) = X * l.length + X := by rw [Nat.mul_add, Nat.mul_one]
    have h1 : l.length * (R + (P + X) + X * l.length + 2) ≤ l.length * (R + P + X * (l.length + 1) + 2) := Nat.mul_le_mul_left _ (by omega)
    have hap := ha.mul hp
    exact ⟨ht.mono (by omega), ha.mono (by omega), hp.mono (by omega), hx.mono (by omega), hap.mono (by omega), atOk.crude hx l (t + a * p) (p * x) (T + (R + P) + 1) (P + X) (fun y hy => hR y (List.mem_cons_of_mem _ hy)) (ht.add hap) (hp.mul hx) (by omega) hX⟩
theorem valH_bq {x : Rat} {X R : Nat} (hx : BQ X x) : ∀ l : List Rat, AllBQ R l → BQ (1 + l.length * (X + R + 1)) (valH x l)
  | [], _ => BQ0 (Nat.le_add_right _ _)
  | a :: l, h => by
    have ih := valH_bq hx l fun y hy => h y (List.mem_cons_of_mem _ hy)
    refine ((ih.mul hx).add (h a List.mem_cons_self)).mono ?_
    rw [show (a :: l).length = l.length + 1 from rfl, Nat.add_mul]
    omega
theorem ValOk.crude {x : Rat} {X R : Nat} {l : List Rat} (hx : BQ X x) (hR : AllBQ R l) (h : X + R + 1 + (1 + l.length * (X + R + 1)) ≤ 60000000) : ValOk x l := by
  have k : ∀ i, BQ (1 + l.length * (X + R + 1)) (valH x (l.drop i)) := fun i => (valH_bq hx (l.drop i) fun y hy => hR y (List.mem_of_mem_drop hy)).mono (by
    have := Nat.mul_le_mul_right (X + R + 1) (show (l.drop i).length ≤ l.length by simp)
    omega)
  exact ⟨hx.mono (by omega), hR.sq (by omega), fun i => (k i).mono (by omega), fun i => ((k i).mul hx).mono (by omega)⟩
theorem cv_bq {l m : List Rat} {a b : Nat} (hl : AllBQ a l) (hm : AllBQ b m) (a1 : 1 ≤ a) (b1 : 1 ≤ b) : ∀ i k, BQ (1 + i * (a + b + 1)) (cv l m i k)
  | 0, _ => BQ0 (by omega)
  | i + 1, k => by
    have ih := cv_bq hl hm a1 b1 i k
    show BQ _ (cv l m i k + if i ≤ k then _ else _)
    have e : (i + 1) * (a + b + 1) = i * (a + b + 1) + (a + b + 1) := by rw [Nat.add_mul, Nat.one_mul]
    split
    · exact (ih.add ((getD_all hl (BQ0 a1) i).mul (getD_all hm (BQ0 b1) (k - i)))).mono (by omega)
    · exact (ih.add (BQ0 (k := 1) (by decide))).mono (by omega)
theorem ProdOk.crude {l m : List Rat} {a b : Nat} (hl : AllBQ a l) (hm : AllBQ b m) (a1 : 1 ≤ a) (b1 : 1 ≤ b) (h : a + b + (1 + l.length * (a + b + 1)) ≤ 60000000) : ProdOk l m :=
  ⟨hl.sq (by omega), hm.sq (by omega), fun i j => ((getD_all hl (BQ0 a1) i).mul (getD_all hm (BQ0 b1) j)).mono (by omega), fun i k hi => (cv_bq hl hm a1 b1 i k).mono (by
    have := Nat.mul_le_mul_right (a + b + 1) hi
    omega)⟩

/-! ### drawn polynomials -/
def c_l_poly : DFn := drawF 200 (fun ds => ∃ n, ds = [.stt, .int n] ∧ 0 ≤ n ∧ n ≤ 14) fun ds r => ∃ l : List Rat, r = .v (.tup (nqs l)) ∧ l.length ≤ 16 ∧ AllBQ 200 l ∧ trim l = l ∧ ∀ n : Int, ds = [.stt, .int n] → (l.length : Int) ≤ n + 1
def c_l_little : DFn := drawF 50 (fun ds => ∃ n, ds = [.stt, .int n] ∧ 0 ≤ n ∧ n ≤ 14) fun ds r => ∃ l : List Rat, r = .v (.tup (nqs l)) ∧ l.length ≤ 16 ∧ AllBQ 3 l ∧ trim l = l ∧ ∀ n : Int, ds = [.stt, .int n] → (l.length : Int) ≤ n + 1
def c_l_handed : DFn := fun ds st Kf => ∃ l, ds = [.stt, .tup (nqs l)] ∧ Good 1 st ∧ ∀ b r st', frz r = rD b l → Left 1 st st' → Kf r st'
def b_l_poly : DSv := (dSeq (dSet 2 (dFn c_l_take (lenIs 2 (dCons (dVar 0) (dCons (d2 fAdd (dVar 1) (dC (.int 2))) dNil)))))
  (dSeq (dSet 3 (asV (dLc (iRange1 (dCons (dCB fMax2 (dCons (dC (.int 0)) (dCons (d2 fSub (dVar 2) (dC (.int 1))) dNil))) dNil)) (aName 4) dYes (dIf (dB (d2 fGt (dFn c_l_take (lenIs 2 (dCons (dVar 0) (dCons (dC (.int 4)) dNil)))) (dC (.int 0)))) (dFn c_l_any_number (lenIs 1 (dCons (dVar 0) dNil))) (dTup (dCons (dC (.int 0)) (dCons (dC (.int 1)) dNil)))) [4])))
  (dRet (dCB fTuple (dCons (d2 fAdd (dVar 3) (asV (d2O fRepO (asV (dLst (dCons (dFn c_l_small (lenIs 1 (dCons (dVar 0) dNil))) dNil))) (dCB fInt (dCons (d2 fGt (dVar 2) (dC (.int 0))) dNil))))) dNil)))))
def b_l_little : DSv := (dSeq (dSet 2 (dFn c_l_take (lenIs 2 (dCons (dVar 0) (dCons (d2 fAdd (dVar 1) (dC (.int 2))) dNil)))))
  (dSeq (dSet 3 (asV (dLc (iRange1 (dCons (dCB fMax2 (dCons (dC (.int 0)) (dCons (d2 fSub (dVar 2) (dC (.int 1))) dNil))) dNil)) (aName 4) dYes (dTup (dCons (d2 fSub (dFn c_l_take (lenIs 2 (dCons (dVar 0) (dCons (dC (.int 7)) dNil)))) (dC (.int 3))) (dCons (dC (.int 1)) dNil))) [4])))
  (dRet (dFn c_l_trimmed (lenIs 1 (dCons (d2 fAdd (dVar 3) (asV (d2O fRepO (asV (dLst (dCons (dFn c_l_small (lenIs 1 (dCons (dVar 0) dNil))) dNil))) (dCB fInt (dCons (d2 fGt (dVar 2) (dC (.int 0))) dNil))))) dNil))))))
def b_l_handed : DSv := (dRet (dIf (dB (d2 fEqI (dFn c_l_take (lenIs 2 (dCons (dVar 0) (dCons (dC (.int 3)) dNil)))) (dC (.int 0)))) (asV (dListO (dCons (dVar 1) dNil))) (dVar 1)))
theorem arg2 {n n' : Int} (e : [D.stt, D.int n] = [D.stt, D.int n']) : n' = n := by
  injection e with _ e
  injection e with e _
  injection e with e
  exact e.symm
theorem d_l_poly (args : List D) (st : Stt) (Kf : Sl → Stt → Prop) (hl : args.length = 2) (q : c_l_poly args st Kf) : b_l_poly (ends Kf) (startD 3 args, st) := by
  obtain ⟨⟨n, rfl, n0, n1⟩, g, q⟩ := q
  unfold b_l_poly c_l_any_number c_l_small drawQ
  walk_at "dn"
  refine take_ok g (by omega) (by omega) (by omega) fun s s1 s0 s2 l1 g1 => ?_
  walk_at "dn"
  have hm : (if s - 1 > 0 then s - 1 else 0).toNat ≤ 15 := by split <;> omega
  refine ⟨by split <;> omega, by split <;> omega, lc_nums (m := 8) (k := 200) (by decide) (fun i st Kd g k => ?_) _ _ [] _ (g1.mono (by omega)) (by simp; omega) AllBQ.nil fun l s3 e3 a3 l3 => ?_⟩
  · walk_at "dn"
    refine take_ok g (by omega) (by omega) (by omega) fun w s2 w0 w1 l2 g2 => ?_
    walk_at "dn"
    refine ⟨fun _ => draw_ok rfl g2 (by omega) fun r s3 ⟨z, er, hz⟩ l3 g3 => ?_, fun _ => ⟨by decide, k 0 _ (BQ0 (by decide)) (l2.mono (by omega))⟩⟩
    subst er
    exact k z _ hz (l2.trans l3 |>.mono (by omega))
  have g3 := g1.left l3
  refine draw_ok rfl (g3.mono (k := 10) (by omega)) (by omega) fun r s4 ⟨y, er, hy, y0⟩ l4 g4 => ?_
  subst er
  walk_at "dn"
  have hk : (if 0 < s then (1 : Int) else 0).toNat ≤ 1 := by split <;> decide
  rw [rep_one, nqs_rep, nqs_app]
  simp only [List.length_nil, Nat.zero_add] at e3
  have ht : trim (l ++ List.replicate (if 0 < s then (1 : Int) else 0).toNat y) = l ++ List.replicate (if 0 < s then (1 : Int) else 0).toNat y := by
    by_cases h : 0 < s
    · rw [if_pos h]; exact trim_snoc y0
    · have : l = [] := List.eq_nil_of_length_eq_zero (by rw [e3, if_neg (by omega)]; rfl)
      rw [if_neg h, this]; rfl
  have hlen : ((l ++ List.replicate (if 0 < s then (1 : Int) else 0).toNat y).length : Int) ≤ n + 1 := by
    simp only [List.length_append, List.length_replicate, e3]
    split <;> split <;> omega
  refine ⟨by decide, by split <;> decide, by split <;> decide, (show _ ≤ _ by omega), by rw [nqs_len]; simp [e3]; omega, q _ _ ⟨_, rfl, by simp [e3]; omega, a3.app (AllBQ.rep (hy.mono (by decide))), ht, fun n' e => by rw [arg2 e]; exact hlen⟩ ((l1.trans l3).trans l4 |>.mono (by omega))⟩
theorem d_l_little (args : List D) (st : Stt) (Kf : Sl → Stt → Prop) (hl : args.length = 2) (q : c_l_little args st Kf) : b_l_little (ends Kf) (startD 3 args, st) := by
  obtain ⟨⟨n, rfl, n0, n1⟩, g, q⟩ := q
  unfold b_l_little c_l_small
  walk_at "dn"
  refine take_ok g (by omega) (by omega) (by omega) fun s s1 s0 s2 l1 g1 => ?_
  walk_at "dn"
  have hm : (if s - 1 > 0 then s - 1 else 0).toNat ≤ 15 := by split <;> omega
  refine ⟨by split <;> omega, by split <;> omega, lc_nums (m := 1) (k := 3) (by decide) (fun i st Kd g k => ?_) _ _ [] _ (g1.mono (by omega)) (by simp; omega) AllBQ.nil fun l s3 e3 a3 l3 => ?_⟩
  · walk_at "dn"
    refine take_ok g (by omega) (by omega) (by omega) fun w s2 w0 w1 l2 g2 => ?_
    walk_at "dn"
    exact ⟨by decide, k ((w - 3 : Int) : Rat) _ (BQ.int (by omega) (by decide)) (l2.mono (by omega))⟩
  have g3 := g1.left l3
  refine draw_ok rfl (g3.mono (k := 10) (by omega)) (by omega) fun r s4 ⟨y, er, hy, _⟩ l4 g4 => ?_
  subst er
  walk_at "dn"
  have hk : (if 0 < s then (1 : Int) else 0).toNat ≤ 1 := by split <;> decide
  rw [rep_one, nqs_rep, nqs_app]
  simp only [List.length_nil, Nat.zero_add] at e3
  have hlen : ((trim (l ++ List.replicate (if 0 < s then (1 : Int) else 0).toNat y)).length : Int) ≤ n + 1 := by
    have h1 := trim_len (l ++ List.replicate (if 0 < s then (1 : Int) else 0).toNat y)
    have h2 : ((l ++ List.replicate (if 0 < s then (1 : Int) else 0).toNat y).length : Int) ≤ n + 1 := by
      simp only [List.length_append, List.length_replicate, e3]
      split <;> split <;> omega
    omega
  refine ⟨by decide, by split <;> decide, by split <;> decide, (show _ ≤ _ by omega), by rw [nqs_len]; simp [e3]; omega, false, _, rfl, q _ _ ⟨_, rfl, Nat.le_trans (trim_len _) (by simp [e3]; omega), (a3.app (AllBQ.rep (hy.mono (by decide)))).trim, trim_trim _, fun n' e => by rw [arg2 e]; exact hlen⟩ ((l1.trans l3).trans l4 |>.mono (by omega))⟩
theorem d_l_handed (args : List D) (st : Stt) (Kf : Sl → Stt → Prop) (hl : args.length = 2) (q : c_l_handed args st Kf) : b_l_handed (ends Kf) (startD 0 args, st) := by
  obtain ⟨l, rfl, g, q⟩ := q
  unfold b_l_handed
  walk_at "dn"
  refine take_ok g (by omega) (by omega) (by omega) fun w s1 w0 w1 l1 g1 => ?_
  walk_at "dn"
  exact ⟨fun _ => q false _ _ rfl l1, fun _ => q true _ _ rfl l1⟩
end DL
namespace DL

/-- The sum of f 0 .. f (n-1). -/
def sm : Nat → (Nat → Rat) → Rat
  | 0, _ => 0
  | n+1, f => sm n f + f n

@[simp] theorem sm_zero (f : Nat → Rat) : sm 0 f = 0 := rfl
theorem sm_succ (n : Nat) (f : Nat → Rat) : sm (n+1) f = sm n f + f n := rfl

theorem sm_congr {n : Nat} {f g : Nat → Rat} (h : ∀ i, i < n → f i = g i) : sm n f = sm n g := by
  induction n with
  | zero => rfl
  | succ n ih =>
    rw [sm_succ, sm_succ, ih (fun i hi => h i (by omega)), h n (by omega)]

theorem sm_add (n : Nat) (f g : Nat → Rat) : sm n (fun i => f i + g i) = sm n f + sm n g := by
  induction n with
  | zero => simp only [sm_zero]; grind
  | succ n ih => rw [sm_succ, sm_succ, sm_succ, ih]; grind

theorem sm_mul (n : Nat) (c : Rat) (f : Nat → Rat) : sm n (fun i => c * f i) = c * sm n f := by
  induction n with
  | zero => simp only [sm_zero]; grind
  | succ n ih => rw [sm_succ, sm_succ, ih]; grind

theorem sm_mul' (n : Nat) (c : Rat) (f : Nat → Rat) : sm n (fun i => f i * c) = sm n f * c := by
  induction n with
  | zero => simp only [sm_zero]; grind
  | succ n ih => rw [sm_succ, sm_succ, ih]; grind

theorem sm_0 (n : Nat) {f : Nat → Rat} (h : ∀ i, i < n → f i = 0) : sm n f = 0 := by
  induction n with
  | zero => rfl
  | succ n ih => rw [sm_succ, ih (fun i hi => h i (by omega)), h n (by omega)]; grind

theorem sm_front (n : Nat) (f : Nat → Rat) : sm (n+1) f = f 0 + sm n (fun i => f (i+1)) := by
  induction n with
  | zero => simp only [sm_succ, sm_zero]; grind
  | succ n ih => rw [sm_succ, ih, sm_succ]; grind

theorem sm_rev (n : Nat) (f : Nat → Rat) : sm (n+1) (fun i => f (n - i)) = sm (n+1) f := by
  induction n generalizing f with
  | zero => rfl
  | succ n ih =>
    rw [sm_front (n+1) f, ← ih (fun i => f (i+1)), sm_front (n+1)]
    have e : sm (n+1) (fun i => f (n+1 - (i+1))) = sm (n+1) (fun i => f (n - i)) :=
      sm_congr fun i hi => by congr 1; omega
    have e2 : sm (n+1) (fun i => f (n - i + 1)) = sm (n+1) (fun i => f (n + 1 - i)) :=
      sm_congr fun i hi => by congr 1; omega
    have e3 : sm (n+1) (fun i => f (n - i)) = sm n (fun i => f (n + 1 - (i+1))) + f 0 := by
      rw [sm_succ]
      have : sm n (fun i => f (n-i)) = sm n (fun i => f (n + 1 - (i+1))) :=
        sm_congr fun i hi => by congr 1; omega
      rw [this, Nat.sub_self]
    have e4 : sm (n+1) (fun i => f (n+1 - i)) = f (n + 1 - 0) + sm n (fun i => f (n + 1 - (i+1))) := sm_front n (fun i => f (n+1-i))
    rw [e, e2, e4, e3]
    grind

theorem sm_tri (n : Nat) (F : Nat → Nat → Rat) :
    sm n (fun i => sm (i+1) (fun j => F i j)) = sm n (fun j => sm (n - j) (fun i => F (i+j) j)) := by
  induction n with
  | zero => rfl
  | succ n ih =>
    rw [sm_succ, ih]
    have e : sm (n+1) (fun j => sm (n+1-j) (fun i => F (i+j) j))
        = sm (n+1) (fun j => sm (n-j) (fun i => F (i+j) j) + F n j) := by
      apply sm_congr
      intro j hj
      have : n + 1 - j = (n - j) + 1 := by omega
      rw [this, sm_succ]
      congr 2
      omega
    rw [e, sm_add, sm_succ n (fun j => sm (n-j) (fun i => F (i+j) j)), Nat.sub_self, sm_zero]
    grind

/-- A power series. -/
structure PS where
  co : Nat → Rat

theorem PS.ext {a b : PS} (h : ∀ k, a.co k = b.co k) : a = b := by
  cases a; cases b; congr 1; funext k; exact h k

namespace PS

def C (q : Rat) : PS := ⟨fun k => if k = 0 then q else 0⟩
instance : Add PS := ⟨fun a b => ⟨fun k => a.co k + b.co k⟩⟩
instance : Sub PS := ⟨fun a b => ⟨fun k => a.co k - b.co k⟩⟩
instance : Neg PS := ⟨fun a => ⟨fun k => - a.co k⟩⟩
instance : Mul PS := ⟨fun a b => ⟨fun k => sm (k+1) fun i => a.co i * b.co (k - i)⟩⟩
instance : NatCast PS := ⟨fun n => C (n : Rat)⟩
instance : IntCast PS := ⟨fun n => C (n : Rat)⟩
instance (n : Nat) : OfNat PS n := ⟨C (n : Rat)⟩
instance : SMul Nat PS := ⟨fun n f => C (n : Rat) * f⟩
instance : SMul Int PS := ⟨fun n f => C (n : Rat) * f⟩
def pow (f : PS) : Nat → PS
  | 0 => C ((1 : Nat) : Rat)
  | n+1 => pow f n * f
instance : HPow PS Nat PS := ⟨pow⟩

theorem co_add (a b : PS) (k : Nat) : (a + b).co k = a.co k + b.co k := rfl
theorem co_sub (a b : PS) (k : Nat) : (a - b).co k = a.co k - b.co k := rfl
theorem co_neg (a : PS) (k : Nat) : (-a).co k = - a.co k := rfl
theorem co_mul (a b : PS) (k : Nat) : (a * b).co k = sm (k+1) fun i => a.co i * b.co (k - i) := rfl
theorem co_C (q : Rat) (k : Nat) : (C q).co k = if k = 0 then q else 0 := rfl
theorem co_zero (k : Nat) : (0 : PS).co k = 0 := by
  show (C ((0 : Nat) : Rat)).co k = 0
  rw [co_C]; split <;> rfl
theorem co_one (k : Nat) : (1 : PS).co k = if k = 0 then 1 else 0 := rfl

theorem co_Cmul (q : Rat) (a : PS) (k : Nat) : (C q * a).co k = q * a.co k := by
  rw [co_mul, sm_front, sm_0 k (fun i hi => by rw [co_C, if_neg (by omega)]; grind), co_C]
  simp only [if_true, Nat.sub_zero]
  grind

theorem mul_comm' (a b : PS) : a * b = b * a := by
  apply PS.ext; intro k
  rw [co_mul, co_mul, ← sm_rev]
  apply sm_congr; intro i hi
  show a.co (k - i) * b.co (k - (k - i)) = _
  have : k - (k - i) = i := by omega
  rw [this]; grind

theorem mul_assoc' (a b c : PS) : a * b * c = a * (b * c) := by
  apply PS.ext; intro k
  rw [co_mul, co_mul]
  have e : sm (k+1) (fun i => (a * b).co i * c.co (k - i))
      = sm (k+1) (fun i => sm (i+1) (fun j => a.co j * b.co (i - j) * c.co (k - i))) := by
    apply sm_congr; intro i hi
    rw [co_mul, sm_mul']
  rw [e, sm_tri (k+1) (fun i j => a.co j * b.co (i - j) * c.co (k - i))]
  apply sm_congr; intro j hj
  rw [co_mul, ← sm_mul]
  have : k + 1 - j = k - j + 1 := by omega
  rw [this]
  apply sm_congr; intro i hi
  have e1 : i + j - j = i := by omega
  have e2 : k - (i + j) = k - j - i := by omega
  rw [e1, e2]; grind

theorem one_mul' (a : PS) : 1 * a = a := by
  apply PS.ext; intro k
  show (C ((1 : Nat) : Rat) * a).co k = _
  rw [co_Cmul]
  show (1 : Rat) * _ = _
  grind

instance : Lean.Grind.CommRing PS where
  add_zero a := by apply PS.ext; intro k; rw [co_add, co_zero]; grind
  add_comm a b := by apply PS.ext; intro k; rw [co_add, co_add]; grind
  add_assoc a b c := by apply PS.ext; intro k; rw [co_add, co_add, co_add, co_add]; grind
  mul_assoc := mul_assoc'
  mul_one a := by rw [mul_comm']; exact one_mul' a
  one_mul := one_mul'
  left_distrib a b c := by
    apply PS.ext; intro k
    rw [co_add, co_mul, co_mul, co_mul, ← sm_add]
    apply sm_congr; intro i hi; rw [co_add]; grind
  right_distrib a b c := by
    apply PS.ext; intro k
    rw [co_add, co_mul, co_mul, co_mul, ← sm_add]
    apply sm_congr; intro i hi; rw [co_add]; grind
  zero_mul a := by
    apply PS.ext; intro k
    rw [co_mul, co_zero]
    exact sm_0 _ fun i hi => by rw [co_zero]; grind
  mul_zero a := by
    apply PS.ext; intro k
    rw [co_mul, co_zero]
    exact sm_0 _ fun i hi => by rw [co_zero]; grind
  pow_zero a := rfl
  pow_succ a n := rfl
  ofNat_succ n := by
    apply PS.ext; intro k
    show (C ((n + 1 : Nat) : Rat)).co k = (C (n : Rat)).co k + (C ((1 : Nat) : Rat)).co k
    rw [co_C, co_C, co_C]
    split <;> grind
  ofNat_eq_natCast n := rfl
  nsmul_eq_natCast_mul n a := rfl
  neg_add_cancel a := by apply PS.ext; intro k; rw [co_add, co_neg, co_zero]; grind
  sub_eq_add_neg a b := by apply PS.ext; intro k; rw [co_sub, co_add, co_neg]; grind
  neg_zsmul n a := by
    apply PS.ext; intro k
    show (C ((-n : Int) : Rat) * a).co k = - (C (n : Rat) * a).co k
    rw [co_Cmul, co_Cmul]
    grind
  zsmul_natCast_eq_nsmul n a := rfl
  intCast_ofNat n := rfl
  intCast_neg n := by
    apply PS.ext; intro k
    show (C ((-n : Int) : Rat)).co k = - (C (n : Rat)).co k
    rw [co_C, co_C]
    split <;> grind
  mul_comm := mul_comm'

end PS
end DL
namespace DL
open PySem PySem.Spec PyProof.Rows L2
/-! ### rows as power series -/
def ps (l : List Rat) : PS := ⟨fun i => l.getD i 0⟩
theorem ps_co (l : List Rat) (i : Nat) : (ps l).co i = l.getD i 0 := rfl
theorem ps_same {l m : List Rat} (h : Same0 l m) : ps l = ps m := PS.ext h
theorem ps_trim (l : List Rat) : ps (trim l) = ps l := ps_same (trim_same l)
theorem ps_nil : ps [] = 0 := PS.ext fun k => by rw [PS.co_zero]; rfl
theorem ps_inj {l m : List Rat} (hl : trim l = l) (hm : trim m = m) (h : ps l = ps m) : l = m := by
  rw [← hl, ← hm]; exact trim_eq fun i => congrArg (fun f => f.co i) h
theorem trim_ps {l m : List Rat} (h : ps l = ps m) : trim l = trim m := trim_eq fun i => congrArg (fun f => f.co i) h
theorem ps_zero {l : List Rat} (hl : trim l = l) (h : ps l = 0) : l = [] := ps_inj hl rfl (h.trans ps_nil.symm)
theorem sm_min (f : Nat → Rat) (K : Nat) : ∀ L, sm L (fun j => if j < K then f j else 0) = sm (min L K) f
  | 0 => by rw [Nat.zero_min]; rfl
  | L + 1 => by
    rw [sm_succ, sm_min f K L]
    by_cases h : L < K
    · rw [if_pos h, show min L K = L by omega, show min (L + 1) K = L + 1 by omega]; rfl
    · rw [if_neg h, show min L K = K by omega, show min (L + 1) K = K by omega]; exact Rat.add_zero _
theorem sm_more {f : Nat → Rat} {n : Nat} (h : ∀ i, n ≤ i → f i = 0) : ∀ N, n ≤ N → sm N f = sm n f
  | 0, e => by rw [show n = 0 by omega]
  | N + 1, e => by
    by_cases k : n = N + 1
    · rw [k]
    · rw [sm_succ, sm_more h N (by omega), h N (by omega)]; exact Rat.add_zero _
theorem cv_sm (l m : List Rat) (k : Nat) : ∀ i, cv l m i k = sm i fun j => if j < k + 1 then l.getD j 0 * m.getD (k - j) 0 else 0
  | 0 => rfl
  | i + 1 => by
    show cv l m i k + _ = _
    rw [cv_sm l m k i, sm_succ]
    congr 1
    by_cases h : i ≤ k
    · rw [if_pos h, if_pos (by omega)]
    · rw [if_neg h, if_neg (by omega)]
theorem cv_ps (l m : List Rat) (k : Nat) : cv l m l.length k = (ps l * ps m).co k := by
  rw [cv_sm, sm_min (fun j => l.getD j 0 * m.getD (k - j) 0), PS.co_mul]
  show _ = sm (k + 1) fun i => l.getD i 0 * m.getD (k - i) 0
  by_cases h : l.length ≤ k + 1
  · rw [show min l.length (k + 1) = l.length by omega, sm_more (fun i hi => by rw [getD_out hi]; exact Rat.zero_mul _) _ h]
  · rw [show min l.length (k + 1) = k + 1 by omega]
theorem ps_prod (l m : List Rat) : ps (prodL l m) = ps l * ps m := PS.ext fun k => by
  rw [← cv_ps, ps_co]
  unfold prodL
  refine map_getD (fun k hk => ?_) k
  by_cases hm : m.length = 0
  · rw [cv_ps, PS.co_mul]
    exact sm_0 _ fun i hi => by rw [ps_co m, getD_out (by omega)]; exact Rat.mul_zero _
  · exact cv_out _ (by omega) (Nat.le_refl _) hm
theorem ps_add (l m : List Rat) : ps (zipL (· + ·) l m) = ps l + ps m := PS.ext fun k => by
  rw [ps_co, zipL_getD (by grind), PS.co_add]; rfl
theorem ps_sub (l m : List Rat) : ps (zipL (· - ·) l m) = ps l - ps m := PS.ext fun k => by
  rw [ps_co, zipL_getD (by grind), PS.co_sub]; rfl
theorem getD_map0 {f : Rat → Rat} (h : f 0 = 0) (l : List Rat) (i : Nat) : (l.map f).getD i 0 = f (l.getD i 0) := by
  rw [List.getD_eq_getElem?_getD, List.getD_eq_getElem?_getD, List.getElem?_map]
  cases l[i]? with
  | none => exact h.symm
  | some a => rfl
theorem ps_scale (l : List Rat) (q : Rat) : ps (l.map fun a => a * q) = PS.C q * ps l := PS.ext fun k => by
  rw [ps_co, getD_map0 (Rat.zero_mul q), PS.co_Cmul, ps_co]; exact Rat.mul_comm _ _
theorem ps_over (l : List Rat) (q : Rat) : ps (l.map fun a => a / q) = PS.C (1 / q) * ps l := PS.ext fun k => by
  rw [ps_co, getD_map0 (by grind), PS.co_Cmul, ps_co]; grind
theorem C_mul (p q : Rat) : PS.C p * PS.C q = PS.C (p * q) := PS.ext fun k => by
  rw [PS.co_Cmul, PS.co_C, PS.co_C]
  split
  · rfl
  · exact Rat.mul_zero _
theorem C_one : PS.C 1 = 1 := rfl
theorem ps_one (q : Rat) : ps [q] = PS.C q := PS.ext fun k => by
  rw [ps_co, PS.co_C]
  cases k with
  | zero => rfl
  | succ k => rw [if_neg (by omega)]; rfl

/-! ### powers of x -/
def mono (p : Nat) : PS := ⟨fun k => if k = p then 1 else 0⟩
theorem sm_single {f : Nat → Rat} {p : Nat} : ∀ n, p < n → (∀ i, i < n → i ≠ p → f i = 0) → sm n f = f p
  | 0, h, _ => absurd h (Nat.not_lt_zero _)
  | n + 1, h, z => by
    rw [sm_succ]
    by_cases e : p = n
    · subst e
      rw [sm_0 _ fun i hi => z i (by omega) (by omega)]; exact Rat.zero_add _
    · rw [sm_single n (by omega) fun i hi ne => z i (by omega) ne, z n (by omega) (fun w => e w.symm)]; exact Rat.add_zero _
theorem co_mono (p : Nat) (f : PS) (k : Nat) : (mono p * f).co k = if p ≤ k then f.co (k - p) else 0 := by
  rw [PS.co_mul]
  by_cases h : p ≤ k
  · rw [if_pos h, sm_single (p := p) _ (by omega) fun i hi ne => by
      show (if i = p then (1 : Rat) else 0) * _ = 0
      rw [if_neg ne]; exact Rat.zero_mul _]
    show (if p = p then (1 : Rat) else 0) * _ = _
    rw [if_pos rfl]; exact Rat.one_mul _
  · rw [if_neg h]
    refine sm_0 _ fun i hi => ?_
    show (if i = p then (1 : Rat) else 0) * _ = 0
    rw [if_neg (by omega)]; exact Rat.zero_mul _

/-! ### parting -/
/-- the shares told -/
def prQ (l m : List Rat) (N i : Nat) : PS := ⟨fun k => if N - i ≤ k ∧ k < N then prS l m N (N - 1 - k) else 0⟩
def prP (l m : List Rat) (N i : Nat) : PS := ⟨prR l m N i⟩
theorem prP_step {l m : List Rat} {N i : Nat} : prP l m N (i + 1) = prP l m N i - PS.C (prS l m N i) * (mono (N - 1 - i) * ps m) := PS.ext fun k => by
  rw [PS.co_sub, PS.co_Cmul, co_mono]
  show (if _ then _ else _) = prR l m N i k - _
  by_cases h : N - 1 - i ≤ k
  · rw [if_pos h]
    by_cases h2 : k - (N - 1 - i) < m.length
    · rw [if_pos ⟨h, h2⟩]; rfl
    · rw [if_neg (fun w => h2 w.2), ps_co, getD_out (by omega)]; grind
  · rw [if_neg (fun w => h w.1), if_neg h]; grind
theorem prQ_step {l m : List Rat} {N i : Nat} (h : i < N) : prQ l m N (i + 1) = prQ l m N i + PS.C (prS l m N i) * mono (N - 1 - i) := PS.ext fun k => by
  rw [PS.co_add, PS.co_Cmul]
  show (if _ then _ else _) = (if _ then _ else _) + _ * (if _ then _ else _)
  by_cases e : k = N - 1 - i
  · subst e
    rw [if_pos (by omega), if_neg (by omega), if_pos rfl, show N - 1 - (N - 1 - i) = i by omega]; grind
  · rw [if_neg e]
    by_cases h3 : N - i ≤ k ∧ k < N
    · rw [if_pos (by omega), if_pos h3]; grind
    · rw [if_neg (by omega), if_neg h3]; grind
theorem part_step (l m : List Rat) (N : Nat) : ∀ i, i ≤ N → ps l = prQ l m N i * ps m + prP l m N i
  | 0, _ => by
    have e1 : prQ l m N 0 = 0 := PS.ext fun k => by
      rw [PS.co_zero]
      show (if _ then _ else _) = _
      rw [if_neg (by omega)]
    have e2 : prP l m N 0 = ps l := rfl
    rw [e1, e2]; grind
  | i + 1, h => by
    have ih := part_step l m N i (by omega)
    rw [prP_step, prQ_step (by omega)]
    generalize prQ l m N i = Q at *
    generalize prP l m N i = R at *
    generalize PS.C (prS l m N i) = c
    generalize mono (N - 1 - i) = x
    grind
theorem prR_top {l m : List Rat} (hm : m.getD (m.length - 1) 0 ≠ 0) (h1 : 1 ≤ m.length) : ∀ i k, i ≤ howN l m → l.length ≤ k + i → prR l m (howN l m) i k = 0
  | 0, k, _, h => getD_out h
  | i + 1, k, hi, h => by
    have hN : howN l m + m.length = l.length + 1 := by unfold howN at *; omega
    show (if _ then _ else _) = _
    by_cases e : l.length ≤ k + i
    · rw [if_neg (by omega)]; exact prR_top hm h1 i k (by omega) e
    · have ek : k = howN l m - 1 - i + m.length - 1 := by omega
      rw [if_pos (by omega), ← ek, show k - (howN l m - 1 - i) = m.length - 1 by omega]
      rw [Rat.div_mul_cancel hm]; exact Rat.sub_self
theorem ps_oft (l m : List Rat) : ps (oftL l m) = prQ l m (howN l m) (howN l m) := PS.ext fun k => by
  rw [ps_co]
  unfold oftL
  by_cases h : k < howN l m
  · rw [rng_getD h]
    show (if _ then _ else _) = if _ then _ else _
    rw [if_pos (by omega), if_pos ⟨by omega, h⟩]
  · rw [getD_out (by simp; omega)]
    show _ = if _ then _ else _
    rw [if_neg (by omega)]
theorem ps_rst {l m : List Rat} (hm : m.getD (m.length - 1) 0 ≠ 0) (h1 : 1 ≤ m.length) : ps (rstL l m) = prP l m (howN l m) (howN l m) := PS.ext fun k => by
  rw [ps_co]
  unfold rstL
  show _ = prR _ _ _ _ _
  by_cases h : k < min l.length (m.length - 1)
  · rw [rng_getD h]
  · rw [getD_out (by simp; omega), prR_top hm h1 _ _ (Nat.le_refl _) (by unfold howN; omega)]
theorem part_id {l m : List Rat} (hm : m.getD (m.length - 1) 0 ≠ 0) (h1 : 1 ≤ m.length) : ps l = ps (oftL l m) * ps m + ps (rstL l m) := by
  rw [ps_oft, ps_rst hm h1]; exact part_step l m _ _ (Nat.le_refl _)
theorem rst_len (l m : List Rat) : (rstL l m).length ≤ m.length - 1 := by unfold rstL; simp; omega
theorem oft_len (l m : List Rat) : (oftL l m).length = howN l m := by unfold oftL; simp

/-! ### degrees -/
/-- a row whose last number is not nought (or none) -/
theorem last_ne {l : List Rat} (hl : trim l = l) (h : l ≠ []) : l.getD (l.length - 1) 0 ≠ 0 := by
  rcases trim_last l with e | ⟨m, a, ha, e⟩
  · rw [hl] at e; exact absurd e h
  · rw [hl] at e
    subst e
    rw [show (m ++ [a]).length - 1 = m.length by simp, getD_len]; exact ha
theorem top_co {l m : List Rat} (hl : l ≠ []) (hm : m ≠ []) : (ps l * ps m).co (l.length - 1 + (m.length - 1)) = l.getD (l.length - 1) 0 * m.getD (m.length - 1) 0 := by
  have h1 : l.length ≠ 0 := fun e => hl (List.eq_nil_of_length_eq_zero e)
  rw [PS.co_mul, sm_single (p := l.length - 1) _ (by omega) fun i hi ne => ?_]
  · show l.getD _ 0 * m.getD _ 0 = _
    rw [show l.length - 1 + (m.length - 1) - (l.length - 1) = m.length - 1 by omega]
  · show l.getD _ 0 * m.getD _ 0 = _
    by_cases h : i < l.length
    · rw [getD_out (l := m) (by omega)]; exact Rat.mul_zero _
    · rw [getD_out (l := l) (by omega)]; exact Rat.zero_mul _
theorem mul_small {f m r : List Rat} (hf : trim f = f) (hm : trim m = m) (h1 : m ≠ []) (h : ps f * ps m = ps r) (hr : r.length < m.length) : f = [] := by
  by_cases hz : f = []
  · exact hz
  · have e := top_co hz h1
    rw [h, ps_co, getD_out (by omega)] at e
    rcases Rat.mul_eq_zero.mp e.symm with w | w
    · exact absurd w (last_ne hf hz)
    · exact absurd w (last_ne hm h1)
theorem part_uniq {f f' m r r' : List Rat} (hf : trim f = f) (hf' : trim f' = f') (hr : trim r = r) (hr' : trim r' = r') (hm : trim m = m) (h1 : m ≠ []) (lr : r.length < m.length) (lr' : r'.length < m.length)
    (h : ps f * ps m + ps r = ps f' * ps m + ps r') : f = f' ∧ r = r' := by
  have e : ps (trim (zipL (· - ·) f f')) * ps m = ps (zipL (· - ·) r' r) := by
    rw [ps_trim, ps_sub, ps_sub]
    generalize ps f = a at *; generalize ps f' = b at *; generalize ps m = c at *; generalize ps r = d at *; generalize ps r' = e at *
    grind
  have z := mul_small (trim_trim _) hm h1 e (by unfold zipL; simp; omega)
  have ef : ps f = ps f' := by
    have : ps (trim (zipL (· - ·) f f')) = 0 := by rw [z]; exact ps_nil
    rw [ps_trim, ps_sub] at this
    generalize ps f = a at *; generalize ps f' = b at *
    grind
  have er : ps r = ps r' := by
    rw [ef] at h
    generalize ps f' * ps m = a at h; generalize ps r = d at *; generalize ps r' = e at *
    grind
  exact ⟨ps_inj hf hf' ef, ps_inj hr hr' er⟩
/-- what parting tells, shown by its identity -/
theorem part_told {l m f r : List Rat} (hf : trim f = f) (hr : trim r = r) (hm : trim m = m) (h1 : m ≠ []) (lr : r.length < m.length) (h : ps l = ps f * ps m + ps r) : trim (oftL l m) = f ∧ trim (rstL l m) = r := by
  have h2 : 1 ≤ m.length := by
    have : m.length ≠ 0 := fun e => h1 (List.eq_nil_of_length_eq_zero e)
    omega
  refine part_uniq (trim_trim _) hf (trim_trim _) hr hm h1 ?_ lr ?_
  · have := rst_len l m; have := trim_len (rstL l m); omega
  · rw [ps_trim, ps_trim, ← h]; exact (part_id (last_ne hm h1) h2).symm
theorem mul_ne {l m : List Rat} (hl : trim l = l) (hm : trim m = m) (h1 : l ≠ []) (h2 : m ≠ []) : trim (prodL l m) = prodL l m ∧ (prodL l m).length = l.length + m.length - 1 := by
  have h3 : l.length ≠ 0 := fun e => h1 (List.eq_nil_of_length_eq_zero e)
  have h4 : m.length ≠ 0 := fun e => h2 (List.eq_nil_of_length_eq_zero e)
  have e := top_co h1 h2
  have len : (prodL l m).length = l.length + m.length - 1 := by unfold prodL; simp
  refine ⟨?_, len⟩
  rcases snoc_cases (prodL l m) with w | ⟨k, a, w⟩
  · rw [w]; rfl
  · rw [w]
    refine trim_snoc fun z => ?_
    have lk : k.length = l.length - 1 + (m.length - 1) := by
      have := congrArg List.length w
      rw [len, List.length_append] at this
      simp at this; omega
    rw [← ps_prod, ps_co, w, ← lk, getD_len, z] at e
    rcases Rat.mul_eq_zero.mp e.symm with w | w
    · exact absurd w (last_ne hl h1)
    · exact absurd w (last_ne hm h2)
end DL
namespace DL
open PySem PySem.Spec PyProof.Rows L2
/-! ### sizes by one denominator -/
structure Frac (s : Nat) (f : Nat → Rat) (d : Int) (A : Nat → Int) : Prop where
  d0 : d ≠ 0
  dd : d.natAbs < 2 ^ s
  aa : ∀ k, (A k).natAbs < 2 ^ s
  e : ∀ k, f k * (d : Rat) = (A k : Rat)
theorem num_den (q : Rat) : q * (((q.den : Nat) : Int) : Rat) = (q.num : Rat) := by
  have h := Rat.num_divInt_den q
  rw [Rat.divInt_eq_div] at h
  have h2 : ((q.den : Int) : Rat) ≠ 0 := fun e => den_ne q (by exact_mod_cast e)
  conv => lhs; lhs; rw [← h]
  exact Rat.div_mul_cancel h2
def CD (s : Nat) (l : List Rat) : Prop := ∃ d A, Frac s (fun k => l.getD k 0) d A
theorem CD.mono {s t : Nat} {l : List Rat} (h : CD s l) (k : s ≤ t) : CD t l := by
  obtain ⟨d, A, h⟩ := h
  exact ⟨d, A, h.d0, abs_up h.dd k, fun i => abs_up (h.aa i) k, h.e⟩
theorem CD.same {s : Nat} {l m : List Rat} (h : CD s l) (k : Same0 l m) : CD s m := by
  obtain ⟨d, A, h⟩ := h
  exact ⟨d, A, h.d0, h.dd, h.aa, fun i => by show m.getD i 0 * _ = _; rw [← k i]; exact h.e i⟩
theorem CD.trim {s : Nat} {l : List Rat} (h : CD s l) : CD s (trim l) := h.same fun i => (trim_same l i).symm
theorem ci_ne {d : Int} (h : d ≠ 0) : (d : Rat) ≠ 0 := fun e => h (by exact_mod_cast e)
theorem BQ.frac {s : Nat} {q : Rat} {d a : Int} (h0 : d ≠ 0) (hd : d.natAbs < 2 ^ s) (ha : a.natAbs < 2 ^ s) (e : q * (d : Rat) = (a : Rat)) : BQ s q := by
  have : q = Rat.divInt a d := by
    rw [Rat.divInt_eq_div, ← e, Rat.div_def, Rat.mul_assoc, Rat.mul_inv_cancel _ (ci_ne h0), Rat.mul_one]
  rw [this]; exact BQ.divInt h0 ha hd
theorem CD.at {s : Nat} {l : List Rat} (h : CD s l) (i : Nat) : BQ s (l.getD i 0) := by
  obtain ⟨d, A, h⟩ := h
  exact BQ.frac h.d0 h.dd (h.aa i) (h.e i)
theorem CD.all {s : Nat} {l : List Rat} (h : CD s l) : AllBQ s l := fun x hx => by
  obtain ⟨i, hi, rfl⟩ := List.getElem_of_mem hx
  have := h.at i
  rwa [List.getD_eq_getElem?_getD, List.getElem?_eq_getElem hi] at this
theorem CD.nil {s : Nat} (h : 1 ≤ s) : CD s [] := ⟨1, fun _ => 0, by decide, Nat.lt_of_lt_of_le (by decide : 1 < 2 ^ 1) (pow_mono h), fun _ => Nat.two_pow_pos _, fun k => by show (0 : Rat) * _ = _; exact Rat.zero_mul _⟩
theorem CD.one {s : Nat} {q : Rat} (h : BQ s q) : CD s [q] := ⟨q.den, fun k => if k = 0 then q.num else 0, den_ne q, h.da, fun k => by
  show (if k = 0 then q.num else 0).natAbs < _
  split
  · exact h.n
  · exact Nat.two_pow_pos _, fun k => by
  show [q].getD k 0 * _ = (((if k = 0 then q.num else 0 : Int)) : Rat)
  cases k with
  | zero => rw [if_pos rfl]; exact num_den q
  | succ k => rw [if_neg (by omega)]; exact Rat.zero_mul _⟩
theorem CD.ints {s : Nat} {l : List Rat} (h : ∀ x, x ∈ l → ∃ a : Int, a.natAbs < 2 ^ s ∧ x = (a : Rat)) (h1 : 1 ≤ s) : CD s l := by
  have : ∀ k, ∃ a : Int, a.natAbs < 2 ^ s ∧ l.getD k 0 * ((1 : Int) : Rat) = (a : Rat) := fun k => by
    by_cases hk : k < l.length
    · obtain ⟨a, ha, e⟩ := h l[k] (List.getElem_mem hk)
      refine ⟨a, ha, ?_⟩
      rw [List.getD_eq_getElem?_getD, List.getElem?_eq_getElem hk]
      show l[k] * 1 = _
      rw [Rat.mul_one, e]
    · rw [getD_out (by omega)]
      exact ⟨0, Nat.two_pow_pos _, Rat.zero_mul _⟩
  refine ⟨1, fun k => (this k).choose, by decide, Nat.lt_of_lt_of_le (by decide : 1 < 2 ^ 1) (pow_mono h1), fun k => (this k).choose_spec.1, fun k => (this k).choose_spec.2⟩
theorem snoc_getD (l : List Rat) (x : Rat) (k : Nat) : (l ++ [x]).getD k 0 = if k = l.length then x else l.getD k 0 := by
  rw [List.getD_eq_getElem?_getD, List.getD_eq_getElem?_getD]
  by_cases h : k < l.length
  · rw [List.getElem?_append_left h, if_neg (by omega)]
  · rw [List.getElem?_append_right (by omega)]
    by_cases e : k = l.length
    · subst e; rw [if_pos rfl]; simp
    · rw [if_neg e, List.getElem?_eq_none (by simp; omega), List.getElem?_eq_none (by omega)]
/-- a number more -/
theorem CD.snoc {s t : Nat} {l : List Rat} {q : Rat} (h : CD s l) (hq : BQ t q) : CD (s + t) (l ++ [q]) := by
  obtain ⟨d, A, h⟩ := h
  refine ⟨d * q.den, fun k => if k = l.length then q.num * d else A k * q.den, Int.mul_ne_zero h.d0 (den_ne q), mul_abs h.dd hq.da, fun k => ?_, fun k => ?_⟩
  · show (if k = l.length then q.num * d else A k * q.den).natAbs < _
    split
    · rw [Nat.add_comm]; exact mul_abs hq.n h.dd
    · exact mul_abs (h.aa k) hq.da
  · show (l ++ [q]).getD k 0 * _ = (((if k = l.length then q.num * d else A k * q.den : Int)) : Rat)
    rw [snoc_getD, Rat.intCast_mul]
    split
    · rw [Rat.intCast_mul, ← num_den q]
      grind
    · have := h.e k
      rw [Rat.intCast_mul, ← this]
      show _ * _ = l.getD k 0 * _ * _
      grind
theorem CD.crude {s : Nat} : ∀ {l : List Rat}, AllBQ s l → 1 ≤ s → CD ((l.length + 1) * s) l := by
  intro l
  induction hn : l.length generalizing l with
  | zero => intro h h1; rw [List.eq_nil_of_length_eq_zero hn]; exact CD.nil (by omega)
  | succ n ih =>
    intro h h1
    rcases snoc_cases l with rfl | ⟨m, a, rfl⟩
    · cases hn
    · have := (ih (l := m) (by simpa using hn) (fun x hx => h x (by simp [hx])) h1).snoc (h a (by simp))
      rwa [show (n + 1) * s + s = (n + 1 + 1) * s by rw [Nat.add_mul (n + 1) 1, Nat.one_mul]] at this

/-! ### the sizes of parting -/
def prA (A M : Nat → Int) (n N : Nat) : Nat → Nat → Int
  | 0, k => A k
  | i + 1, k => if N - 1 - i ≤ k ∧ k - (N - 1 - i) < n then prA A M n N i k * M (n - 1) - prA A M n N i (N - 1 - i + n - 1) * M (k - (N - 1 - i)) else prA A M n N i k * M (n - 1)
theorem prA_abs {A M : Nat → Int} {n N s t : Nat} (hA : ∀ k, (A k).natAbs < 2 ^ s) (hM : ∀ k, (M k).natAbs < 2 ^ t) : ∀ i k, (prA A M n N i k).natAbs < 2 ^ (s + i * (t + 1))
  | 0, k => by rw [Nat.zero_mul]; exact hA k
  | i + 1, k => by
    have ih := prA_abs (n := n) (N := N) hA hM i
    have e : s + (i + 1) * (t + 1) = s + i * (t + 1) + t + 1 := by rw [Nat.add_mul, Nat.one_mul]; omega
    rw [e]
    show (if _ then _ else _ : Int).natAbs < _
    split
    · exact sub_abs (mul_abs (ih k) (hM _)) (mul_abs (ih _) (hM _))
    · exact abs_up (mul_abs (ih k) (hM _)) (Nat.le_succ _)
theorem mul_pow_abs {a L : Int} {p t : Nat} (ha : a.natAbs < 2 ^ p) (hL : L.natAbs < 2 ^ t) : ∀ n : Nat, (a * L ^ n).natAbs < 2 ^ (p + t * n)
  | 0 => by rw [Int.pow_zero, Int.mul_one]; exact ha
  | n + 1 => by
    rw [Int.pow_succ, ← Int.mul_assoc, Nat.mul_succ, ← Nat.add_assoc]
    exact mul_abs (mul_pow_abs ha hL n) hL
theorem pow_ne {L : Int} (h : L ≠ 0) : ∀ n : Nat, L ^ n ≠ 0
  | 0 => by rw [Int.pow_zero]; decide
  | n + 1 => by rw [Int.pow_succ]; exact Int.mul_ne_zero (pow_ne h n) h
theorem prA_e {l m : List Rat} {d e : Int} {A M : Nat → Int} {s t N : Nat} (hl : Frac s (fun k => l.getD k 0) d A) (hm : Frac t (fun k => m.getD k 0) e M) (m0 : m.getD (m.length - 1) 0 ≠ 0) :
    ∀ i k, prR l m N i k * ((d * M (m.length - 1) ^ i : Int) : Rat) = (prA A M m.length N i k : Rat)
  | 0, k => by rw [Int.pow_zero, Int.mul_one]; exact hl.e k
  | i + 1, k => by
    have ih := prA_e (N := N) hl hm m0 i
    have h1 := ih k
    have h2 := ih (N - 1 - i + m.length - 1)
    have h3 := hm.e (m.length - 1)
    have h4 := hm.e (k - (N - 1 - i))
    have h5 : prR l m N i (N - 1 - i + m.length - 1) / m.getD (m.length - 1) 0 * m.getD (m.length - 1) 0 = prR l m N i (N - 1 - i + m.length - 1) := Rat.div_mul_cancel m0
    have eD : ((d * M (m.length - 1) ^ (i + 1) : Int) : Rat) = ((d * M (m.length - 1) ^ i : Int) : Rat) * (M (m.length - 1) : Rat) := by
      rw [Int.pow_succ, ← Int.mul_assoc, Rat.intCast_mul]
    rw [eD]
    show (if _ then _ else _) * _ = ((if _ then _ else _ : Int) : Rat)
    have h3 : m.getD (m.length - 1) 0 * (e : Rat) = (M (m.length - 1) : Rat) := h3
    have h4 : m.getD (k - (N - 1 - i)) 0 * (e : Rat) = (M (k - (N - 1 - i)) : Rat) := h4
    generalize ((d * M (m.length - 1) ^ i : Int) : Rat) = D at *
    split
    · rw [Rat.intCast_sub, Rat.intCast_mul, Rat.intCast_mul]
      generalize prR l m N i (N - 1 - i + m.length - 1) / m.getD (m.length - 1) 0 = q at *
      rw [← h1, ← h2, ← h3, ← h4, ← h5]
      generalize prR l m N i k = a
      generalize m.getD (m.length - 1) 0 = b
      generalize m.getD (k - (N - 1 - i)) 0 = c
      generalize (e : Rat) = e
      grind
    · rw [Rat.intCast_mul, ← h1]
      grind
theorem last_num {m : List Rat} {e : Int} {M : Nat → Int} {t : Nat} (hm : Frac t (fun k => m.getD k 0) e M) {k : Nat} (m0 : m.getD k 0 ≠ 0) : M k ≠ 0 := fun z => by
  have := hm.e k
  rw [z] at this
  rcases Rat.mul_eq_zero.mp this with w | w
  · exact m0 w
  · exact ci_ne hm.d0 w
theorem prR_frac {l m : List Rat} {s t : Nat} (hl : CD s l) (hm : CD t m) (m0 : m.getD (m.length - 1) 0 ≠ 0) (N i : Nat) : ∃ d A, Frac (s + i * (t + 1)) (prR l m N i) d A := by
  obtain ⟨d, A, hl⟩ := hl
  obtain ⟨e, M, hm⟩ := hm
  refine ⟨d * M (m.length - 1) ^ i, prA A M m.length N i, Int.mul_ne_zero hl.d0 (pow_ne (last_num hm m0) i), abs_up (mul_pow_abs hl.dd (hm.aa _) i) ?_, prA_abs hl.aa hm.aa i, prA_e hl hm m0 i⟩
  have : t * i ≤ i * (t + 1) := by rw [Nat.mul_comm]; exact Nat.mul_le_mul_left _ (by omega)
  omega
theorem CD.rst {l m : List Rat} {s t : Nat} (hl : CD s l) (hm : CD t m) (m0 : m.getD (m.length - 1) 0 ≠ 0) : CD (s + howN l m * (t + 1)) (rstL l m) := by
  obtain ⟨d, A, h⟩ := prR_frac hl hm m0 (howN l m) (howN l m)
  refine ⟨d, fun k => if k < min l.length (m.length - 1) then A k else 0, h.d0, h.dd, fun k => ?_, fun k => ?_⟩
  · show (if _ then A k else 0).natAbs < _
    split
    · exact h.aa k
    · exact Nat.two_pow_pos _
  · show (rstL l m).getD k 0 * _ = (((if _ then A k else 0 : Int)) : Rat)
    unfold rstL
    split
    · rename_i hk
      rw [rng_getD hk]; exact h.e k
    · rename_i hk
      rw [getD_out (by simp; omega)]; exact Rat.zero_mul _
theorem prS_e {l m : List Rat} {d e : Int} {A M : Nat → Int} {s t N : Nat} (hl : Frac s (fun k => l.getD k 0) d A) (hm : Frac t (fun k => m.getD k 0) e M) (m0 : m.getD (m.length - 1) 0 ≠ 0) (i : Nat) :
    prS l m N i * ((d * M (m.length - 1) ^ i * M (m.length - 1) : Int) : Rat) = ((prA A M m.length N i (N - 1 - i + m.length - 1) * e : Int) : Rat) := by
  have h2 := prA_e (N := N) hl hm m0 i (N - 1 - i + m.length - 1)
  have h3 := hm.e (m.length - 1)
  have h5 : prS l m N i * m.getD (m.length - 1) 0 = prR l m N i (N - 1 - i + m.length - 1) := Rat.div_mul_cancel m0
  rw [Rat.intCast_mul, Rat.intCast_mul (prA _ _ _ _ _ _), ← h2, ← h5]
  have h3 : m.getD (m.length - 1) 0 * (e : Rat) = (M (m.length - 1) : Rat) := h3
  rw [← h3]
  generalize prS l m N i = a
  generalize m.getD (m.length - 1) 0 = b
  generalize (e : Rat) = e
  generalize ((d * M (m.length - 1) ^ i : Int) : Rat) = D
  grind
theorem prS_bq {l m : List Rat} {s t N i : Nat} (hl : CD s l) (hm : CD t m) (m0 : m.getD (m.length - 1) 0 ≠ 0) : BQ (s + i * (t + 1) + t) (prS l m N i) := by
  obtain ⟨d, A, hl⟩ := hl
  obtain ⟨e, M, hm⟩ := hm
  refine BQ.frac (Int.mul_ne_zero (Int.mul_ne_zero hl.d0 (pow_ne (last_num hm m0) i)) (last_num hm m0)) (mul_abs (abs_up (mul_pow_abs hl.dd (hm.aa _) i) ?_) (hm.aa _)) (mul_abs (prA_abs hl.aa hm.aa i _) hm.dd) (prS_e hl hm m0 i)
  have : t * i ≤ i * (t + 1) := by rw [Nat.mul_comm]; exact Nat.mul_le_mul_left _ (by omega)
  omega
theorem PartOk.cd {l m : List Rat} {s t : Nat} (hl : CD s l) (hm : CD t m) (m0 : m.getD (m.length - 1) 0 ≠ 0) (h : s + howN l m * (t + 1) + 2 * t ≤ 67000000) : PartOk l m := by
  refine ⟨hm.all.sq (by omega), fun i k hi => ?_, fun i hi => ?_, fun i j hi => ?_⟩
  · obtain ⟨d, A, f⟩ := prR_frac hl hm m0 (howN l m) i
    have := Nat.mul_le_mul_right (t + 1) hi
    exact (BQ.frac f.d0 f.dd (f.aa k) (f.e k)).mono (by omega)
  · have := Nat.mul_le_mul_right (t + 1) (Nat.le_of_lt hi)
    exact (prS_bq hl hm m0).mono (by omega)
  · have := Nat.mul_le_mul_right (t + 1) (Nat.le_of_lt hi)
    exact ((prS_bq hl hm m0).mul (hm.at j)).mono (by omega)
theorem CD.oft {l m : List Rat} {s t : Nat} (hl : CD s l) (hm : CD t m) (m0 : m.getD (m.length - 1) 0 ≠ 0) : CD (s + howN l m * (t + 1)) (oftL l m) := by
  obtain ⟨d, A, hl⟩ := hl
  obtain ⟨e, M, hm⟩ := hm
  generalize hN : howN l m = N
  have hw : t * N ≤ N * (t + 1) := by rw [Nat.mul_comm]; exact Nat.mul_le_mul_left _ (by omega)
  refine ⟨d * M (m.length - 1) ^ N, fun k => if k < N then prA A M m.length N (N - 1 - k) (N - 1 - (N - 1 - k) + m.length - 1) * e * M (m.length - 1) ^ k else 0, Int.mul_ne_zero hl.d0 (pow_ne (last_num hm m0) _), abs_up (mul_pow_abs hl.dd (hm.aa _) N) (by omega), fun k => ?_, fun k => ?_⟩
  · show (if _ then _ else (0 : Int)).natAbs < _
    split
    · rename_i hk
      refine abs_up (mul_pow_abs (mul_abs (prA_abs hl.aa hm.aa _ _) hm.dd) (hm.aa _) k) ?_
      have e1 : N * (t + 1) = (N - 1 - k) * (t + 1) + (k + 1) * (t + 1) := by rw [← Nat.add_mul]; congr 1; omega
      have e2 : (k + 1) * (t + 1) = t * k + t + k + 1 := by rw [Nat.add_mul, Nat.mul_add, Nat.mul_comm k t]; omega
      omega
    · exact Nat.two_pow_pos _
  · show (oftL l m).getD k 0 * _ = (((if _ then _ else 0 : Int)) : Rat)
    unfold oftL
    rw [hN]
    split
    · rename_i hk
      rw [rng_getD hk]
      have hp : prO l m N N k = prS l m N (N - 1 - k) := by unfold prO; rw [if_pos (by omega)]
      rw [hp, Rat.intCast_mul (prA A M m.length N (N - 1 - k) (N - 1 - (N - 1 - k) + m.length - 1) * e), ← prS_e (N := N) hl hm m0 (N - 1 - k), Rat.mul_assoc, ← Rat.intCast_mul]
      congr 2
      have : N = N - 1 - k + 1 + k := by omega
      rw [Int.mul_assoc, Int.mul_assoc]
      congr 1
      conv => lhs; rw [this, Int.pow_add, Int.pow_succ]
      rw [Int.mul_assoc]
    · rename_i hk
      rw [getD_out (by simp; omega)]; exact Rat.zero_mul _
/-- by one of its own numbers -/
theorem CD.over_self {g : List Rat} {s p : Nat} (h : CD s g) (h0 : g.getD p 0 ≠ 0) : CD s (g.map fun a => a / g.getD p 0) := by
  obtain ⟨d, A, h⟩ := h
  refine ⟨A p, A, last_num h h0, h.aa p, h.aa, fun k => ?_⟩
  show (g.map fun a => a / g.getD p 0).getD k 0 * _ = _
  rw [getD_map0 (by grind), ← h.e p, ← h.e k]
  show g.getD k 0 / g.getD p 0 * (g.getD p 0 * _) = g.getD k 0 * _
  have := Rat.div_mul_cancel (a := g.getD k 0) h0
  generalize g.getD k 0 / g.getD p 0 = q at *
  rw [← this]; grind
theorem CD.over_by {g m : List Rat} {s t p : Nat} (h : CD s g) (hm : CD t m) (h0 : m.getD p 0 ≠ 0) : CD (s + t) (g.map fun a => a / m.getD p 0) := by
  obtain ⟨d, A, h⟩ := h
  obtain ⟨e, M, hm⟩ := hm
  refine ⟨d * M p, fun k => A k * e, Int.mul_ne_zero h.d0 (last_num hm h0), mul_abs h.dd (hm.aa p), fun k => mul_abs (h.aa k) hm.dd, fun k => ?_⟩
  show (g.map fun a => a / m.getD p 0).getD k 0 * _ = _
  rw [getD_map0 (by grind), Rat.intCast_mul, Rat.intCast_mul, ← hm.e p, ← h.e k]
  show g.getD k 0 / m.getD p 0 * (_ * (m.getD p 0 * _)) = g.getD k 0 * _ * _
  have := Rat.div_mul_cancel (a := g.getD k 0) h0
  generalize g.getD k 0 / m.getD p 0 = q at *
  rw [← this]; grind
end DL
namespace DL
open PySem PySem.Spec PyProof.Rows L2
/-! ### Euclid -/
def euc : Nat → List Rat → List Rat → List Rat
  | 0, l, _ => l
  | n + 1, l, m => if m = [] then l else euc n m (trim (rstL l m))
def EucOk : Nat → List Rat → List Rat → Prop
  | 0, _, _ => True
  | n + 1, l, m => m = [] ∨ (PartOk l m ∧ EucOk n m (trim (rstL l m)))
theorem len_pos {m : List Rat} (h : m ≠ []) : 1 ≤ m.length := by
  have : m.length ≠ 0 := fun e => h (List.eq_nil_of_length_eq_zero e)
  omega
theorem rest_len (l : List Rat) {m : List Rat} (h : m ≠ []) : (trim (rstL l m)).length < m.length := by
  have := trim_len (rstL l m); have := rst_len l m; have := len_pos h; omega
theorem euc_nil : ∀ (n : Nat) (l : List Rat), euc n l [] = l
  | 0, _ => rfl
  | n + 1, l => by show (if _ then _ else _) = _; rw [if_pos rfl]
theorem euc_step {n : Nat} {l m : List Rat} (h : m ≠ []) : euc (n + 1) l m = euc n m (trim (rstL l m)) := by show (if _ then _ else _) = _; rw [if_neg h]
theorem euc_trim : ∀ (n : Nat) (l m : List Rat), trim l = l → trim m = m → trim (euc n l m) = euc n l m
  | 0, _, _, h, _ => h
  | n + 1, l, m, h, k => by
    by_cases e : m = []
    · rw [e, euc_nil]; exact h
    · rw [euc_step e]; exact euc_trim n _ _ k (trim_trim _)
/-- goes in without a rest -/
def Dv (g : List Rat) (f : PS) : Prop := ∃ q : List Rat, f = ps q * ps g
theorem Dv.self (g : List Rat) : Dv g (ps g) := ⟨[1], by rw [ps_one, C_one]; generalize ps g = a; grind⟩
theorem Dv.zero (g : List Rat) : Dv g 0 := ⟨[], by rw [ps_nil]; generalize ps g = a; grind⟩
theorem Dv.add {g : List Rat} {a b : PS} (h : Dv g a) (k : Dv g b) : Dv g (a + b) := by
  obtain ⟨p, rfl⟩ := h
  obtain ⟨q, rfl⟩ := k
  exact ⟨zipL (· + ·) p q, by rw [ps_add]; grind⟩
theorem Dv.sub {g : List Rat} {a b : PS} (h : Dv g a) (k : Dv g b) : Dv g (a - b) := by
  obtain ⟨p, rfl⟩ := h
  obtain ⟨q, rfl⟩ := k
  exact ⟨zipL (· - ·) p q, by rw [ps_sub]; grind⟩
theorem Dv.mul {g : List Rat} {a : PS} (h : Dv g a) (q : List Rat) : Dv g (ps q * a) := by
  obtain ⟨p, rfl⟩ := h
  exact ⟨prodL q p, by rw [ps_prod]; grind⟩
theorem Dv.trans {g f : List Rat} {a : PS} (h : Dv g (ps f)) (k : Dv f a) : Dv g a := by
  obtain ⟨q, rfl⟩ := k
  exact h.mul q
theorem euc_dv : ∀ (n : Nat) (l m : List Rat), trim m = m → m.length ≤ n → Dv (euc n l m) (ps l) ∧ Dv (euc n l m) (ps m)
  | 0, l, m, _, h => by
    have e : m = [] := List.eq_nil_of_length_eq_zero (by omega)
    subst e
    exact ⟨Dv.self l, by rw [ps_nil]; exact Dv.zero _⟩
  | n + 1, l, m, hm, h => by
    by_cases e : m = []
    · subst e
      rw [euc_nil]
      exact ⟨Dv.self l, by rw [ps_nil]; exact Dv.zero _⟩
    · rw [euc_step e]
      have ih := euc_dv n m (trim (rstL l m)) (trim_trim _) (by have := rest_len l e; omega)
      rw [ps_trim] at ih
      refine ⟨?_, ih.1⟩
      rw [part_id (l := l) (last_ne hm e) (len_pos e)]
      exact (ih.1.mul _).add ih.2
theorem euc_most {h : List Rat} : ∀ (n : Nat) (l m : List Rat), trim m = m → Dv h (ps l) → Dv h (ps m) → Dv h (ps (euc n l m))
  | 0, l, m, _, a, _ => a
  | n + 1, l, m, hm, a, b => by
    by_cases e : m = []
    · subst e
      rw [euc_nil]; exact a
    · rw [euc_step e]
      refine euc_most n _ _ (trim_trim _) b ?_
      rw [ps_trim]
      have : ps (rstL l m) = ps l - ps (oftL l m) * ps m := by
        have := part_id (l := l) (last_ne hm e) (len_pos e)
        generalize ps l = x at *; generalize ps (rstL l m) = y at *; generalize ps (oftL l m) * ps m = z at *
        grind
      rw [this]
      exact a.sub (b.mul _)
theorem Dv.nil {f : List Rat} (hf : trim f = f) (h : Dv [] (ps f)) : f = [] := by
  obtain ⟨q, e⟩ := h
  refine ps_zero hf ?_
  rw [e, ps_nil]; generalize ps q = a; grind
theorem euc_ne {n : Nat} {l m : List Rat} (hl : trim l = l) (hm : trim m = m) (h : m.length ≤ n) (k : l ≠ [] ∨ m ≠ []) : euc n l m ≠ [] := fun e => by
  have d := euc_dv n l m hm h
  rw [e] at d
  rcases k with k | k
  · exact k (Dv.nil hl d.1)
  · exact k (Dv.nil hm d.2)
/-- a common factor is no longer than either -/
theorem Dv.len {g f : List Rat} (hg : trim g = g) (hf : trim f = f) (h : Dv g (ps f)) (k : f ≠ []) : g.length ≤ f.length := by
  obtain ⟨q, e⟩ := h
  have g0 : g ≠ [] := fun z => k (Dv.nil hf ⟨q, by rw [e, z]⟩)
  have q0 : trim q ≠ [] := fun z => k (ps_zero hf (by rw [e, ← ps_trim q, z, ps_nil]; generalize ps g = a; grind))
  have w := mul_ne (trim_trim q) hg q0 g0
  have : f = prodL (trim q) g := ps_inj hf w.1 (by rw [e, ps_prod, ps_trim])
  rw [this, w.2]
  have := len_pos q0
  omega

/-! ### how great the numbers get -/
def pell (x y : Nat) : Nat → Nat
  | 0 => x
  | 1 => y
  | n + 2 => pell x y n + 2 * pell x y (n + 1)
theorem pell_two (x y n : Nat) : pell x y (n + 2) = pell x y n + 2 * pell x y (n + 1) := rfl
theorem pell_up (x y n : Nat) : ∀ k, pell x y (n + 1) ≤ pell x y (n + 1 + k)
  | 0 => Nat.le_refl _
  | k + 1 => by
    have := pell_up x y n k
    have e := pell_two x y (n + k)
    rw [show n + 1 + (k + 1) = n + k + 2 by omega, e, show n + k + 1 = n + 1 + k by omega]
    omega
theorem pell_drop (x y n : Nat) : ∀ k, pell x y n + (k + 2) * pell x y (n + 1) ≤ pell x y (n + 2 + k)
  | 0 => by rw [pell_two]; omega
  | k + 1 => by
    have ih := pell_drop x y n k
    have e := pell_two x y (n + 1 + k)
    have u := pell_up x y n (k + 1)
    rw [show n + 2 + (k + 1) = n + 1 + k + 2 by omega, e, show n + 1 + k + 1 = n + 2 + k by omega, Nat.add_mul (k + 2) 1, Nat.one_mul]
    rw [show n + 1 + (k + 1) = n + 2 + k by omega] at u
    omega
theorem euc_size {x y : Nat} : ∀ (n : Nat) (l m : List Rat) (c s t : Nat), trim m = m → m.length ≤ n → m.length < l.length → CD s l → CD t m → s + 1 ≤ pell x y c → t + 1 ≤ pell x y (c + 1) → 3 * pell x y (c + l.length) ≤ 67000000 →
    EucOk n l m ∧ ∃ k, k + 1 ≤ pell x y (c + l.length - (euc n l m).length) ∧ CD k (euc n l m) ∧ (euc n l m).length ≤ l.length
  | 0, l, m, c, s, t, hm, hn, hlm, hl, ht, h1, h2, h3 => by
    refine ⟨trivial, s, ?_, hl, Nat.le_refl _⟩
    show s + 1 ≤ pell x y (c + l.length - l.length)
    rw [Nat.add_sub_cancel]; exact h1
  | n + 1, l, m, c, s, t, hm, hn, hlm, hl, ht, h1, h2, h3 => by
    by_cases e : m = []
    · subst e
      rw [euc_nil]
      refine ⟨.inl rfl, s, ?_, hl, Nat.le_refl _⟩
      rw [Nat.add_sub_cancel]; exact h1
    · rw [euc_step e]
      have p := len_pos e
      have m0 := last_ne hm e
      have rl := rest_len l e
      have hN : howN l m = l.length - m.length - 1 + 2 := by unfold howN; omega
      have d := pell_drop x y c (l.length - m.length - 1)
      have d2 : (l.length - m.length - 1 + 2) * (t + 1) ≤ (l.length - m.length - 1 + 2) * pell x y (c + 1) := Nat.mul_le_mul_left _ h2
      have u1 := pell_up x y (c + 1 + (l.length - m.length - 1)) (m.length - 1)
      have u2 := pell_up x y c (l.length - 1)
      have u3 := pell_up x y c (l.length - m.length - 1)
      rw [show c + 1 + (l.length - m.length - 1) + 1 + (m.length - 1) = c + l.length by omega, show c + 1 + (l.length - m.length - 1) + 1 = c + 2 + (l.length - m.length - 1) by omega] at u1
      rw [show c + 1 + (l.length - 1) = c + l.length by omega] at u2
      have cr := (hl.rst ht m0).trim
      have ih := euc_size (x := x) (y := y) n m (trim (rstL l m)) (c + (l.length - m.length)) t _ (trim_trim _) (by omega) rl ht cr
        (by rw [show c + (l.length - m.length) = c + 1 + (l.length - m.length - 1) by omega]; omega)
        (by rw [hN, show c + (l.length - m.length) + 1 = c + 2 + (l.length - m.length - 1) by omega]; omega)
        (by rw [show c + (l.length - m.length) + m.length = c + l.length by omega]; exact h3)
      rw [show c + (l.length - m.length) + m.length = c + l.length by omega] at ih
      obtain ⟨i1, k, i2, i3, i4⟩ := ih
      exact ⟨.inr ⟨PartOk.cd hl ht m0 (by rw [hN]; omega), i1⟩, k, i2, i3, by omega⟩
/-- whatever the lengths -/
theorem euc_start {l m : List Rat} {s t n : Nat} (hl : trim l = l) (hm : trim m = m) (hn : m.length ≤ n) (cl : CD s l) (cm : CD t m) (h : 3 * pell (s + 1) (t + 1) (max l.length (m.length + 1)) ≤ 67000000) :
    EucOk n l m ∧ (l ≠ [] ∨ m ≠ [] → ∃ k, k + 1 ≤ pell (s + 1) (t + 1) (max l.length (m.length + 1) - (euc n l m).length) ∧ CD k (euc n l m) ∧ (euc n l m).length ≤ max l.length m.length) := by
  by_cases hlm : m.length < l.length
  · have w := euc_size (x := s + 1) (y := t + 1) n l m 0 s t hm hn hlm cl cm (Nat.le_refl _) (Nat.le_refl _) (by rw [Nat.zero_add]; rwa [show max l.length (m.length + 1) = l.length by omega] at h)
    rw [Nat.zero_add] at w
    rw [show max l.length (m.length + 1) = l.length by omega, show max l.length m.length = l.length by omega]
    exact ⟨w.1, fun _ => w.2⟩
  · by_cases e : m = []
    · subst e
      have : l = [] := List.eq_nil_of_length_eq_zero (by have : ([] : List Rat).length = 0 := rfl; omega)
      subst this
      cases n with
      | zero => exact ⟨trivial, fun w => by simp at w⟩
      | succ n => exact ⟨.inl rfl, fun w => by simp at w⟩
    · cases n with
      | zero => exact absurd (List.eq_nil_of_length_eq_zero (by omega)) e
      | succ n =>
      rw [euc_step e]
      have p := len_pos e
      have m0 := last_ne hm e
      have rl := rest_len l e
      have hN : howN l m ≤ 1 := by unfold howN; omega
      have hN2 : howN l m * (t + 1) ≤ 1 * (t + 1) := Nat.mul_le_mul_right _ hN
      have mx : max l.length (m.length + 1) = 1 + m.length := by omega
      rw [mx] at h ⊢
      have e2 : pell (s + 1) (t + 1) (1 + 1) = s + 1 + 2 * (t + 1) := rfl
      have u := pell_up (s + 1) (t + 1) 1 (m.length - 1)
      rw [show 1 + 1 + (m.length - 1) = 1 + m.length by omega] at u
      have w := euc_size (x := s + 1) (y := t + 1) n m (trim (rstL l m)) 1 t (s + howN l m * (t + 1)) (trim_trim _) (by omega) rl cm (cl.rst cm m0).trim (Nat.le_refl _) (by rw [e2]; omega) h
      refine ⟨.inr ⟨PartOk.cd cl cm m0 (by omega), w.1⟩, fun _ => ?_⟩
      rw [show max l.length m.length = m.length by omega]
      exact w.2
end DL
namespace DL
open PySem PySem.Spec PyProof.Rows L2
local macro_rules | `(tactic| walk_at "dl") => `(tactic| simp -implicitDefEqProofs only [dSeq, dNext, dIfS, dB, dNot, dAnd, dOr, d2, fLt, fLe, fGt, fGe, fEqI, fNeI, fEqB, fNeB, fEqS, fNeS, fIsN_non, fNotN_non, fIsB, fNotB, fSub, fMul, fDiv, fDivE, fMod, fPow, fI, fI0, asI_int, asB_bl, asT_tup, asL_lst, asQ_tup, asQ_lst, asS_str, as1_one, as2_two, frz_v, frz_own, fAdd_int, fAdd_tup, fAdd_lst, fIx_tup0, fIx_tup1, fIx_lst0, fIx_lst1, fLen_tup, fLen_lst, fInt_bl, fTuple_tup, fTuple_lst, isN_int, isN_tup, isN_lst, isN_bl, isN_str, isN_non, dVar, dC, dNeg, dSet, dSetO, dPar, dAsg, dAug, dRet, dRetO, dRetV, dRetN, dTup, dCons, dNil, dFn, dFnO, lenIs, dCB, fAbs, fMax2, fMin2, dIsi, dAndV, dOrV, dNotV, dIf, dFor, iSeq, iRange1, iRange2, iZip, aName, aTup, aCons, aNil, dLc, dYes, dLitO, noOwn, wipeE, ends, startD, setV, setO, ownAt, asV, dLst, dListO, dLenO, dTupO, dFrz, dApp, dPop, dClear, dSub, dIxO, d2O, fCatO, fRepO, pt_non, isi_non_int, isi_non_bool, isi_non_tuple, isi_non_list, isi_non_str, pt_bl, isi_bl_int, isi_bl_bool, isi_bl_tuple, isi_bl_list, isi_bl_str, pt_int, isi_int_int, isi_int_bool, isi_int_tuple, isi_int_list, isi_int_str, pt_str, isi_str_int, isi_str_bool, isi_str_tuple, isi_str_list, isi_str_str, pt_tup, isi_tup_int, isi_tup_bool, isi_tup_tuple, isi_tup_list, isi_tup_str, pt_lst, isi_lst_int, isi_lst_bool, isi_lst_tuple, isi_lst_list, isi_lst_str, Br_true, Br_false, Br_dec, Br_not, tt_imp, List.map_cons, List.map_nil, List.cons_append, List.nil_append, List.replicate_succ, List.replicate_zero, List.getElem?_cons_zero, List.getElem?_cons_succ, List.set_nil, List.set_cons_zero, List.set_cons_succ, List.length_cons, List.length_nil, Bool.not_true, Bool.not_false, decide_eq_true_eq, not_true_eq_false, not_false_eq_true, true_and, and_true])
local macro_rules | `(tactic| walk_at "d1") => `(tactic| simp -implicitDefEqProofs only [aName, setV, setO, List.set_cons_zero, List.set_cons_succ])
local macro_rules | `(tactic| walk_at "dn") => `(tactic| simp -implicitDefEqProofs only [fIx_nq0, fIx_nq1, asN_nq, num_e, part_e, same_e, nn_e2, over_e, l_over_e, c_plus, c_minus, c_times, c_before, c_l_plus, c_l_minus, c_l_times, num_eq, num_lt0, sub_lt0, due_nq, asR_r, asR_t, asR_l, asQ_r, fLen_r, fTuple_r, pt_r, asT1_t, okD_nq, okD_lst, okD_tup, okD_nil, okD_nilt, eqD_nq, eqD_lst, eqD_tup, eqD_nil, eqD_nilt, nqs_len, dCmpO, eqB, neB, dMeth, dChain, iEnum, iRev, iRange3, as3_three, dBor, dCatO, fl_bl, fEqD, fNeD, c_Exact_nought, c_Exact_one, c_Exact_plus, c_Exact_minus, c_Exact_times, c_Exact_over, c_Exact_is_nought, List.tail_cons, D.ins.injEq, exists_eq', exists_and_left, and_true, true_and, dSl, dPn, dPs, fSl_lst, fSl_tup, dSeq, dNext, dIfS, dB, dNot, dAnd, dOr, d2, fLt, fLe, fGt, fGe, fEqI, fNeI, fEqB, fNeB, fEqS, fNeS, fIsN_non, fNotN_non, fIsB, fNotB, fSub, fMul, fDiv, fDivE, fMod, fPow, fI, fI0, asI_int, asB_bl, asT_tup, asL_lst, asQ_tup, asQ_lst, asS_str, as1_one, as2_two, frz_v, frz_own, fAdd_int, fAdd_tup, fAdd_lst, fIx_tup0, fIx_tup1, fIx_lst0, fIx_lst1, fLen_tup, fLen_lst, fInt_bl, fTuple_tup, fTuple_lst, isN_int, isN_tup, isN_lst, isN_bl, isN_str, isN_non, dVar, dC, dNeg, dSet, dSetO, dPar, dAsg, dAug, dRet, dRetO, dRetV, dRetN, dTup, dCons, dNil, dFn, dFnO, lenIs, dCB, fAbs, fMax2, fMin2, dIsi, dAndV, dOrV, dNotV, dIf, dFor, iSeq, iRange1, iRange2, iZip, aName, aTup, aCons, aNil, dLc, dYes, dLitO, noOwn, wipeE, ends, startD, setV, setO, ownAt, asV, dLst, dListO, dLenO, dTupO, dFrz, dApp, dPop, dClear, dSub, dIxO, d2O, fCatO, fRepO, pt_non, isi_non_int, isi_non_bool, isi_non_tuple, isi_non_list, isi_non_str, pt_bl, isi_bl_int, isi_bl_bool, isi_bl_tuple, isi_bl_list, isi_bl_str, pt_int, isi_int_int, isi_int_bool, isi_int_tuple, isi_int_list, isi_int_str, pt_str, isi_str_int, isi_str_bool, isi_str_tuple, isi_str_list, isi_str_str, pt_tup, isi_tup_int, isi_tup_bool, isi_tup_tuple, isi_tup_list, isi_tup_str, pt_lst, isi_lst_int, isi_lst_bool, isi_lst_tuple, isi_lst_list, isi_lst_str, Br_true, Br_false, Br_dec, Br_not, tt_imp, List.map_cons, List.map_nil, List.cons_append, List.nil_append, List.replicate_succ, List.replicate_zero, List.getElem?_cons_zero, List.getElem?_cons_succ, List.set_nil, List.set_cons_zero, List.set_cons_succ, List.length_cons, List.length_nil, Bool.not_true, Bool.not_false, decide_eq_true_eq, not_true_eq_false, not_false_eq_true, true_and, and_true])
/-! ### the common factor, made -/
def monic (g : List Rat) : List Rat := g.map fun a => a / g.getD (g.length - 1) 0
def gR (l m : List Rat) : List Rat := euc m.length l m
def gL (l m : List Rat) : List Rat := monic (gR l m)
def c_common_by : DFn := fun ds st Kf => ∃ b l c m, ds = [.ins 0 none, rD b l, rD c m] ∧ l.length ≤ 1000 ∧ m.length ≤ 1000 ∧ EucOk (trim m).length (trim l) (trim m) ∧ AllSq (gR (trim l) (trim m)) ∧ Kf (.v (.tup (nqs (gL (trim l) (trim m))))) st
def b_common_by : DSv := (dSeq (dSet 3 (dFn c_trimmed (lenIs 2 (dCons (dVar 0) (dCons (dVar 1) dNil)))))
  (dSeq (dSet 4 (dFn c_trimmed (lenIs 2 (dCons (dVar 0) (dCons (dVar 2) dNil)))))
  (dSeq (dWhile (dB (d2 fGt (dCB fLen (dCons (dVar 4) dNil)) (dC (.int 0)))) (dAsg (dTup (dCons (dVar 4) (dCons (d2 fIx (dFn c_parted_by (lenIs 3 (dCons (dVar 0) (dCons (dVar 3) (dCons (dVar 4) dNil))))) (dC (.int 1))) dNil))) (aTup 2 (aCons (aName 3) (aCons (aName 4) aNil)))))
  (dRet (dCB fTuple (dCons (asV (dLc (iSeq (dVar 3)) (aName 5) dYes (dMeth 0 c_Exact_over 2 (dVar 0) (dCons (dVar 5) (dCons (d2 fIx (dVar 3) (dNeg (dC (.int 1)))) dNil))) [5])) dNil))))))
theorem d_common_by (args : List D) (st : Stt) (Kf : Sl → Stt → Prop) (hl : args.length = 3) (q : c_common_by args st Kf) : b_common_by (ends Kf) (startD 3 args, st) := by
  obtain ⟨b, l, c, m, rfl, h1, h2, ok, sg, q⟩ := q
  have hg : trim (gR (trim l) (trim m)) = gR (trim l) (trim m) := euc_trim _ _ _ (trim_trim _) (trim_trim _)
  unfold b_common_by
  walk_at "dn"
  refine ⟨b, l, rfl, by omega, ?_⟩
  walk_at "dn"
  refine ⟨c, m, rfl, by omega, ?_⟩
  walk_at "dn"
  refine while_of (fun n ρ => ∃ x y, ρ = ([some (.v (.ins 0 none)), some (.v (rD b l)), some (.v (rD c m)), some (.v (.tup (nqs x))), some (.v (.tup (nqs y))), none], st) ∧ trim y = y ∧ y.length ≤ n ∧ x.length ≤ 1000 ∧ y.length ≤ 1000 ∧ EucOk n x y ∧ euc n x y = gR (trim l) (trim m)) (trim m).length ⟨trim l, trim m, rfl, trim_trim _, Nat.le_refl _, by have := trim_len l; omega, by have := trim_len m; omega, ok, rfl⟩ ?_
  rintro n ρ ⟨x, y, rfl, ty, hn, lx, ly, eo, eg⟩
  walk_at "dn"
  refine ⟨fun h => ?_, fun h => ?_⟩
  · cases n with
    | zero => omega
    | succ n =>
    have y0 : y ≠ [] := fun e => by subst e; simp at h
    have rl := rest_len x y0
    rcases eo with e | ⟨po, eo⟩
    · exact absurd e y0
    rw [euc_step y0] at eg
    refine ⟨true, x, true, y, rfl, lx, ly, by omega, last_ne ty y0, po, ?_⟩
    walk_at "dn"
    exact ⟨by decide, n, by omega, y, _, rfl, trim_trim _, by omega, ly, by omega, eo, eg⟩
  · have y0 : y = [] := List.eq_nil_of_length_eq_zero (by omega)
    subst y0
    rw [euc_nil] at eg
    subst eg
    refine lc_map (fun a => a / (gR (trim l) (trim m)).getD ((gR (trim l) (trim m)).length - 1) 0) _ [] st (fun a ha Kd k => ?_) (by simp; omega) ?_
    · walk_at "dn"
      have hne : gR (trim l) (trim m) ≠ [] := List.ne_nil_of_mem ha
      show fIx (rD true _) (D.int (-1)) _
      rw [fIx_last (len_pos hne)]
      walk_at "dn"
      exact ⟨last_ne hg hne, sg a ha, sg.at _, k _ rfl⟩
    · walk_at "dn"
      exact q
/-! ### a quotient, made -/
def qT (l m : List Rat) : List Rat := trim (oftL l (gL l m))
def qB (l m : List Rat) : List Rat := trim (oftL m (gL l m))
def quoT (l m : List Rat) : List Rat := (qT l m).map fun a => a / (qB l m).getD 0 0
def quoB (l m : List Rat) : List Rat := (qB l m).map fun a => a / (qB l m).getD 0 0
structure QuoOk (l m : List Rat) : Prop where
  e : EucOk m.length l m
  g : AllSq (gR l m)
  p1 : PartOk l (gL l m)
  p2 : PartOk m (gL l m)
  s1 : AllSq (qT l m)
  s2 : AllSq (qB l m)
theorem monic_len (g : List Rat) : (monic g).length = g.length := by simp [monic]
theorem monic_getD (g : List Rat) (i : Nat) : (monic g).getD i 0 = g.getD i 0 / g.getD (g.length - 1) 0 := getD_map0 (f := fun a => a / g.getD (g.length - 1) 0) (by grind) g i
theorem monic_last {g : List Rat} (hg : trim g = g) (h : g ≠ []) : (monic g).getD ((monic g).length - 1) 0 = 1 := by
  rw [monic_getD, monic_len, Rat.div_def, Rat.mul_inv_cancel _ (last_ne hg h)]
theorem map_trim {g : List Rat} {f : Rat → Rat} (hg : trim g = g) (hf : ∀ x, x ≠ 0 → f x ≠ 0) : trim (g.map f) = g.map f := by
  rcases trim_last g with e | ⟨m, a, ha, e⟩
  · rw [hg] at e; rw [e]; rfl
  · rw [hg] at e
    rw [e, List.map_append]
    exact trim_snoc (hf a ha)
theorem div_ne {x y : Rat} (hy : y ≠ 0) (hx : x ≠ 0) : x / y ≠ 0 := fun e => hx (by have := Rat.div_mul_cancel (a := x) hy; rw [e] at this; rw [← this]; exact Rat.zero_mul _)
theorem over_trim {g : List Rat} {q : Rat} (hq : q ≠ 0) (hg : trim g = g) : trim (g.map fun a => a / q) = g.map fun a => a / q := map_trim (f := fun a => a / q) hg fun x hx => div_ne hq hx
theorem monic_trim {g : List Rat} (hg : trim g = g) : trim (monic g) = monic g := by
  by_cases h : g = []
  · subst h; rfl
  · exact over_trim (last_ne hg h) hg
theorem gL_ne {l m : List Rat} (hl : trim l = l) (hm : trim m = m) (h : l ≠ [] ∨ m ≠ []) : gL l m ≠ [] := fun e => euc_ne hl hm (Nat.le_refl _) h (by
  have := congrArg List.length e
  rw [show gL l m = monic (gR l m) from rfl, monic_len] at this
  exact List.eq_nil_of_length_eq_zero this)
theorem gL_trim {l m : List Rat} (hl : trim l = l) (hm : trim m = m) : trim (gL l m) = gL l m := monic_trim (euc_trim _ _ _ hl hm)
theorem gL_last {l m : List Rat} (hl : trim l = l) (hm : trim m = m) (h : l ≠ [] ∨ m ≠ []) : (gL l m).getD ((gL l m).length - 1) 0 = 1 := monic_last (euc_trim _ _ _ hl hm) (euc_ne hl hm (Nat.le_refl _) h)
theorem Dv.monic {g : List Rat} {f : PS} (hg : trim g = g) (h : Dv g f) : Dv (monic g) f := by
  by_cases z : g = []
  · subst z; exact h
  · obtain ⟨q, e⟩ := h
    refine ⟨q.map fun a => a * g.getD (g.length - 1) 0, ?_⟩
    have := last_ne hg z
    rw [ps_scale, show DL.monic g = g.map fun a => a / g.getD (g.length - 1) 0 from rfl, ps_over, e]
    generalize g.getD (g.length - 1) 0 = x at *
    have : PS.C x * PS.C (1 / x) = 1 := by rw [C_mul, Rat.div_def, Rat.one_mul, Rat.mul_inv_cancel _ this]; rfl
    generalize PS.C x = a at *; generalize PS.C (1 / x) = b at *; generalize ps q = c at *; generalize ps g = d at *
    grind
theorem Dv.of_monic {g : List Rat} {h : List Rat} (d : Dv h (ps g)) : Dv h (ps (DL.monic g)) := by
  rw [show DL.monic g = g.map fun a => a / g.getD (g.length - 1) 0 from rfl, ps_over, ← ps_one]
  exact d.mul _
theorem gL_dv {l m : List Rat} (hl : trim l = l) (hm : trim m = m) : Dv (gL l m) (ps l) ∧ Dv (gL l m) (ps m) := by
  have d := euc_dv m.length l m hm (Nat.le_refl _)
  have t := euc_trim m.length l m hl hm
  exact ⟨d.1.monic t, d.2.monic t⟩
theorem gL_most {l m h : List Rat} (hm : trim m = m) (d1 : Dv h (ps l)) (d2 : Dv h (ps m)) : Dv h (ps (gL l m)) := (euc_most m.length l m hm d1 d2).of_monic
/-- what goes in leaves no rest -/
theorem dv_part {g f : List Rat} (hg : trim g = g) (h : g ≠ []) (d : Dv g (ps f)) : trim (rstL f g) = [] ∧ ps f = ps (trim (oftL f g)) * ps g := by
  obtain ⟨q, e⟩ := d
  have w := part_told (l := f) (f := trim q) (r := []) (trim_trim _) rfl hg h (len_pos h) (by rw [ps_trim, ps_nil, e]; generalize ps q * ps g = a; grind)
  exact ⟨w.2, by rw [w.1, ps_trim]; exact e⟩
theorem quo_id {l m : List Rat} (hl : trim l = l) (hm : trim m = m) (h : m ≠ []) : ps l = ps (qT l m) * ps (gL l m) ∧ ps m = ps (qB l m) * ps (gL l m) := by
  have d := gL_dv hl hm
  have g := gL_trim hl hm
  have n := gL_ne hl hm (.inr h)
  exact ⟨(dv_part g n d.1).2, (dv_part g n d.2).2⟩
theorem co_zero_mul (a b : PS) : (a * b).co 0 = a.co 0 * b.co 0 := by
  rw [PS.co_mul, sm_succ, sm_zero]; exact Rat.zero_add _
theorem qB_zero {l m : List Rat} (hl : trim l = l) (hm : trim m = m) (h : m ≠ []) (h0 : m.getD 0 0 ≠ 0) : (qB l m).getD 0 0 ≠ 0 := fun e => h0 (by
  have := congrArg (fun f => f.co 0) (quo_id hl hm h).2
  simp only [co_zero_mul, ps_co] at this
  rw [this, e]; exact Rat.zero_mul _)
theorem quo_cross {l m : List Rat} (hl : trim l = l) (hm : trim m = m) (h : m ≠ []) : ps (quoT l m) * ps m = ps (quoB l m) * ps l := by
  have i := quo_id hl hm h
  unfold quoT quoB
  rw [ps_over, ps_over, i.1, i.2, ← i.1, ← i.2]
  generalize PS.C _ = c
  rw [i.1, i.2]
  generalize ps (qT l m) = a; generalize ps (qB l m) = b; generalize ps (gL l m) = g
  grind
def c_over_all : DFn := fun ds st Kf => ∃ b l q, ds = [.ins 0 none, rD b l, nq q] ∧ l.length ≤ 1000 ∧ AllSq l ∧ Sq q ∧ q ≠ 0 ∧ Kf (.v (.tup (nqs (l.map fun a => a / q)))) st
def c_quotient_in : DFn := fun ds st Kf => ∃ b l c m, ds = [.ins 0 none, rD b l, rD c m] ∧ l.length ≤ 1000 ∧ m.length ≤ 1000 ∧ trim m ≠ [] ∧ (qB (trim l) (trim m)).getD 0 0 ≠ 0 ∧ QuoOk (trim l) (trim m) ∧ Kf (.v (.tup [.tup (nqs (quoT (trim l) (trim m))), .tup (nqs (quoB (trim l) (trim m)))])) st
def b_over_all : DSv := (dRet (dCB fTuple (dCons (asV (dLc (iSeq (dVar 1)) (aName 3) dYes (dMeth 0 c_Exact_over 2 (dVar 0) (dCons (dVar 3) (dCons (dVar 2) dNil))) [3])) dNil)))
def b_quotient_in : DSv := (dSeq (dPar 3 4 (dCons (dFn c_trimmed (lenIs 2 (dCons (dVar 0) (dCons (dVar 1) dNil)))) (dCons (dFn c_trimmed (lenIs 2 (dCons (dVar 0) (dCons (dVar 2) dNil)))) dNil)))
  (dSeq (dIfS (dB (d2 fEqI (dCB fLen (dCons (dVar 4) dNil)) (dC (.int 0)))) dNever dNext)
  (dSeq (dSet 5 (dFn c_common_by (lenIs 3 (dCons (dVar 0) (dCons (dVar 3) (dCons (dVar 4) dNil))))))
  (dSeq (dPar 3 4 (dCons (d2 fIx (dFn c_parted_by (lenIs 3 (dCons (dVar 0) (dCons (dVar 3) (dCons (dVar 5) dNil))))) (dC (.int 0))) (dCons (d2 fIx (dFn c_parted_by (lenIs 3 (dCons (dVar 0) (dCons (dVar 4) (dCons (dVar 5) dNil))))) (dC (.int 0))) dNil)))
  (dSeq (dIfS (dB (dMeth 0 c_Exact_is_nought 1 (dVar 0) (dCons (d2 fIx (dVar 4) (dC (.int 0))) dNil))) dNever dNext)
  (dRet (dTup (dCons (dFn c_over_all (lenIs 3 (dCons (dVar 0) (dCons (dVar 3) (dCons (d2 fIx (dVar 4) (dC (.int 0))) dNil))))) (dCons (dFn c_over_all (lenIs 3 (dCons (dVar 0) (dCons (dVar 4) (dCons (d2 fIx (dVar 4) (dC (.int 0))) dNil))))) dNil)))))))))
theorem d_over_all (args : List D) (st : Stt) (Kf : Sl → Stt → Prop) (hl : args.length = 3) (q : c_over_all args st Kf) : b_over_all (ends Kf) (startD 1 args, st) := by
  obtain ⟨b, l, x, rfl, h1, s1, s2, x0, q⟩ := q
  unfold b_over_all
  walk_at "dn"
  refine lc_map (fun a => a / x) _ [] st (fun a ha Kd k => ?_) (by simp; omega) ?_
  · walk_at "dn"
    exact ⟨x0, s1 a ha, s2, k _ rfl⟩
  · walk_at "dn"
    exact q
theorem d_quotient_in (args : List D) (st : Stt) (Kf : Sl → Stt → Prop) (hl : args.length = 3) (q : c_quotient_in args st Kf) : b_quotient_in (ends Kf) (startD 3 args, st) := by
  obtain ⟨b, l, c, m, rfl, h1, h2, mn, b0, ok, q⟩ := q
  have tl := trim_len l
  have tm := trim_len m
  unfold b_quotient_in
  walk_at "dn"
  refine ⟨b, l, rfl, by omega, ?_⟩
  walk_at "dn"
  refine ⟨c, m, rfl, by omega, ?_⟩
  walk_at "dn"
  have e1 := trim_trim l
  have e2 := trim_trim m
  refine ⟨fun h => absurd (List.eq_nil_of_length_eq_zero (by omega)) mn, fun _ => ⟨true, trim l, true, trim m, rfl, by omega, by omega, ?_, ?_, ?_⟩⟩
  · rw [e1, e2]; exact ok.e
  · rw [e1, e2]; exact ok.g
  rw [e1, e2]
  generalize trim l = L at *
  generalize trim m = M at *
  have gl := gL_last e1 e2 (.inr mn)
  have gn := gL_ne e1 e2 (.inr mn)
  have gd := (gL_dv e1 e2).2.len (gL_trim e1 e2) e2 mn
  walk_at "dn"
  refine ⟨true, L, true, gL L M, rfl, by omega, by omega, len_pos gn, by rw [gl]; decide, ok.p1, ?_⟩
  walk_at "dn"
  refine ⟨true, M, true, gL L M, rfl, by omega, by omega, len_pos gn, by rw [gl]; decide, ok.p2, ?_⟩
  walk_at "dn"
  have bl : 1 ≤ (qB L M).length := by
    refine len_pos fun e => b0 ?_
    rw [e]; rfl
  have lo : (qT L M).length ≤ 1000 := by
    have := trim_len (oftL L (gL L M))
    rw [oft_len] at this
    unfold howN at this
    have := len_pos gn
    show (trim (oftL L (gL L M))).length ≤ 1000
    omega
  have lb : (qB L M).length ≤ 1000 := by
    have := trim_len (oftL M (gL L M))
    rw [oft_len] at this
    unfold howN at this
    have := len_pos gn
    show (trim (oftL M (gL L M))).length ≤ 1000
    omega
  have ix : ∀ P : D → Prop, fIx (D.tup (nqs (trim (oftL M (gL L M))))) (D.int 0) P = P (nq ((qB L M).getD 0 0)) := fun P => by
    show fIx (rD true (qB L M)) _ _ = _
    rw [fIx_in (by decide) (by omega)]
    rfl
  rw [ix]
  walk_at "dn"
  refine ⟨fun h => absurd h b0, fun _ => ?_⟩
  rw [ix]
  refine ⟨true, qT L M, _, rfl, lo, ok.s1, ok.s2.at 0, b0, ?_⟩
  simp only [ix]
  exact ⟨true, qB L M, _, rfl, lb, ok.s2, ok.s2.at 0, b0, by decide, q⟩
end DL
namespace DL
open PySem PySem.Spec PyProof.Rows L2
/-! ### the sizes of a quotient made -/
theorem pell_le {x y i j : Nat} (h : 1 ≤ i) (k : i ≤ j) : pell x y i ≤ pell x y j := by
  have := pell_up x y (i - 1) (j - i)
  rwa [show i - 1 + 1 = i by omega, show i + (j - i) = j by omega] at this
theorem gL_cd {l m : List Rat} {s t W : Nat} (hl : trim l = l) (hm : trim m = m) (h : m ≠ []) (cl : CD s l) (cm : CD t m) (hP : 3 * pell (s + 1) (t + 1) (max l.length (m.length + 1)) ≤ 67000000)
    (w1 : 1 ≤ W) (hW : pell (s + 1) (t + 1) (max l.length (m.length + 1) - 2) ≤ W) : EucOk m.length l m ∧ AllSq (gR l m) ∧ CD W (gL l m) ∧ 1 ≤ (gL l m).length ∧ (gL l m).length ≤ m.length := by
  have z := euc_start hl hm (Nat.le_refl _) cl cm hP
  obtain ⟨k, k1, k2, k3⟩ := z.2 (.inr h)
  have gt : trim (gR l m) = gR l m := euc_trim _ _ _ hl hm
  have gn : gR l m ≠ [] := euc_ne hl hm (Nat.le_refl _) (.inr h)
  have g1 := len_pos gn
  have dv := (euc_dv m.length l m hm (Nat.le_refl _)).2
  have gd : (gR l m).length ≤ m.length := dv.len gt hm h
  have e : (gL l m).length = (gR l m).length := monic_len _
  change k + 1 ≤ pell (s + 1) (t + 1) (max l.length (m.length + 1) - (gR l m).length) at k1
  change CD k (gR l m) at k2
  have p1 := pell_le (x := s + 1) (y := t + 1) (i := max l.length (m.length + 1) - (gR l m).length) (j := max l.length (m.length + 1)) (by omega) (by omega)
  refine ⟨z.1, k2.all.sq (by omega), ?_, by omega, by omega⟩
  by_cases h2 : (gR l m).length = 1
  · obtain ⟨a, ea⟩ := List.length_eq_one_iff.mp h2
    have : gL l m = [1] := by
      have l0 := last_ne gt gn
      show monic (gR l m) = _
      rw [ea] at l0 ⊢
      have l1 : a ≠ 0 := l0
      show [a / a] = [1]
      rw [Rat.div_def, Rat.mul_inv_cancel _ l1]
    rw [this]
    exact CD.one (BQ.int (i := 1) (Nat.lt_of_lt_of_le (by decide : 1 < 2 ^ 1) (pow_mono w1)) w1)
  · have p2 := pell_le (x := s + 1) (y := t + 1) (i := max l.length (m.length + 1) - (gR l m).length) (j := max l.length (m.length + 1) - 2) (by omega) (by omega)
    exact (k2.over_self (last_ne gt gn)).mono (by omega)
theorem quo_cd {l m : List Rat} {s t W : Nat} (hl : trim l = l) (hm : trim m = m) (h : m ≠ []) (cl : CD s l) (cm : CD t m) (hP : 3 * pell (s + 1) (t + 1) (max l.length (m.length + 1)) ≤ 67000000)
    (w1 : 1 ≤ W) (hW : pell (s + 1) (t + 1) (max l.length (m.length + 1) - 2) ≤ W) (h1 : s + l.length * (W + 1) + 2 * W ≤ 67000000) (h2 : t + m.length * (W + 1) + 2 * W ≤ 67000000) :
    QuoOk l m ∧ CD (s + l.length * (W + 1)) (qT l m) ∧ CD (t + m.length * (W + 1)) (qB l m) ∧ (qT l m).length ≤ l.length ∧ (qB l m).length ≤ m.length := by
  obtain ⟨a1, a2, a3, a4, a5⟩ := gL_cd hl hm h cl cm hP w1 hW
  have g0 : (gL l m).getD ((gL l m).length - 1) 0 ≠ 0 := by rw [gL_last hl hm (.inr h)]; decide
  have n1 : howN l (gL l m) ≤ l.length := by unfold howN; omega
  have n2 : howN m (gL l m) ≤ m.length := by unfold howN; omega
  have m1 := Nat.mul_le_mul_right (W + 1) n1
  have m2 := Nat.mul_le_mul_right (W + 1) n2
  have c1 : CD (s + l.length * (W + 1)) (qT l m) := (cl.oft a3 g0).trim.mono (by omega)
  have c2 : CD (t + m.length * (W + 1)) (qB l m) := (cm.oft a3 g0).trim.mono (by omega)
  refine ⟨⟨a1, a2, PartOk.cd cl a3 g0 (by omega), PartOk.cd cm a3 g0 (by omega), c1.all.sq (by omega), c2.all.sq (by omega)⟩, c1, c2, ?_, ?_⟩
  · have := trim_len (oftL l (gL l m)); rw [oft_len] at this; show (trim _).length ≤ _; omega
  · have := trim_len (oftL m (gL l m)); rw [oft_len] at this; show (trim _).length ≤ _; omega
theorem quoT_cd {l m : List Rat} {s t : Nat} (h1 : CD s (qT l m)) (h2 : CD t (qB l m)) (h0 : (qB l m).getD 0 0 ≠ 0) : CD (s + t) (quoT l m) ∧ CD t (quoB l m) := ⟨h1.over_by h2 h0, h2.over_self h0⟩

/-! ### the sizes of a series -/
theorem figN_zero (B : List Rat) : figN B 0 = 0 := by unfold figN; omega
theorem mul_le_abs {i j : Int} {a b : Nat} (ha : i.natAbs < 2 ^ a) (hb : j.natAbs < 2 ^ b) {c : Nat} (h : a + b ≤ c) : (i * j).natAbs < 2 ^ c := abs_up (mul_abs ha hb) h
/-- a term of the figure -/
theorem term_e {T B : List Rat} {s t c i j : Nat} {d e : Int} {M : Nat → Int} (hB : Frac t (fun k => B.getD k 0) e M) (hi : j + 1 ≤ i)
    (ih : ∃ G : Int, (serL T B i).getD (i - (j + 1)) 0 * ((d * e ^ (i - (j + 1)) : Int) : Rat) = (G : Rat) ∧ G.natAbs < 2 ^ (s + (i - (j + 1)) * (t + c))) :
    ∃ H : Int, B.getD (j + 1) 0 * (serL T B i).getD (i - (j + 1)) 0 * ((d * e ^ i : Int) : Rat) = (H : Rat) ∧ H.natAbs < 2 ^ (s + i * t + (i - 1) * c) := by
  obtain ⟨G, eG, hG⟩ := ih
  refine ⟨M (j + 1) * G * e ^ j, ?_, ?_⟩
  · have e1 : B.getD (j + 1) 0 * (e : Rat) = (M (j + 1) : Rat) := hB.e (j + 1)
    have e2 : d * e ^ i = e * (d * e ^ (i - (j + 1))) * e ^ j := by
      conv => lhs; rw [show i = i - (j + 1) + 1 + j by omega, Int.pow_add, Int.pow_succ]
      rw [← Int.mul_assoc, ← Int.mul_assoc, Int.mul_comm e (d * _)]
    rw [e2, Rat.intCast_mul (e * (d * e ^ (i - (j + 1)))), Rat.intCast_mul e, Rat.intCast_mul (M (j + 1) * G), Rat.intCast_mul (M (j + 1)), ← eG, ← e1]
    generalize ((d * e ^ (i - (j + 1)) : Int) : Rat) = x
    generalize ((e ^ j : Int) : Rat) = y
    generalize (e : Rat) = z
    generalize B.getD (j + 1) 0 = u
    generalize (serL T B i).getD (i - (j + 1)) 0 = v
    grind
  · refine abs_up (mul_pow_abs (mul_abs (hB.aa (j + 1)) hG) hB.dd j) ?_
    have e1 : (i - (j + 1)) * (t + c) = (i - (j + 1)) * t + (i - (j + 1)) * c := Nat.mul_add _ _ _
    have e2 : (i - (j + 1)) * c ≤ (i - 1) * c := Nat.mul_le_mul_right _ (by omega)
    have e3 : i * t = (i - (j + 1)) * t + (t + t * j) := by
      have : i = i - (j + 1) + (1 + j) := by omega
      conv => lhs; rw [this, Nat.add_mul, Nat.add_mul, Nat.one_mul, Nat.mul_comm j t]
    omega
theorem ser_frac {T B : List Rat} {s t c : Nat} {d e : Int} {A M : Nat → Int} (hT : Frac s (fun k => T.getD k 0) d A) (hB : Frac t (fun k => B.getD k 0) e M) (hc : B.length ≤ 2 ^ c) :
    ∀ i j, j ≤ figN B i → ∃ G : Int, figP T B (serL T B i) i j * ((d * e ^ i : Int) : Rat) = (G : Rat) ∧ G.natAbs < 2 ^ (s + i * (t + c)) := by
  intro i
  induction i using Nat.strongRecOn with
  | ind i ih =>
    cases i with
    | zero =>
      intro j hj
      rw [figN_zero] at hj
      have : j = 0 := by omega
      subst this
      refine ⟨A 0, ?_, by rw [Nat.zero_mul]; exact hT.aa 0⟩
      rw [Int.pow_zero, Int.mul_one]
      exact hT.e 0
    | succ i =>
      have inner : ∀ j, j ≤ figN B (i + 1) → ∃ G : Int, figP T B (serL T B (i + 1)) (i + 1) j * ((d * e ^ (i + 1) : Int) : Rat) = (G : Rat) ∧ G.natAbs < (j + 1) * 2 ^ (s + (i + 1) * t + i * c) := by
        intro j
        induction j with
        | zero =>
          intro _
          refine ⟨A (i + 1) * e ^ (i + 1), ?_, ?_⟩
          · show T.getD (i + 1) 0 * _ = _
            rw [Rat.intCast_mul, Rat.intCast_mul, ← hT.e (i + 1)]
            show _ = T.getD (i + 1) 0 * _ * _
            rw [Rat.mul_assoc]
          · have := mul_pow_abs (hT.aa (i + 1)) hB.dd (i + 1)
            have k : 2 ^ (s + t * (i + 1)) ≤ 2 ^ (s + (i + 1) * t + i * c) := pow_mono (by rw [Nat.mul_comm t]; omega)
            rw [Nat.zero_add, Nat.one_mul]
            exact Nat.lt_of_lt_of_le this k
        | succ j ihj =>
          intro hj
          obtain ⟨G, eG, hG⟩ := ihj (by omega)
          have hji : j + 1 ≤ i + 1 := by unfold figN at hj; omega
          obtain ⟨H, eH, hH⟩ := term_e (T := T) (s := s) (c := c) (d := d) hB hji (by
            rw [serL_getD T B (by omega)]
            exact ih _ (by omega) _ (Nat.le_refl _))
          refine ⟨G - H, ?_, ?_⟩
          · rw [Rat.intCast_sub, ← eG, ← eH]
            show (figP T B (serL T B (i + 1)) (i + 1) j - _) * _ = _
            generalize ((d * e ^ (i + 1) : Int) : Rat) = x
            grind
          · have := Int.natAbs_sub_le G H
            rw [show i + 1 - 1 = i by omega] at hH
            rw [Nat.add_mul (j + 1) 1, Nat.one_mul]
            omega
      intro j hj
      obtain ⟨G, eG, hG⟩ := inner j hj
      refine ⟨G, eG, ?_⟩
      have hb : j + 1 ≤ 2 ^ c := by
        have := Nat.two_pow_pos c
        unfold figN at hj; omega
      have e2 : s + (i + 1) * (t + c) = c + (s + (i + 1) * t + i * c) := by rw [Nat.mul_add, Nat.add_mul i 1 c, Nat.one_mul]; omega
      rw [e2, Nat.pow_add]
      exact Nat.lt_of_lt_of_le hG (Nat.mul_le_mul_right _ hb)
theorem SerOk.cd {T B : List Rat} {s t c n : Nat} (hT : CD s T) (hB : CD t B) (hc : B.length ≤ 2 ^ c) (h : s + n * (t + c) + t ≤ 67000000) : SerOk T B n := by
  have aT : AllSq T := hT.all.sq (by omega)
  have aB : AllSq B := hB.all.sq (by omega)
  obtain ⟨d, A, hT'⟩ := hT
  obtain ⟨e, M, hB'⟩ := hB
  have f := ser_frac (c := c) hT' hB' hc
  have dn : ∀ i, d * e ^ i ≠ 0 := fun i => Int.mul_ne_zero hT'.d0 (pow_ne hB'.d0 i)
  have db : ∀ i, (d * e ^ i).natAbs < 2 ^ (s + i * (t + c)) := fun i => abs_up (mul_pow_abs hT'.dd hB'.dd i) (by rw [Nat.mul_add, Nat.mul_comm t]; omega)
  refine ⟨fun i hi j hj => ?_, fun i hi j hj => ?_, aB, aT⟩
  · obtain ⟨G, eG, hG⟩ := f i j hj
    have := Nat.mul_le_mul_right (t + c) (Nat.le_of_lt hi)
    exact (BQ.frac (dn i) (db i) hG eG).mono (by omega)
  · have hji : j + 1 ≤ i := by unfold figN at hj; omega
    obtain ⟨H, eH, hH⟩ := term_e (T := T) (s := s) (c := c) (d := d) hB' hji (by
      rw [serL_getD T B (by omega)]
      exact f _ _ (Nat.le_refl _))
    have := Nat.mul_le_mul_right (t + c) (Nat.le_of_lt hi)
    have k : s + i * t + (i - 1) * c ≤ s + i * (t + c) := by
      have := Nat.mul_le_mul_right c (Nat.sub_le i 1)
      rw [Nat.mul_add]; omega
    exact (BQ.frac (dn i) (db i) (abs_up hH k) eH).mono (by omega)
/-- the numbers of a series -/
theorem ser_at {T B : List Rat} {s t c i : Nat} (hT : CD s T) (hB : CD t B) (hc : B.length ≤ 2 ^ c) {j : Nat} (hj : j ≤ figN B i) : BQ (s + i * (t + c)) (figP T B (serL T B i) i j) := by
  obtain ⟨d, A, hT'⟩ := hT
  obtain ⟨e, M, hB'⟩ := hB
  obtain ⟨G, eG, hG⟩ := ser_frac (c := c) hT' hB' hc i j hj
  exact BQ.frac (Int.mul_ne_zero hT'.d0 (pow_ne hB'.d0 i)) (abs_up (mul_pow_abs hT'.dd hB'.dd i) (by rw [Nat.mul_add, Nat.mul_comm t]; omega)) hG eG
theorem ser_all {T B : List Rat} {s t c n : Nat} (hT : CD s T) (hB : CD t B) (hc : B.length ≤ 2 ^ c) : AllBQ (s + n * (t + c)) (serL T B n) := ser_mem fun i hi => by
  have := Nat.mul_le_mul_right (t + c) (Nat.le_of_lt hi)
  exact (ser_at hT hB hc (Nat.le_refl _)).mono (by omega)
/-! ### a row of a quotient, by the program -/
/-- what the places ahead weigh -/
def wS (B F : List Rat) (i : Nat) : Nat → Rat
  | 0 => 0
  | j + 1 => wS B F i j + B.getD (j + 1) 0 * (if j + 1 ≤ i then F.getD (i - (j + 1)) 0 else 0)
theorem wS_fig {T B F : List Rat} {i : Nat} : ∀ j, j ≤ i → figP T B F i j = T.getD i 0 - wS B F i j
  | 0, _ => by show T.getD i 0 = T.getD i 0 - 0; grind
  | j + 1, h => by
    show figP T B F i j - _ = T.getD i 0 - (wS B F i j + _ * if _ then _ else _)
    rw [wS_fig j (by omega), if_pos h]
    grind
theorem wS_more {B F : List Rat} {i : Nat} : ∀ j, i ≤ j → wS B F i j = wS B F i i
  | 0, h => by rw [show i = 0 by omega]
  | j + 1, h => by
    by_cases e : i = j + 1
    · rw [e]
    · show wS B F i j + _ * (if _ then _ else _) = _
      rw [if_neg (by omega), wS_more j (by omega)]; grind
theorem wS_out {B F : List Rat} {i : Nat} : ∀ j, B.length - 1 ≤ j → wS B F i j = wS B F i (B.length - 1)
  | 0, h => by rw [show B.length - 1 = 0 by omega]
  | j + 1, h => by
    by_cases e : B.length - 1 = j + 1
    · rw [e]
    · show wS B F i j + B.getD (j + 1) 0 * _ = _
      rw [wS_out j (by omega), getD_out (l := B) (by omega)]; grind
theorem wS_full {T B F : List Rat} {i : Nat} : figP T B F i (figN B i) = T.getD i 0 - wS B F i (B.length - 1) := by
  rw [wS_fig _ (by unfold figN; omega)]
  congr 1
  by_cases h : B.length - 1 ≤ i
  · rw [show figN B i = B.length - 1 by unfold figN; omega]
  · rw [show figN B i = i by unfold figN; omega, wS_more (B.length - 1) (by omega)]
structure RowOk (T B : List Rat) (n : Nat) : Prop where
  ser : SerOk T B n
  w : ∀ i, i < n → ∀ j, Sq (wS B (serL T B i) i j)
theorem RowOk.cd {T B : List Rat} {s t c n : Nat} (hT : CD s T) (hB : CD t B) (hc : B.length ≤ 2 ^ c) (h : 2 * s + n * (t + c) + t + 1 ≤ 67000000) : RowOk T B n := by
  refine ⟨SerOk.cd hT hB hc (by omega), fun i hi j => ?_⟩
  have k := Nat.mul_le_mul_right (t + c) (Nat.le_of_lt hi)
  have small : ∀ j, j ≤ figN B i → Sq (wS B (serL T B i) i j) := fun j hj => by
    have e : wS B (serL T B i) i j = T.getD i 0 - figP T B (serL T B i) i j := by
      rw [wS_fig _ (by unfold figN at hj; omega)]; grind
    rw [e]
    exact ((hT.at i).sub (ser_at hT hB hc hj)).mono (by omega)
  by_cases h1 : j ≤ figN B i
  · exact small j h1
  · by_cases h2 : i ≤ j ∧ i ≤ B.length - 1
    · rw [wS_more j h2.1]
      exact small i (by unfold figN; omega)
    · rw [wS_out j (by unfold figN at h1; omega)]
      exact small _ (by unfold figN at *; omega)
theorem flT_nq {q : Rat} : flatT (nq q) = true := rfl
local macro_rules | `(tactic| walk_at "dl") => `(tactic| simp -implicitDefEqProofs only [dSeq, dNext, dIfS, dB, dNot, dAnd, dOr, d2, fLt, fLe, fGt, fGe, fEqI, fNeI, fEqB, fNeB, fEqS, fNeS, fIsN_non, fNotN_non, fIsB, fNotB, fSub, fMul, fDiv, fDivE, fMod, fPow, fI, fI0, asI_int, asB_bl, asT_tup, asL_lst, asQ_tup, asQ_lst, asS_str, as1_one, as2_two, frz_v, frz_own, fAdd_int, fAdd_tup, fAdd_lst, fIx_tup0, fIx_tup1, fIx_lst0, fIx_lst1, fLen_tup, fLen_lst, fInt_bl, fTuple_tup, fTuple_lst, isN_int, isN_tup, isN_lst, isN_bl, isN_str, isN_non, dVar, dC, dNeg, dSet, dSetO, dPar, dAsg, dAug, dRet, dRetO, dRetV, dRetN, dTup, dCons, dNil, dFn, dFnO, lenIs, dCB, fAbs, fMax2, fMin2, dIsi, dAndV, dOrV, dNotV, dIf, dFor, iSeq, iRange1, iRange2, iZip, aName, aTup, aCons, aNil, dLc, dYes, dLitO, noOwn, wipeE, ends, startD, setV, setO, ownAt, asV, dLst, dListO, dLenO, dTupO, dFrz, dApp, dPop, dClear, dSub, dIxO, d2O, fCatO, fRepO, pt_non, isi_non_int, isi_non_bool, isi_non_tuple, isi_non_list, isi_non_str, pt_bl, isi_bl_int, isi_bl_bool, isi_bl_tuple, isi_bl_list, isi_bl_str, pt_int, isi_int_int, isi_int_bool, isi_int_tuple, isi_int_list, isi_int_str, pt_str, isi_str_int, isi_str_bool, isi_str_tuple, isi_str_list, isi_str_str, pt_tup, isi_tup_int, isi_tup_bool, isi_tup_tuple, isi_tup_list, isi_tup_str, pt_lst, isi_lst_int, isi_lst_bool, isi_lst_tuple, isi_lst_list, isi_lst_str, Br_true, Br_false, Br_dec, Br_not, tt_imp, List.map_cons, List.map_nil, List.cons_append, List.nil_append, List.replicate_succ, List.replicate_zero, List.getElem?_cons_zero, List.getElem?_cons_succ, List.set_nil, List.set_cons_zero, List.set_cons_succ, List.length_cons, List.length_nil, Bool.not_true, Bool.not_false, decide_eq_true_eq, not_true_eq_false, not_false_eq_true, true_and, and_true])
local macro_rules | `(tactic| walk_at "d1") => `(tactic| simp -implicitDefEqProofs only [aName, setV, setO, List.set_cons_zero, List.set_cons_succ])
local macro_rules | `(tactic| walk_at "dn") => `(tactic| simp -implicitDefEqProofs only [flT_nq, flT_bl, dBorT, aTupQ, dTurn, fIx_nq0, fIx_nq1, asN_nq, num_e, part_e, same_e, nn_e2, over_e, l_over_e, c_plus, c_minus, c_times, c_before, c_l_plus, c_l_minus, c_l_times, num_eq, num_lt0, sub_lt0, due_nq, asR_r, asR_t, asR_l, asQ_r, fLen_r, fTuple_r, pt_r, asT1_t, okD_nq, okD_lst, okD_tup, okD_nil, okD_nilt, eqD_nq, eqD_lst, eqD_tup, eqD_nil, eqD_nilt, nqs_len, dCmpO, eqB, neB, dMeth, dChain, iEnum, iRev, iRange3, as3_three, dBor, dCatO, fl_bl, fEqD, fNeD, c_Exact_nought, c_Exact_one, c_Exact_plus, c_Exact_minus, c_Exact_times, c_Exact_over, c_Exact_is_nought, List.tail_cons, D.ins.injEq, exists_eq', exists_and_left, and_true, true_and, dSl, dPn, dPs, fSl_lst, fSl_tup, dSeq, dNext, dIfS, dB, dNot, dAnd, dOr, d2, fLt, fLe, fGt, fGe, fEqI, fNeI, fEqB, fNeB, fEqS, fNeS, fIsN_non, fNotN_non, fIsB, fNotB, fSub, fMul, fDiv, fDivE, fMod, fPow, fI, fI0, asI_int, asB_bl, asT_tup, asL_lst, asQ_tup, asQ_lst, asS_str, as1_one, as2_two, frz_v, frz_own, fAdd_int, fAdd_tup, fAdd_lst, fIx_tup0, fIx_tup1, fIx_lst0, fIx_lst1, fLen_tup, fLen_lst, fInt_bl, fTuple_tup, fTuple_lst, isN_int, isN_tup, isN_lst, isN_bl, isN_str, isN_non, dVar, dC, dNeg, dSet, dSetO, dPar, dAsg, dAug, dRet, dRetO, dRetV, dRetN, dTup, dCons, dNil, dFn, dFnO, lenIs, dCB, fAbs, fMax2, fMin2, dIsi, dAndV, dOrV, dNotV, dIf, dFor, iSeq, iRange1, iRange2, iZip, aName, aTup, aCons, aNil, dLc, dYes, dLitO, noOwn, wipeE, ends, startD, setV, setO, ownAt, asV, dLst, dListO, dLenO, dTupO, dFrz, dApp, dPop, dClear, dSub, dIxO, d2O, fCatO, fRepO, pt_non, isi_non_int, isi_non_bool, isi_non_tuple, isi_non_list, isi_non_str, pt_bl, isi_bl_int, isi_bl_bool, isi_bl_tuple, isi_bl_list, isi_bl_str, pt_int, isi_int_int, isi_int_bool, isi_int_tuple, isi_int_list, isi_int_str, pt_str, isi_str_int, isi_str_bool, isi_str_tuple, isi_str_list, isi_str_str, pt_tup, isi_tup_int, isi_tup_bool, isi_tup_tuple, isi_tup_list, isi_tup_str, pt_lst, isi_lst_int, isi_lst_bool, isi_lst_tuple, isi_lst_list, isi_lst_str, Br_true, Br_false, Br_dec, Br_not, tt_imp, List.map_cons, List.map_nil, List.cons_append, List.nil_append, List.replicate_succ, List.replicate_zero, List.getElem?_cons_zero, List.getElem?_cons_succ, List.set_nil, List.set_cons_zero, List.set_cons_succ, List.length_cons, List.length_nil, Bool.not_true, Bool.not_false, decide_eq_true_eq, not_true_eq_false, not_false_eq_true, true_and, and_true])
def c_number_row : DFn := fun ds st Kf => ∃ b l i, ds = [.ins 0 none, rD b l, .int i] ∧ (0 ≤ i → Kf (.v (nq (l.getD i.toNat 0))) st) ∧ (i < 0 → Kf (.v (nq 0)) st)
def b_number_row : DSv := (dRet (dIf (dB (dChain fLe fLt (dC (.int 0)) (dVar 2) (dCB fLen (dCons (dVar 1) dNil)))) (d2 fIx (dVar 1) (dVar 2)) (dMeth 0 c_Exact_nought 0 (dVar 0) dNil)))
theorem d_number_row (args : List D) (st : Stt) (Kf : Sl → Stt → Prop) (hl : args.length = 3) (q : c_number_row args st Kf) : b_number_row (ends Kf) (startD 0 args, st) := by
  obtain ⟨b, l, i, rfl, h0, h1⟩ := q
  unfold b_number_row
  walk_at "dn"
  refine ⟨fun h => ⟨fun h2 => ?_, fun h2 => ?_⟩, fun h => h1 (by omega)⟩
  · rw [fIx_in h (by omega)]; exact h0 h
  · have := h0 h
    rw [getD_out (by omega)] at this; exact this
def c_weighed_at : DFn := fun ds st Kf => ∃ b B c F i, ds = [.ins 0 none, rD b B, rD c F, .int ((i : Nat) : Int)] ∧ B.length ≤ 1000 ∧ F.length = i ∧ AllSq B ∧ AllSq F ∧ (∀ j, j + 1 < B.length → Sq (B.getD (j + 1) 0 * (if j + 1 ≤ i then F.getD (i - (j + 1)) 0 else 0))) ∧ (∀ j, Sq (wS B F i j)) ∧ Kf (.v (nq (wS B F i (B.length - 1)))) st
def b_weighed_at : DSv := (dSeq (dSet 4 (dMeth 0 c_Exact_nought 0 (dVar 0) dNil))
  (dSeq (dFor (iRange2 (dCons (dC (.int 1)) (dCons (dCB fLen (dCons (dVar 1) dNil)) dNil))) (aName 5) (dSet 4 (dMeth 0 c_Exact_plus 2 (dVar 0) (dCons (dVar 4) (dCons (dMeth 0 c_Exact_times 2 (dVar 0) (dCons (d2 fIx (dVar 1) (dVar 5)) (dCons (dFn c_number_row (lenIs 3 (dCons (dVar 0) (dCons (dVar 2) (dCons (d2 fSub (dVar 3) (dVar 5)) dNil))))) dNil))) dNil)))))
  (dRet (dVar 4))))
theorem d_weighed_at (args : List D) (st : Stt) (Kf : Sl → Stt → Prop) (hl : args.length = 4) (q : c_weighed_at args st Kf) : b_weighed_at (ends Kf) (startD 2 args, st) := by
  obtain ⟨b, B, c, F, i, rfl, h1, h2, s1, s2, s3, s4, q⟩ := q
  unfold b_weighed_at
  walk_at "dn"
  refine ⟨by omega, ?_⟩
  refine for_rng_ix (fun j ρ => ∃ x, ρ = ([some (.v (.ins 0 none)), some (.v (rD b B)), some (.v (rD c F)), some (.v (.int (i : Nat))), some (.v (nq (wS B F i j))), x], st)) ?_ ?_ _ ⟨none, rfl⟩
  · rintro ρ ⟨x, rfl⟩
    walk_at "dn"
    rw [show ((B.length : Int) - 1).toNat = B.length - 1 by omega]
    exact q
  rintro j ρ nx hj ⟨x, rfl⟩ k
  walk_at "dn"
  have hj2 : j + 1 < B.length := by omega
  rw [fIx_in (by omega) (by omega), show ((1 : Int) + (j : Nat)).toNat = j + 1 by omega]
  have fin : ∀ v : Rat, v = (if j + 1 ≤ i then F.getD (i - (j + 1)) 0 else 0) → Sq (B.getD (j + 1) 0) ∧ Sq v ∧ Sq (wS B F i j) ∧ Sq (B.getD (j + 1) 0 * v) ∧ nx ([some (.v (.ins 0 none)), some (.v (rD b B)), some (.v (rD c F)), some (.v (.int (i : Nat))), some (.v (nq (wS B F i j + B.getD (j + 1) 0 * v))), some (.v (.int (1 + (j : Nat))))], st) := fun v hv => by
    subst hv
    refine ⟨s1.at _, ?_, s4 j, s3 j hj2, k _ ⟨_, rfl⟩⟩
    split
    · exact s2.at _
    · exact Sq0
  refine ⟨c, F, _, rfl, fun h => ?_, fun h => ?_⟩
  · walk_at "dn"
    exact fin _ (by rw [if_pos (by omega), show ((i : Int) - (1 + (j : Nat))).toNat = i - (j + 1) by omega])
  · walk_at "dn"
    exact fin _ (by rw [if_neg (by omega)])
/-- a pair, as a tuple or a list -/
def pD (z : Bool) (x y : D) : D := if z then .tup [x, y] else .lst [x, y]
def c_row_in : DFn := fun ds st Kf => ∃ z a T b B n, ds = [.ins 0 none, pD z (rD a T) (rD b B), .int n] ∧ 0 ≤ n ∧ n ≤ 1000 ∧ B.length ≤ 1000 ∧ RowOk T B n.toNat ∧ Kf (.own (nqs (serL T B n.toNat))) st
def b_row_in : DSv := (dSeq (dAsg (dVar 1) (aTupQ 2 (aCons (aName 3) (aCons (aName 4) aNil))))
  (dSeq (dSetO 5 (dLst dNil))
  (dSeq (dFor (iRange1 (dCons (dVar 2) dNil)) (aName 6) (dApp 5 (dMeth 0 c_Exact_minus 2 (dVar 0) (dCons (dFn c_number_row (lenIs 3 (dCons (dVar 0) (dCons (dVar 3) (dCons (dVar 6) dNil))))) (dCons (dBorT 5 (dFn c_weighed_at (lenIs 4 (dCons (dVar 0) (dCons (dVar 4) (dCons (dVar 5) (dCons (dVar 6) dNil))))))) dNil)))))
  (dRetV 5))))
theorem d_row_in (args : List D) (st : Stt) (Kf : Sl → Stt → Prop) (hl : args.length = 3) (q : c_row_in args st Kf) : b_row_in (ends Kf) (startD 4 args, st) := by
  obtain ⟨z, a, T, b, B, n, rfl, n0, n1, lb, ok, q⟩ := q
  unfold b_row_in
  refine seq_by (fun ρ => ρ = ([some (.v (.ins 0 none)), some (.v (pD z (rD a T) (rD b B))), some (.v (.int n)), some (.v (rD a T)), some (.v (rD b B)), none, none], st)) (fun nx hnx => ?_) ?_
  · cases z
    · show dAsg (dVar 1) _ _ ([some (.v (.ins 0 none)), some (.v (.lst [rD a T, rD b B])), some (.v (.int n)), none, none, none, none], st)
      walk_at "dn"
      exact hnx _ rfl
    · show dAsg (dVar 1) _ _ ([some (.v (.ins 0 none)), some (.v (.tup [rD a T, rD b B])), some (.v (.int n)), none, none, none, none], st)
      walk_at "dn"
      exact hnx _ rfl
  rintro ρ rfl
  walk_at "dn"
  refine ⟨by decide, by omega, by omega, ?_⟩
  refine for_rng_ix (fun i ρ => ∃ x, ρ = ([some (.v (.ins 0 none)), some (.v (pD z (rD a T) (rD b B))), some (.v (.int n)), some (.v (rD a T)), some (.v (rD b B)), some (.own (nqs (serL T B i))), x], st)) ?_ ?_ _ ⟨none, rfl⟩
  · rintro ρ ⟨x, rfl⟩
    walk_at "dn"
    exact q
  rintro i ρ nx hi ⟨x, rfl⟩ k
  walk_at "dn"
  have hi2 : i < n.toNat := hi
  refine ⟨a, T, _, rfl, fun _ => ?_, fun h => absurd h (by omega)⟩
  rw [show ((0 : Int) + (i : Nat)) = ((i : Nat) : Int) by omega]
  refine ⟨b, B, false, serL T B i, i, rfl, lb, serL_len T B i, ok.ser.b, ser_mem fun j hj => ok.ser.fig j (by omega) _ (Nat.le_refl _), fun j hj => ?_, ok.w i hi2, ?_⟩
  · split
    · exact ok.ser.mul i hi2 j (by unfold figN; omega)
    · rw [Rat.mul_zero]; exact Sq0
  walk_at "dn"
  rw [show ((i : Nat) : Int).toNat = i by omega, ← wS_full, nqs_one, nqs_app]
  refine ⟨AllSq.at ok.ser.t i, ok.w i hi2 _, by rw [serL_len]; omega, k _ ⟨_, rfl⟩⟩
end DL
namespace DL
open PySem PySem.Spec PyProof.Rows L2
local macro_rules | `(tactic| walk_at "dl") => `(tactic| simp -implicitDefEqProofs only [dSeq, dNext, dIfS, dB, dNot, dAnd, dOr, d2, fLt, fLe, fGt, fGe, fEqI, fNeI, fEqB, fNeB, fEqS, fNeS, fIsN_non, fNotN_non, fIsB, fNotB, fSub, fMul, fDiv, fDivE, fMod, fPow, fI, fI0, asI_int, asB_bl, asT_tup, asL_lst, asQ_tup, asQ_lst, asS_str, as1_one, as2_two, frz_v, frz_own, fAdd_int, fAdd_tup, fAdd_lst, fIx_tup0, fIx_tup1, fIx_lst0, fIx_lst1, fLen_tup, fLen_lst, fInt_bl, fTuple_tup, fTuple_lst, isN_int, isN_tup, isN_lst, isN_bl, isN_str, isN_non, dVar, dC, dNeg, dSet, dSetO, dPar, dAsg, dAug, dRet, dRetO, dRetV, dRetN, dTup, dCons, dNil, dFn, dFnO, lenIs, dCB, fAbs, fMax2, fMin2, dIsi, dAndV, dOrV, dNotV, dIf, dFor, iSeq, iRange1, iRange2, iZip, aName, aTup, aCons, aNil, dLc, dYes, dLitO, noOwn, wipeE, ends, startD, setV, setO, ownAt, asV, dLst, dListO, dLenO, dTupO, dFrz, dApp, dPop, dClear, dSub, dIxO, d2O, fCatO, fRepO, pt_non, isi_non_int, isi_non_bool, isi_non_tuple, isi_non_list, isi_non_str, pt_bl, isi_bl_int, isi_bl_bool, isi_bl_tuple, isi_bl_list, isi_bl_str, pt_int, isi_int_int, isi_int_bool, isi_int_tuple, isi_int_list, isi_int_str, pt_str, isi_str_int, isi_str_bool, isi_str_tuple, isi_str_list, isi_str_str, pt_tup, isi_tup_int, isi_tup_bool, isi_tup_tuple, isi_tup_list, isi_tup_str, pt_lst, isi_lst_int, isi_lst_bool, isi_lst_tuple, isi_lst_list, isi_lst_str, Br_true, Br_false, Br_dec, Br_not, tt_imp, List.map_cons, List.map_nil, List.cons_append, List.nil_append, List.replicate_succ, List.replicate_zero, List.getElem?_cons_zero, List.getElem?_cons_succ, List.set_nil, List.set_cons_zero, List.set_cons_succ, List.length_cons, List.length_nil, Bool.not_true, Bool.not_false, decide_eq_true_eq, not_true_eq_false, not_false_eq_true, true_and, and_true])
local macro_rules | `(tactic| walk_at "d1") => `(tactic| simp -implicitDefEqProofs only [aName, setV, setO, List.set_cons_zero, List.set_cons_succ])
local macro_rules | `(tactic| walk_at "dn") => `(tactic| simp -implicitDefEqProofs only [flT_nq, flT_bl, dBorT, aTupQ, dTurn, fIx_nq0, fIx_nq1, asN_nq, num_e, part_e, same_e, nn_e2, over_e, l_over_e, c_plus, c_minus, c_times, c_before, c_l_plus, c_l_minus, c_l_times, num_eq, num_lt0, sub_lt0, due_nq, asR_r, asR_t, asR_l, asQ_r, fLen_r, fTuple_r, pt_r, asT1_t, okD_nq, okD_lst, okD_tup, okD_nil, okD_nilt, eqD_nq, eqD_lst, eqD_tup, eqD_nil, eqD_nilt, nqs_len, dCmpO, eqB, neB, dMeth, dChain, iEnum, iRev, iRange3, as3_three, dBor, dCatO, fl_bl, fEqD, fNeD, c_Exact_nought, c_Exact_one, c_Exact_plus, c_Exact_minus, c_Exact_times, c_Exact_over, c_Exact_is_nought, List.tail_cons, D.ins.injEq, exists_eq', exists_and_left, and_true, true_and, dSl, dPn, dPs, fSl_lst, fSl_tup, dSeq, dNext, dIfS, dB, dNot, dAnd, dOr, d2, fLt, fLe, fGt, fGe, fEqI, fNeI, fEqB, fNeB, fEqS, fNeS, fIsN_non, fNotN_non, fIsB, fNotB, fSub, fMul, fDiv, fDivE, fMod, fPow, fI, fI0, asI_int, asB_bl, asT_tup, asL_lst, asQ_tup, asQ_lst, asS_str, as1_one, as2_two, frz_v, frz_own, fAdd_int, fAdd_tup, fAdd_lst, fIx_tup0, fIx_tup1, fIx_lst0, fIx_lst1, fLen_tup, fLen_lst, fInt_bl, fTuple_tup, fTuple_lst, isN_int, isN_tup, isN_lst, isN_bl, isN_str, isN_non, dVar, dC, dNeg, dSet, dSetO, dPar, dAsg, dAug, dRet, dRetO, dRetV, dRetN, dTup, dCons, dNil, dFn, dFnO, lenIs, dCB, fAbs, fMax2, fMin2, dIsi, dAndV, dOrV, dNotV, dIf, dFor, iSeq, iRange1, iRange2, iZip, aName, aTup, aCons, aNil, dLc, dYes, dLitO, noOwn, wipeE, ends, startD, setV, setO, ownAt, asV, dLst, dListO, dLenO, dTupO, dFrz, dApp, dPop, dClear, dSub, dIxO, d2O, fCatO, fRepO, pt_non, isi_non_int, isi_non_bool, isi_non_tuple, isi_non_list, isi_non_str, pt_bl, isi_bl_int, isi_bl_bool, isi_bl_tuple, isi_bl_list, isi_bl_str, pt_int, isi_int_int, isi_int_bool, isi_int_tuple, isi_int_list, isi_int_str, pt_str, isi_str_int, isi_str_bool, isi_str_tuple, isi_str_list, isi_str_str, pt_tup, isi_tup_int, isi_tup_bool, isi_tup_tuple, isi_tup_list, isi_tup_str, pt_lst, isi_lst_int, isi_lst_bool, isi_lst_tuple, isi_lst_list, isi_lst_str, Br_true, Br_false, Br_dec, Br_not, tt_imp, List.map_cons, List.map_nil, List.cons_append, List.nil_append, List.replicate_succ, List.replicate_zero, List.getElem?_cons_zero, List.getElem?_cons_succ, List.set_nil, List.set_cons_zero, List.set_cons_succ, List.length_cons, List.length_nil, Bool.not_true, Bool.not_false, decide_eq_true_eq, not_true_eq_false, not_false_eq_true, true_and, and_true])
def c_quotient_of : DFn := fun ds st Kf => ∃ b l c m, ds = [rD b l, rD c m] ∧ l.length ≤ 1000 ∧ m.length ≤ 1000 ∧ trim m ≠ [] ∧ (qB (trim l) (trim m)).getD 0 0 ≠ 0 ∧ QuoOk (trim l) (trim m) ∧ Kf (.v (.tup [.tup (nqs (quoT (trim l) (trim m))), .tup (nqs (quoB (trim l) (trim m)))])) st
def c_degree : DFn := fun ds st Kf => ∃ b l, ds = [rD b l] ∧ Kf (.v (.int ((l.length : Int) - 1))) st
def c_heights : DFn := fun ds st Kf => ∃ z a T b B, ds = [pD z (rD a T) (rD b B)] ∧ Kf (.v (.tup [.int ((T.length : Int) - 1), .int ((B.length : Int) - 1)])) st
def c_row_of : DFn := fun ds st Kf => ∃ z a T b B n, ds = [pD z (rD a T) (rD b B), .int n] ∧ 0 ≤ n ∧ n ≤ 1000 ∧ B.length ≤ 1000 ∧ RowOk T B n.toNat ∧ Kf (.own (nqs (serL T B n.toNat))) st
def b_quotient_of : DSv := (dRet (dFn c_quotient_in (lenIs 3 (dCons (dC (.ins 0 none)) (dCons (dVar 0) (dCons (dVar 1) dNil))))))
def b_degree : DSv := (dRet (d2 fSub (dCB fLen (dCons (dVar 0) dNil)) (dC (.int 1))))
def b_heights : DSv := (dRet (dTup (dCons (dFn c_degree (lenIs 1 (dCons (d2 fIx (dVar 0) (dC (.int 0))) dNil))) (dCons (dFn c_degree (lenIs 1 (dCons (d2 fIx (dVar 0) (dC (.int 1))) dNil))) dNil))))
def b_row_of : DSv := (dRetO (dFnO c_row_in (lenIs 3 (dCons (dC (.ins 0 none)) (dCons (dVar 0) (dCons (dVar 1) dNil))))))
theorem pD_t {x y : D} : pD true x y = .tup [x, y] := rfl
theorem pD_f {x y : D} : pD false x y = .lst [x, y] := rfl
theorem fIx_p0 {z : Bool} {x y : D} {P : D → Prop} : fIx (pD z x y) (.int 0) P = P x := by cases z <;> simp only [pD_t, pD_f, fIx_tup0, fIx_lst0]
theorem fIx_p1 {z : Bool} {x y : D} {P : D → Prop} : fIx (pD z x y) (.int 1) P = P y := by cases z <;> simp only [pD_t, pD_f, fIx_tup1, fIx_lst1]
theorem d_quotient_of (args : List D) (st : Stt) (Kf : Sl → Stt → Prop) (hl : args.length = 2) (q : c_quotient_of args st Kf) : b_quotient_of (ends Kf) (startD 0 args, st) := by
  obtain ⟨b, l, c, m, rfl, q⟩ := q
  unfold b_quotient_of
  walk_at "dn"
  exact ⟨b, l, c, m, rfl, q⟩
theorem d_degree (args : List D) (st : Stt) (Kf : Sl → Stt → Prop) (hl : args.length = 1) (q : c_degree args st Kf) : b_degree (ends Kf) (startD 0 args, st) := by
  obtain ⟨b, l, rfl, q⟩ := q
  unfold b_degree
  walk_at "dn"
  exact q
theorem d_heights (args : List D) (st : Stt) (Kf : Sl → Stt → Prop) (hl : args.length = 1) (q : c_heights args st Kf) : b_heights (ends Kf) (startD 0 args, st) := by
  obtain ⟨z, a, T, b, B, rfl, q⟩ := q
  unfold b_heights
  walk_at "dn"
  rw [fIx_p0]
  refine ⟨a, T, rfl, ?_⟩
  simp only [fIx_p1]
  exact ⟨b, B, rfl, by decide, q⟩
theorem d_row_of (args : List D) (st : Stt) (Kf : Sl → Stt → Prop) (hl : args.length = 2) (q : c_row_of args st Kf) : b_row_of (ends Kf) (startD 0 args, st) := by
  obtain ⟨z, a, T, b, B, n, rfl, q⟩ := q
  unfold b_row_of
  walk_at "dn"
  exact ⟨z, a, T, b, B, n, rfl, q⟩
/-! ### a drawn quotient, made -/
theorem trim_ne {m : List Rat} (h : m.head? = some 1) : trim m ≠ [] := fun e => by
  have := trim_same m 0
  rw [e] at this
  cases m with
  | nil => cases h
  | cons a m =>
    have ha : a = 1 := by simpa using h
    subst ha
    have : (0 : Rat) = 1 := this
    exact absurd this (by decide)
theorem trim_zero {m : List Rat} (h : m.head? = some 1) : (trim m).getD 0 0 ≠ 0 := by
  rw [trim_same m 0]
  cases m with
  | nil => cases h
  | cons a m =>
    have ha : a = 1 := by simpa using h
    subst ha
    show (1 : Rat) ≠ 0
    decide
/-- what is told of a quotient made: made of small numbers, no longer than that -/
structure Quo (w : Nat) (L M : Nat) (T B : List Rat) : Prop where
  t : CD w T
  b : CD w B
  lt : T.length ≤ L
  lb : B.length ≤ M
  b0 : B.getD 0 0 = 1
  tt : trim T = T
  tb : trim B = B
theorem quo_made {l m : List Rat} {s t W w L M : Nat} (hm : trim m ≠ []) (m0 : (trim m).getD 0 0 ≠ 0) (cl : CD s l) (cm : CD t m) (hL : l.length ≤ L) (hM : m.length ≤ M) (hLM : 2 ≤ max L (M + 1))
    (hP : 3 * pell (s + 1) (t + 1) (max L (M + 1)) ≤ 67000000) (w1 : 1 ≤ W) (hW : pell (s + 1) (t + 1) (max L (M + 1) - 2) ≤ W ∧ s + 1 ≤ W) (h1 : s + L * (W + 1) + 2 * W ≤ 67000000) (h2 : t + M * (W + 1) + 2 * W ≤ 67000000)
    (hw : s + L * (W + 1) + (t + M * (W + 1)) ≤ w) : (qB (trim l) (trim m)).getD 0 0 ≠ 0 ∧ QuoOk (trim l) (trim m) ∧ Quo w L M (quoT (trim l) (trim m)) (quoB (trim l) (trim m)) := by
  have e1 := trim_trim l
  have e2 := trim_trim m
  have tl := trim_len l
  have tm := trim_len m
  have b0 := qB_zero e1 e2 hm m0
  have mp := len_pos hm
  have p1 := pell_le (x := s + 1) (y := t + 1) (i := max (trim l).length ((trim m).length + 1)) (j := max L (M + 1)) (by omega) (by omega)
  have p2 : pell (s + 1) (t + 1) (max (trim l).length ((trim m).length + 1) - 2) ≤ W := by
    by_cases h : max (trim l).length ((trim m).length + 1) - 2 = 0
    · rw [h]; exact hW.2
    · exact Nat.le_trans (pell_le (by omega) (by omega)) hW.1
  have m1 := Nat.mul_le_mul_right (W + 1) (Nat.le_trans tl hL)
  have m2 := Nat.mul_le_mul_right (W + 1) (Nat.le_trans tm hM)
  obtain ⟨a1, a2, a3, a4, a5⟩ := quo_cd e1 e2 hm cl.trim cm.trim (by omega) w1 p2 (by omega) (by omega)
  have c := quoT_cd a2 a3 b0
  refine ⟨b0, a1, c.1.mono (by omega), c.2.mono (by omega), by unfold quoT; simp; omega, by unfold quoB; simp; omega, ?_, over_trim b0 (trim_trim _), over_trim b0 (trim_trim _)⟩
  unfold quoB
  rw [getD_map0 (f := fun a => a / (qB (trim l) (trim m)).getD 0 0) (by grind), Rat.div_def, Rat.mul_inv_cancel _ b0]
theorem Quo.row {w L M : Nat} {T B : List Rat} (h : Quo w L M T B) {n c : Nat} (hM : M ≤ 2 ^ c) (hn : 2 * w + n * (w + c) + w + 1 ≤ 67000000) : RowOk T B n := RowOk.cd h.t h.b (Nat.le_trans h.lb hM) hn
end DL
namespace DL
open PySem PySem.Spec PyProof.Rows L2
local macro_rules | `(tactic| walk_at "dl") => `(tactic| simp -implicitDefEqProofs only [dSeq, dNext, dIfS, dB, dNot, dAnd, dOr, d2, fLt, fLe, fGt, fGe, fEqI, fNeI, fEqB, fNeB, fEqS, fNeS, fIsN_non, fNotN_non, fIsB, fNotB, fSub, fMul, fDiv, fDivE, fMod, fPow, fI, fI0, asI_int, asB_bl, asT_tup, asL_lst, asQ_tup, asQ_lst, asS_str, as1_one, as2_two, frz_v, frz_own, fAdd_int, fAdd_tup, fAdd_lst, fIx_tup0, fIx_tup1, fIx_lst0, fIx_lst1, fLen_tup, fLen_lst, fInt_bl, fTuple_tup, fTuple_lst, isN_int, isN_tup, isN_lst, isN_bl, isN_str, isN_non, dVar, dC, dNeg, dSet, dSetO, dPar, dAsg, dAug, dRet, dRetO, dRetV, dRetN, dTup, dCons, dNil, dFn, dFnO, lenIs, dCB, fAbs, fMax2, fMin2, dIsi, dAndV, dOrV, dNotV, dIf, dFor, iSeq, iRange1, iRange2, iZip, aName, aTup, aCons, aNil, dLc, dYes, dLitO, noOwn, wipeE, ends, startD, setV, setO, ownAt, asV, dLst, dListO, dLenO, dTupO, dFrz, dApp, dPop, dClear, dSub, dIxO, d2O, fCatO, fRepO, pt_non, isi_non_int, isi_non_bool, isi_non_tuple, isi_non_list, isi_non_str, pt_bl, isi_bl_int, isi_bl_bool, isi_bl_tuple, isi_bl_list, isi_bl_str, pt_int, isi_int_int, isi_int_bool, isi_int_tuple, isi_int_list, isi_int_str, pt_str, isi_str_int, isi_str_bool, isi_str_tuple, isi_str_list, isi_str_str, pt_tup, isi_tup_int, isi_tup_bool, isi_tup_tuple, isi_tup_list, isi_tup_str, pt_lst, isi_lst_int, isi_lst_bool, isi_lst_tuple, isi_lst_list, isi_lst_str, Br_true, Br_false, Br_dec, Br_not, tt_imp, List.map_cons, List.map_nil, List.cons_append, List.nil_append, List.replicate_succ, List.replicate_zero, List.getElem?_cons_zero, List.getElem?_cons_succ, List.set_nil, List.set_cons_zero, List.set_cons_succ, List.length_cons, List.length_nil, Bool.not_true, Bool.not_false, decide_eq_true_eq, not_true_eq_false, not_false_eq_true, true_and, and_true])
local macro_rules | `(tactic| walk_at "d1") => `(tactic| simp -implicitDefEqProofs only [aName, setV, setO, List.set_cons_zero, List.set_cons_succ])
local macro_rules | `(tactic| walk_at "dn") => `(tactic| simp -implicitDefEqProofs only [flT_nq, flT_bl, dBorT, aTupQ, dTurn, fIx_nq0, fIx_nq1, asN_nq, num_e, part_e, same_e, nn_e2, over_e, l_over_e, c_plus, c_minus, c_times, c_before, c_l_plus, c_l_minus, c_l_times, num_eq, num_lt0, sub_lt0, due_nq, asR_r, asR_t, asR_l, asQ_r, fLen_r, fTuple_r, pt_r, asT1_t, okD_nq, okD_lst, okD_tup, okD_nil, okD_nilt, eqD_nq, eqD_lst, eqD_tup, eqD_nil, eqD_nilt, nqs_len, dCmpO, eqB, neB, dMeth, dChain, iEnum, iRev, iRange3, as3_three, dBor, dCatO, fl_bl, fEqD, fNeD, c_Exact_nought, c_Exact_one, c_Exact_plus, c_Exact_minus, c_Exact_times, c_Exact_over, c_Exact_is_nought, List.tail_cons, D.ins.injEq, exists_eq', exists_and_left, and_true, true_and, dSl, dPn, dPs, fSl_lst, fSl_tup, dSeq, dNext, dIfS, dB, dNot, dAnd, dOr, d2, fLt, fLe, fGt, fGe, fEqI, fNeI, fEqB, fNeB, fEqS, fNeS, fIsN_non, fNotN_non, fIsB, fNotB, fSub, fMul, fDiv, fDivE, fMod, fPow, fI, fI0, asI_int, asB_bl, asT_tup, asL_lst, asQ_tup, asQ_lst, asS_str, as1_one, as2_two, frz_v, frz_own, fAdd_int, fAdd_tup, fAdd_lst, fIx_tup0, fIx_tup1, fIx_lst0, fIx_lst1, fLen_tup, fLen_lst, fInt_bl, fTuple_tup, fTuple_lst, isN_int, isN_tup, isN_lst, isN_bl, isN_str, isN_non, dVar, dC, dNeg, dSet, dSetO, dPar, dAsg, dAug, dRet, dRetO, dRetV, dRetN, dTup, dCons, dNil, dFn, dFnO, lenIs, dCB, fAbs, fMax2, fMin2, dIsi, dAndV, dOrV, dNotV, dIf, dFor, iSeq, iRange1, iRange2, iZip, aName, aTup, aCons, aNil, dLc, dYes, dLitO, noOwn, wipeE, ends, startD, setV, setO, ownAt, asV, dLst, dListO, dLenO, dTupO, dFrz, dApp, dPop, dClear, dSub, dIxO, d2O, fCatO, fRepO, pt_non, isi_non_int, isi_non_bool, isi_non_tuple, isi_non_list, isi_non_str, pt_bl, isi_bl_int, isi_bl_bool, isi_bl_tuple, isi_bl_list, isi_bl_str, pt_int, isi_int_int, isi_int_bool, isi_int_tuple, isi_int_list, isi_int_str, pt_str, isi_str_int, isi_str_bool, isi_str_tuple, isi_str_list, isi_str_str, pt_tup, isi_tup_int, isi_tup_bool, isi_tup_tuple, isi_tup_list, isi_tup_str, pt_lst, isi_lst_int, isi_lst_bool, isi_lst_tuple, isi_lst_list, isi_lst_str, Br_true, Br_false, Br_dec, Br_not, tt_imp, List.map_cons, List.map_nil, List.cons_append, List.nil_append, List.replicate_succ, List.replicate_zero, List.getElem?_cons_zero, List.getElem?_cons_succ, List.set_nil, List.set_cons_zero, List.set_cons_succ, List.length_cons, List.length_nil, Bool.not_true, Bool.not_false, decide_eq_true_eq, not_true_eq_false, not_false_eq_true, true_and, and_true])
/-- a comprehension of numbers, told place by place -/
theorem lc_ixs {s : Nat} {te : DEv} {env : List (Option Sl)} {K : List D → Stt → Prop} {m : Int} (P : Nat → Rat → Prop) (hm : 0 ≤ m)
    (h : ∀ (i : Nat) (st : Stt) (Kd : D → En → Prop), Good m st → (∀ q (ρ : En), P i q → Left m st ρ.2 → Kd (nq q) ρ) → te (setV (env, st) s (.int (i : Nat))) Kd) :
    ∀ (n lo : Nat) (acc : List Rat) (st : Stt), Good (m * n) st → acc.length = lo → lo + n ≤ 1000000 → (∀ k, k < lo → P k (acc.getD k 0)) → (∀ l st', l.length = lo + n → (∀ k, k < lo + n → P k (l.getD k 0)) → Left (m * n) st st' → K (nqs l) st') → lcD (aName s) dYes te env (rangeD ((lo : Nat) : Int) n) (nqs acc) st K
  | 0, lo, acc, st, g, hl, hn, ha, fin => fin acc st (by omega) ha (Left.refl g (by simp))
  | n + 1, lo, acc, st, g, hl, hn, ha, fin => by
    have e : m * ((n + 1 : Nat) : Int) = m * (n : Int) + m := by rw [Int.natCast_add, Int.mul_add]; simp
    have h0 : 0 ≤ m * (n : Int) := Int.mul_nonneg hm (Int.natCast_nonneg n)
    rw [rangeD_succ]
    unfold lcD aName dYes
    rw [e] at g
    refine ⟨fun _ => ?_, fun z => nomatch z⟩
    refine h lo st _ (g.mono (by omega)) fun q ρ hq l => ⟨by rw [nqs_len]; omega, ?_⟩
    rw [nqs_one, nqs_app, show ((lo : Nat) : Int) + 1 = ((lo + 1 : Nat) : Int) by omega]
    refine lc_ixs P hm h n (lo + 1) (acc ++ [q]) ρ.2 ((g.left l).mono (by omega)) (by simp; omega) (by omega) (fun k hk => ?_) fun l' st' e1 e2 e3 => fin l' st' (by omega) (fun k hk => e2 k (by omega)) ?_
    · rw [snoc_getD]
      split
      · rename_i w
        rw [w, hl]; exact hq
      · exact ha k (by omega)
    · rw [e]
      exact (l.trans e3).mono (by omega)
theorem CD.two {l : List Rat} (h : ∀ k, k < l.length → BQ 31 (l.getD k 0) ∧ (2 ≤ k → ∃ a : Int, a.natAbs < 2 ^ 3 ∧ l.getD k 0 = (a : Rat))) : CD 65 l := by
  have b0 : ∀ k, BQ 31 (l.getD k 0) := fun k => by
    by_cases hk : k < l.length
    · exact (h k hk).1
    · rw [getD_out (by omega)]; exact BQ0 (by decide)
  have dd : (((l.getD 0 0).den : Int) * ((l.getD 1 0).den : Int)).natAbs < 2 ^ 62 := mul_abs (b0 0).da (b0 1).da
  have : ∀ k, ∃ a : Int, a.natAbs < 2 ^ 65 ∧ l.getD k 0 * ((((l.getD 0 0).den : Int) * ((l.getD 1 0).den : Int) : Int) : Rat) = (a : Rat) := fun k => by
    by_cases hk : k < 2
    · have hk : k = 0 ∨ k = 1 := by omega
      rcases hk with rfl | rfl
      · refine ⟨(l.getD 0 0).num * ((l.getD 1 0).den : Int), abs_up (mul_abs (b0 0).n (b0 1).da) (by decide), ?_⟩
        rw [Rat.intCast_mul, Rat.intCast_mul, ← Rat.mul_assoc, num_den]
      · refine ⟨(l.getD 1 0).num * ((l.getD 0 0).den : Int), abs_up (mul_abs (b0 1).n (b0 0).da) (by decide), ?_⟩
        rw [Rat.intCast_mul, Rat.intCast_mul, Rat.mul_comm (((l.getD 0 0).den : Int) : Rat), ← Rat.mul_assoc, num_den]
    · by_cases hl : k < l.length
      · obtain ⟨a, ha, e⟩ := (h k hl).2 (by omega)
        exact ⟨a * (((l.getD 0 0).den : Int) * ((l.getD 1 0).den : Int)), abs_up (mul_abs ha dd) (by decide), by rw [Rat.intCast_mul a, e]⟩
      · rw [getD_out (by omega)]
        exact ⟨0, Nat.two_pow_pos _, Rat.zero_mul _⟩
  exact ⟨_, fun k => (this k).choose, Int.mul_ne_zero (den_ne _) (den_ne _), abs_up dd (by decide), fun k => (this k).choose_spec.1, fun k => (this k).choose_spec.2⟩
theorem CD.rep {s t : Nat} {l : List Rat} {q : Rat} (h : CD s l) (hq : BQ t q) {k : Nat} (hk : k ≤ 1) : CD (s + t) (l ++ List.replicate k q) := by
  have : k = 0 ∨ k = 1 := by omega
  rcases this with rfl | rfl
  · rw [List.replicate_zero, List.append_nil]; exact h.mono (by omega)
  · exact h.snoc hq
/-- a top and a below, below's number 0 one -/
def c_l_two_polys2 : DFn := drawF 2000 (fun ds => ∃ a b, ds = [.stt, .int a, .int b] ∧ 0 ≤ a ∧ a ≤ 200 ∧ 0 ≤ b ∧ b ≤ 200) fun ds r => ∃ T B : List Rat, r = .v (.tup [.tup (nqs T), .tup (nqs B)]) ∧ AllBQ 31 T ∧ AllBQ 3 B ∧ CD 70 T ∧ CD 5 B ∧ trim T = T ∧ B.head? = some 1 ∧
  ∀ a b : Int, ds = [.stt, .int a, .int b] → T.length ≤ a.toNat + 1 ∧ B.length = b.toNat + 1
theorem d_l_two_polys2 (args : List D) (st : Stt) (Kf : Sl → Stt → Prop) (hl : args.length = 3) (q : c_l_two_polys2 args st Kf) : b_l_two_polys (ends Kf) (startD 3 args, st) := by
  obtain ⟨⟨a, b, rfl, a0, a1, b0, b1⟩, g, q⟩ := q
  unfold b_l_two_polys c_l_number c_l_small drawQ c_l_trimmed
  walk_at "dn"
  refine ⟨by omega, by omega, lc_ixs (m := 5) (fun k q => BQ 31 q ∧ (2 ≤ k → ∃ a : Int, a.natAbs < 2 ^ 3 ∧ q = (a : Rat))) (by decide) (fun i st Kd g k => ?_) _ 0 [] _ (g.mono (by omega)) rfl (by omega) (fun k hk => absurd hk (by omega)) fun l s1 e1 a1' l1 => ?_⟩
  · walk_at "dn"
    refine ⟨fun _ => draw_ok rfl g (by omega) fun r s2 ⟨z, er, hz⟩ l2 g2 => ?_, fun _ => take_ok g (by omega) (by omega) (by omega) fun r s2 r0 r1 l2 g2 => ?_⟩
    · subst er
      exact k z _ ⟨hz, fun h => absurd h (by omega)⟩ (l2.mono (by omega))
    · walk_at "dn"
      exact ⟨by decide, k ((r - 3 : Int) : Rat) _ ⟨BQ.int (abs_small (by omega) (by decide)) (by decide), fun _ => ⟨r - 3, by omega, rfl⟩⟩ (l2.mono (by omega))⟩
  have g1 := g.left l1
  refine draw_ok rfl (g1.mono (k := 900) (by omega)) (by omega) fun r s2 ⟨z, er, hz, _⟩ l2 g2 => ?_
  subst er
  walk_at "dn"
  refine ⟨by decide, by simp [e1]; omega, by decide, by decide, by omega, by omega, lc_ixs (m := 1) (fun _ q => ∃ a : Int, a.natAbs < 2 ^ 3 ∧ q = (a : Rat)) (by decide) (fun i st Kd g k => ?_) _ 0 [] _ (g2.mono (by omega)) rfl (by omega) (fun k hk => absurd hk (by omega)) fun l' s3 e3 a3 l3 => ?_⟩
  · walk_at "dn"
    refine take_ok g (by omega) (by omega) (by omega) fun r s2 r0 r1 l2 g2 => ?_
    walk_at "dn"
    exact ⟨by decide, k ((r - 2 : Int) : Rat) _ ⟨r - 2, by omega, rfl⟩ (l2.mono (by omega))⟩
  have g3 := g2.left l3
  rw [nqs_one, nqs_app]
  walk_at "dn"
  refine ⟨by simp [e3]; omega, draw_ok rfl (g3.mono (k := 600) (by omega)) (by omega) fun r s4 ⟨y, er, hy, _⟩ l4 g4 => ?_⟩
  subst er
  walk_at "dn"
  have hk : (if 0 < b then (1 : Int) else 0).toNat ≤ 1 := by split <;> decide
  have hk2 : (if 0 < b then (1 : Int) else 0).toNat + (b - 1).toNat = b.toNat := by split <;> omega
  rw [rep_one, nqs_rep, nqs_app, show D.tup [.int 1, .int 1] = nq 1 from rfl, ← nqs_cons]
  have m1 : Mil ((0 + 1) * (if 0 < b then (1 : Int) else 0).toNat) := by
    show _ ≤ _
    omega
  have al : AllBQ 31 l := fun x hx => by
    obtain ⟨i, hi, rfl⟩ := List.getElem_of_mem hx
    have := (a1' i (by omega)).1
    rwa [List.getD_eq_getElem?_getD, List.getElem?_eq_getElem hi] at this
  have al' : ∀ x, x ∈ l' → ∃ a : Int, a.natAbs < 2 ^ 3 ∧ x = (a : Rat) := fun x hx => by
    obtain ⟨i, hi, rfl⟩ := List.getElem_of_mem hx
    have := a3 i (by omega)
    rwa [List.getD_eq_getElem?_getD, List.getElem?_eq_getElem hi] at this
  have cB : CD 5 (1 :: (l' ++ List.replicate (if 0 < b then (1 : Int) else 0).toNat y)) := by
    refine (CD.ints (s := 3) (l := 1 :: l') (fun x hx => ?_) (by decide)).rep hy hk
    rcases List.mem_cons.mp hx with rfl | hx
    · exact ⟨1, by decide, rfl⟩
    · exact al' x hx
  have cT : CD 70 (trim (l ++ [z])) := ((CD.two fun k hk => a1' k (by omega)).snoc hz).trim.mono (by decide)
  refine ⟨by decide, by split <;> decide, by split <;> decide, m1, by rw [nqs_len]; simp [e3]; omega, by decide, q _ _ ⟨_, _, rfl, (al.app (AllBQ.one (hz.mono (by decide)))).trim, ?_, cT, cB, trim_trim _, rfl, fun a' b' e => ?_⟩ (((l1.trans l2).trans (l3.trans l4)).mono (by omega))⟩
  · refine AllBQ.app (l := [1]) (AllBQ.one (BQ.int (i := 1) (by decide) (by decide))) (AllBQ.app (fun x hx => ?_) (AllBQ.rep (hy.mono (by decide))))
    obtain ⟨a, ha, rfl⟩ := al' x hx
    exact BQ.int ha (by decide)
  · injection e with _ e
    injection e with e1' e
    injection e with e2' _
    injection e1' with e1'
    injection e2' with e2'
    subst e1' e2'
    refine ⟨Nat.le_trans (trim_len _) (by simp [e1]), by simp [e3]; omega⟩
/-- a row of n numbers, n to thirty -/
def c_l_row2 : DFn := drawF 5000 (fun ds => ∃ n, ds = [.stt, .int n] ∧ 1 ≤ n ∧ n ≤ 30) fun ds r => ∃ l : List Rat, frz r = .lst (nqs l) ∧ ∀ n : Int, ds = [.stt, .int n] → (l.length : Int) = n ∧ AllBQ 500 l
def b_l_row2 : DSv := (dSeq (dSet 2 (dFn c_l_take (lenIs 2 (dCons (dVar 0) (dCons (dC (.int 8)) dNil)))))
  (dSeq (dIfS (dB (d2 fLt (dVar 2) (dC (.int 2)))) (dRet (asV (dLc (iRange1 (dCons (dVar 1) dNil)) (aName 9) dYes (dFn c_l_any (lenIs 2 (dCons (dVar 0) (dCons (dVar 1) dNil)))) [9]))) dNext)
  (dSeq (dIfS (dB (d2 fEqI (dVar 2) (dC (.int 2)))) (dSeq (dSet 3 (dFn c_l_take (lenIs 2 (dCons (dVar 0) (dCons (d2 fAdd (dVar 1) (dC (.int 1))) dNil)))))
  (dRet (d2 fAdd (asV (d2O fRepO (asV (dLst (dCons (dTup (dCons (dC (.int 0)) (dCons (dC (.int 1)) dNil))) dNil))) (dVar 3))) (asV (dLc (iRange1 (dCons (d2 fSub (dVar 1) (dVar 3)) dNil)) (aName 9) dYes (dFn c_l_any (lenIs 2 (dCons (dVar 0) (dCons (dVar 1) dNil)))) [9]))))) dNext)
  (dSeq (dIfS (dB (d2 fEqI (dVar 2) (dC (.int 3)))) (dSeq (dSetO 4 (d2O fRepO (asV (dLst (dCons (dTup (dCons (dC (.int 0)) (dCons (dC (.int 1)) dNil))) dNil))) (dVar 1)))
  (dSeq (dFor (iRange1 (dCons (dFn c_l_take (lenIs 2 (dCons (dVar 0) (dCons (dC (.int 4)) dNil)))) dNil)) (aName 5) (dSub 4 (dFn c_l_small (lenIs 1 (dCons (dVar 0) dNil))) (dFn c_l_take (lenIs 2 (dCons (dVar 0) (dCons (dVar 1) dNil))))))
  (dRetV 4))) dNext)
  (dSeq (dAsg (dFn c_l_two_polys2 (lenIs 3 (dCons (dVar 0) (dCons (dFn c_l_take (lenIs 2 (dCons (dVar 0) (dCons (d2 fAdd (dC (.int 1)) (d2 fDivE (dVar 1) (dC (.int 2)))) dNil)))) (dCons (dFn c_l_take (lenIs 2 (dCons (dVar 0) (dCons (d2 fAdd (dC (.int 1)) (d2 fDivE (dVar 1) (dC (.int 3)))) dNil)))) dNil))))) (aTup 2 (aCons (aName 6) (aCons (aName 7) aNil))))
  (dSeq (dIfS (dB (d2 fGt (dVar 1) (dC (.int 6)))) (dSet 6 (dFn c_l_trimmed (lenIs 1 (dCons (asV (dLc (iSeq (dVar 6)) (aName 10) dYes (dTup (dCons (d2 fSub (d2 fMod (d2 fIx (dVar 10) (dC (.int 0))) (dC (.int 9))) (dC (.int 4))) (dCons (dC (.int 1)) dNil))) [10])) dNil)))) dNext)
  (dSeq (dSetO 4 (dFnO c_l_series (lenIs 3 (dCons (dVar 6) (dCons (dVar 7) (dCons (dVar 1) dNil))))))
  (dSeq (dIfS (dB (d2 fGt (dVar 2) (dC (.int 5)))) (dSeq (dSet 8 (dFn c_l_take (lenIs 2 (dCons (dVar 0) (dCons (dVar 1) dNil)))))
  (dSub 4 (dFn c_l_plus (lenIs 2 (dCons (dIxO 4 (dVar 8)) (dCons (dFn c_l_small (lenIs 1 (dCons (dVar 0) dNil))) dNil)))) (dVar 8))) dNext)
  (dRetV 4)))))))))
theorem d_l_row2 (args : List D) (st : Stt) (Kf : Sl → Stt → Prop) (hl : args.length = 2) (q : c_l_row2 args st Kf) : b_l_row2 (ends Kf) (startD 9 args, st) := by
  obtain ⟨⟨n, rfl, n0, n1⟩, g, q⟩ := q
  have fin : ∀ (r : Sl) (l : List Rat) (st' : Stt), (l.length : Int) = n → AllBQ (500) l → Left 5000 st st' → frz r = .lst (nqs l) → Kf r st' := fun r l st' h1 h2 h3 h4 =>
    q r st' ⟨l, h4, fun n' e => by
      injection e with _ e
      injection e with e _
      injection e with e
      subst e
      exact ⟨h1, h2⟩⟩ h3
  clear q
  have z0 : D.tup [.int 0, .int 1] = nq 0 := rfl
  unfold b_l_row2 c_l_any c_l_small c_l_two_polys2
  walk_at "dn"
  rw [z0]
  refine take_ok g (by omega) (by omega) (by omega) fun w s1 w0 w1 l1 g1 => ?_
  walk_at "dn"
  refine ⟨fun _ => ⟨by omega, by omega, lc_nums (m := 5) (k := 31) (by decide) (fun i st Kd g k => ?_) _ _ [] _ (g1.mono (by omega)) (by simp; omega) AllBQ.nil fun l s2 e2 a2 l2 => ?_⟩, fun _ => ⟨fun _ => ?_, fun _ => ⟨fun _ => ?_, fun _ => ?_⟩⟩⟩
  · walk_at "dn"
    refine draw_ok ⟨_, rfl⟩ g (by omega) fun r s2 ⟨z, er, hz⟩ l2 g2 => ?_
    subst er
    exact k z _ hz l2
  · exact fin _ l s2 (by rw [e2]; simp; omega) (a2.mono (by omega)) ((l1.trans l2).mono (by omega)) rfl
  · refine take_ok g1 (by omega) (by omega) (by omega) fun r s2 r0 r1 l2 g2 => ?_
    walk_at "dn"
    refine ⟨by decide, by decide, by omega, by omega, (show _ ≤ _ by omega), by omega, by omega, lc_nums (m := 5) (k := 31) (by decide) (fun i st Kd g k => ?_) _ _ [] _ (g2.mono (by omega)) (by simp; omega) AllBQ.nil fun l s3 e3 a3 l3 => ?_⟩
    · walk_at "dn"
      refine draw_ok ⟨_, rfl⟩ g (by omega) fun r s2 ⟨z, er, hz⟩ l2 g2 => ?_
      subst er
      exact k z _ hz l2
    rw [rep_one, nqs_rep, nqs_app]
    simp only [List.length_nil, Nat.zero_add] at e3
    refine ⟨by rw [nqs_len, nqs_len]; simp [e3]; omega, fin _ _ s3 (by simp [e3]; omega) ((AllBQ.rep (BQ0 (by omega))).app (a3.mono (by omega))) (((l1.trans l2).trans l3).mono (by omega)) rfl⟩
  · rw [rep_one, nqs_rep]
    refine ⟨by decide, by decide, by omega, by omega, (show _ ≤ _ by omega), take_ok g1 (by omega) (by omega) (by omega) fun r s2 r0 r1 l2 g2 => ?_⟩
    walk_at "dn"
    refine ⟨by omega, by omega, for_range_ind (fun lo m ρ => ∃ (l : List Rat) (x : Option Sl) (s3 : Stt), ρ = ([some (.v .stt), some (.v (.int n)), some (.v (.int w)), none, some (.own (nqs l)), x, none, none, none, none, none], s3) ∧ (l.length : Int) = n ∧ AllBQ 2 l ∧ m ≤ 3 ∧ Good (100 * (m : Int)) s3 ∧ Left (1000 - 100 * (m : Int)) st s3) ?_ ?_ _ _ _ ⟨List.replicate n.toNat 0, none, _, rfl, by simp; omega, AllBQ.rep (BQ0 (by decide)), by omega, g2.mono (by omega), (l1.trans l2).mono (by omega)⟩⟩
    · rintro lo ρ ⟨l, x, s3, rfl, h1, h2, _, _, h3⟩
      exact fin _ l s3 h1 (h2.mono (by omega)) (h3.mono (by omega)) rfl
    rintro lo m ρ ⟨l, x, s3, rfl, h1, h2, h3, g3, l3⟩ ih
    walk_at "dn"
    refine draw_ok rfl (g3.mono (k := 50) (by omega)) (by omega) fun r s4 ⟨y, er, hy, _⟩ l4 g4 => ?_
    subst er
    walk_at "dn"
    refine take_ok (m := 20) (g4.mono (by omega)) (by omega) (by omega) (by omega) fun pl s5 pl0 pl1 l5 g5 => ?_
    walk_at "dn"
    have ei : ixN l.length pl = some pl.toNat := by
      unfold ixN
      rw [if_pos pl0, if_pos (by omega)]
    rw [ei]
    show forD _ _ _ _ _
    rw [nqs_set]
    exact ih _ ⟨_, _, s5, rfl, by simp; omega, h2.set hy, by omega, (g3.left (l4.trans l5)).mono (by omega), (l3.trans (l4.trans l5)).mono (by omega)⟩
  · have dv : ∀ k : Int, 0 < k → 0 ≤ n.fdiv k ∧ n.fdiv k ≤ 30 := fun k hk => by
      rw [Int.fdiv_eq_ediv_of_nonneg _ (by omega)]
      exact ⟨Int.ediv_nonneg (by omega) (by omega), Int.le_trans (Int.ediv_le_self _ (by omega)) n1⟩
    have d2 := dv 2 (by decide)
    have d3 := dv 3 (by decide)
    have tail : ∀ (l : List Rat) (s : Stt), (l.length : Int) = n → AllBQ (400) l → Good 100 s → Left 4000 st s →
        (5 < w → c_l_take [D.stt, D.int n] s fun r st => asI (frz r) fun j => match atI (nqs l) j with
          | some d => drawF 2 (fun ds => ds = [D.stt]) (fun x r => ∃ q, r = Sl.v (nq q) ∧ BQ 2 q ∧ q ≠ 0) [D.stt] st fun r_2 st => nn (fun p q => nq (p + q)) [d, frz r_2] st fun r_3 st => asI (frz r) fun j => match ixN (nqs l).length j with
            | some n => Kf (Sl.own ((nqs l).set n (frz r_3))) st
            | none => False
          | none => False) ∧ (¬5 < w → Kf (Sl.own (nqs l)) s) := fun l s h1 h2 gs ls => by
      refine ⟨fun _ => take_ok gs (by omega) (by omega) (by omega) fun r s2 r0 r1 l2 g2 => ?_, fun _ => fin _ l s h1 (h2.mono (by omega)) (ls.mono (by omega)) rfl⟩
      have ei : ixN l.length r = some r.toNat := by
        unfold ixN
        rw [if_pos r0, if_pos (by omega)]
      show asI (.int r) _
      rw [asI_int, atI_in r0 (by omega)]
      refine draw_ok rfl g2 (by omega) fun x s4 ⟨y, er, hy, _⟩ l4 g4 => ?_
      subst er
      walk_at "dn"
      rw [ei]
      have hb := getD_all h2 (BQ0 (by omega)) r.toNat
      refine ⟨Sq.of hb (by omega), Sq.of hy (by decide), ?_⟩
      show Kf (Sl.own ((nqs l).set _ (nq _))) _
      rw [nqs_set]
      exact fin _ _ s4 (by simpa using h1) ((h2.mono (by omega)).set ((hb.add hy).mono (by omega))) ((ls.trans (l2.trans l4)).mono (by omega)) rfl
    refine ⟨⟨by decide⟩, take_ok g1 (by omega) (by omega) (by omega) fun a s2 a0 a1 l2 g2 => ⟨⟨by decide⟩, ?_⟩⟩
    refine take_ok g2 (by omega) (by omega) (by omega) fun b s3 b0 b1 l3 g3 => ?_
    refine draw_ok ⟨a, b, rfl, a0, by omega, b0, by omega⟩ g3 (by omega) fun r s4 ⟨T, B, er, hT, hB, cT, cB, _, _, hTl⟩ l4 g4 => ?_
    subst er
    walk_at "dn"
    have lB : B.length ≤ 2 ^ 5 := by
      rw [(hTl a b rfl).2]; omega
    have nb : n.toNat ≤ 30 := by omega
    have m30 := Nat.mul_le_mul_right (5 + 5) nb
    have big : 70 + n.toNat * (5 + 5) + 5 ≤ 400 := by omega
    have lT := g4.mono (k := 100) (by omega)
    have lS := (l1.trans l2).trans (l3.trans l4)
    refine ⟨fun _ => lc_map (fun x => (((x.num.fmod 9 - 4 : Int)) : Rat)) T [] _ (fun x hx Kd k => ?_) ?_ ?_, fun _ => ?_⟩
    · walk_at "dn"
      exact ⟨⟨by decide⟩, by decide, k _ rfl⟩
    · have : T.length ≤ 200 := Nat.le_trans (hTl a b rfl).1 (by omega)
      simp; omega
    · refine ⟨false, _, rfl, ?_⟩
      have hT2 : AllBQ 31 (trim (([] : List Rat) ++ T.map fun x => (((x.num.fmod 9 - 4 : Int)) : Rat))) := AllBQ.trim fun x hx => by
        obtain ⟨y, _, rfl⟩ := List.mem_map.mp (by simpa using hx)
        have h1 := (fmod_lt (a := y.num) (b := 9) (by decide))
        have := BQ.int (k := 31) (i := y.num.fmod 9 - 4) (abs_small (by omega) (by decide)) (by decide)
        simpa using this
      have cT2 : CD 70 (trim (([] : List Rat) ++ T.map fun x => (((x.num.fmod 9 - 4 : Int)) : Rat))) := (CD.ints (s := 31) (fun x hx => by
        obtain ⟨y, _, rfl⟩ := List.mem_map.mp (by simpa using hx)
        have h1 := (fmod_lt (a := y.num) (b := 9) (by decide))
        exact ⟨y.num.fmod 9 - 4, abs_small (by omega) (by decide), by simp⟩) (by decide)).trim.mono (by decide)
      have ok := SerOk.cd (n := n.toNat) (c := 5) cT2 cB lB (by omega)
      have hb := (ser_all (n := n.toNat) cT2 cB lB).mono (k := 400) (by omega)
      exact ⟨true, _, true, B, n, rfl, by omega, by omega, ok, tail _ s4 (by rw [serL_len]; omega) hb lT (lS.mono (by omega))⟩
    · have ok := SerOk.cd (n := n.toNat) (c := 5) cT cB lB (by omega)
      have hb := (ser_all (n := n.toNat) cT cB lB).mono (k := 400) (by omega)
      exact ⟨true, T, true, B, n, rfl, by omega, by omega, ok, tail _ s4 (by rw [serL_len]; omega) hb lT (lS.mono (by omega))⟩
end DL
namespace DL
open PySem PySem.Spec PyProof.Rows L2
/-! ### pairs of rows -/
theorem eqD_pt (a b c d : List Rat) : eqD (.tup [.tup (nqs a), .tup (nqs b)]) (.tup [.tup (nqs c), .tup (nqs d)]) = (decide (a = c) && decide (b = d)) := by
  unfold eqD
  simp only [pyD, pyL, PyData.eqv, PyData.eqvAll, Bool.and_true]
  show (eqD (.tup (nqs a)) (.tup (nqs c)) && eqD (.tup (nqs b)) (.tup (nqs d))) = _
  rw [eqD_tup, eqD_tup]
theorem eqD_pl (a b c d : List Rat) : eqD (.lst [.tup (nqs a), .tup (nqs b)]) (.lst [.tup (nqs c), .tup (nqs d)]) = (decide (a = c) && decide (b = d)) := by
  unfold eqD
  simp only [pyD, pyL, PyData.eqv, PyData.eqvAll, Bool.and_true]
  show (eqD (.tup (nqs a)) (.tup (nqs c)) && eqD (.tup (nqs b)) (.tup (nqs d))) = _
  rw [eqD_tup, eqD_tup]
theorem okD_pt (a b : List Rat) : okD (.tup [.tup (nqs a), .tup (nqs b)]) = true := by
  have h := dep_nqs a
  have h' := dep_nqs b
  simp [okD, plainD, plainL, pyD, pyL, SeqAt.shaped, PyData.canLay0, PyData.canLayAll0, PyData.depth, PyData.depthAll, plain_nqs, lay_nqs]; omega
theorem okD_pl (a b : List Rat) : okD (.lst [.tup (nqs a), .tup (nqs b)]) = true := by
  have h := dep_nqs a
  have h' := dep_nqs b
  simp [okD, plainD, plainL, pyD, pyL, SeqAt.shaped, PyData.canLay0, PyData.canLayAll0, PyData.depth, PyData.depthAll, plain_nqs, lay_nqs]; omega
/-! ### all of truths -/
theorem lc_trues {s : Nat} {te : DEv} {env : List (Option Sl)} {K : List D → Stt → Prop} {m : Int} (hm : 0 ≤ m)
    (h : ∀ (i : Int) (st : Stt) (Kd : D → En → Prop), Good m st → (∀ (ρ : En), Left m st ρ.2 → Kd (.bl true) ρ) → te (setV (env, st) s (.int i)) Kd) :
    ∀ (n : Nat) (lo : Int) (a : Nat) (st : Stt), Good (m * n) st → a + n ≤ 1000000 → (∀ st', Left (m * n) st st' → K (List.replicate (a + n) (.bl true)) st') → lcD (aName s) dYes te env (rangeD lo n) (List.replicate a (.bl true)) st K
  | 0, lo, a, st, g, hl, fin => fin st (Left.refl g (by simp))
  | n + 1, lo, a, st, g, hl, fin => by
    have e : m * ((n + 1 : Nat) : Int) = m * (n : Int) + m := by rw [Int.natCast_add, Int.mul_add]; simp
    have h0 : 0 ≤ m * (n : Int) := Int.mul_nonneg hm (Int.natCast_nonneg n)
    rw [rangeD_succ]
    unfold lcD aName dYes
    rw [e] at g
    refine ⟨fun _ => ?_, fun z => nomatch z⟩
    refine h lo st _ (g.mono (by omega)) fun ρ l => ⟨by simp; omega, ?_⟩
    rw [show List.replicate a (D.bl true) ++ [.bl true] = List.replicate (a + 1) (.bl true) by rw [List.replicate_succ']]
    refine lc_trues hm h n (lo + 1) (a + 1) ρ.2 ((g.left l).mono (by omega)) (by omega) fun st' e3 => ?_
    rw [show a + 1 + n = a + (n + 1) by omega]
    refine fin st' ?_
    rw [e]
    exact (l.trans e3).mono (by omega)
theorem bls_trues : ∀ n : Nat, blsOf (List.replicate n (D.bl true)) = some (List.replicate n true)
  | 0 => rfl
  | n + 1 => by rw [List.replicate_succ]; unfold blsOf; rw [bls_trues n]; rfl
theorem fAll_trues {n : Nat} {P : D → Prop} : fAll [.lst (List.replicate n (.bl true))] P = P (.bl true) := by
  unfold fAll
  rw [as1_one, asL_lst, bls_trues]
  have : (List.replicate n true).all id = true := by simp
  show P (.bl ((List.replicate n true).all id)) = _
  rw [this]
theorem Quo.rows {w L M N : Nat} {T B : List Rat} (h : Quo w L M T B) {c : Nat} (hM : M ≤ 2 ^ c) (hn : 2 * w + N * (w + c) + w + 1 ≤ 67000000) : ∀ k, k ≤ N → RowOk T B k := fun k hk => h.row hM (by
  have := Nat.mul_le_mul_right (w + c) hk
  omega)
/-- a quotient of what is drawn, made: whatever its top -/
theorem quo11 {l m T : List Rat} (h : l = T ∨ l = []) (cT : CD 70 T) (cm : CD 5 m) (hm : m.head? = some 1) (lT : T.length ≤ 11) (lm : m.length ≤ 10) :
    trim m ≠ [] ∧ (qB (trim l) (trim m)).getD 0 0 ≠ 0 ∧ QuoOk (trim l) (trim m) ∧ Quo 750000 11 10 (quoT (trim l) (trim m)) (quoB (trim l) (trim m)) ∧ (T.length + m.length < 6 → Quo 20000 6 6 (quoT (trim l) (trim m)) (quoB (trim l) (trim m))) := by
  have cl : CD 70 l := by
    rcases h with rfl | rfl
    · exact cT
    · exact CD.nil (by decide)
  have ll : l.length ≤ T.length := by
    rcases h with rfl | rfl
    · exact Nat.le_refl _
    · exact Nat.zero_le _
  obtain ⟨q1, q2, q3⟩ := quo_made (s := 70) (t := 5) (W := 35000) (w := 750000) (L := 11) (M := 10) (trim_ne hm) (trim_zero hm) cl cm (by omega) lm (by decide) (by decide) (by decide) (by decide) (by decide) (by decide) (by decide)
  refine ⟨trim_ne hm, q1, q2, q3, fun h6 => ?_⟩
  exact (quo_made (s := 70) (t := 5) (W := 1100) (w := 20000) (L := 6) (M := 6) (trim_ne hm) (trim_zero hm) cl cm (by omega) (by omega) (by decide) (by decide) (by decide) (by decide) (by decide) (by decide) (by decide)).2.2
end DL
namespace DL
open PySem PySem.Spec PyProof.Rows L2
local macro_rules | `(tactic| walk_at "dl") => `(tactic| simp -implicitDefEqProofs only [dSeq, dNext, dIfS, dB, dNot, dAnd, dOr, d2, fLt, fLe, fGt, fGe, fEqI, fNeI, fEqB, fNeB, fEqS, fNeS, fIsN_non, fNotN_non, fIsB, fNotB, fSub, fMul, fDiv, fDivE, fMod, fPow, fI, fI0, asI_int, asB_bl, asT_tup, asL_lst, asQ_tup, asQ_lst, asS_str, as1_one, as2_two, frz_v, frz_own, fAdd_int, fAdd_tup, fAdd_lst, fIx_tup0, fIx_tup1, fIx_lst0, fIx_lst1, fLen_tup, fLen_lst, fInt_bl, fTuple_tup, fTuple_lst, isN_int, isN_tup, isN_lst, isN_bl, isN_str, isN_non, dVar, dC, dNeg, dSet, dSetO, dPar, dAsg, dAug, dRet, dRetO, dRetV, dRetN, dTup, dCons, dNil, dFn, dFnO, lenIs, dCB, fAbs, fMax2, fMin2, dIsi, dAndV, dOrV, dNotV, dIf, dFor, iSeq, iRange1, iRange2, iZip, aName, aTup, aCons, aNil, dLc, dYes, dLitO, noOwn, wipeE, ends, startD, setV, setO, ownAt, asV, dLst, dListO, dLenO, dTupO, dFrz, dApp, dPop, dClear, dSub, dIxO, d2O, fCatO, fRepO, pt_non, isi_non_int, isi_non_bool, isi_non_tuple, isi_non_list, isi_non_str, pt_bl, isi_bl_int, isi_bl_bool, isi_bl_tuple, isi_bl_list, isi_bl_str, pt_int, isi_int_int, isi_int_bool, isi_int_tuple, isi_int_list, isi_int_str, pt_str, isi_str_int, isi_str_bool, isi_str_tuple, isi_str_list, isi_str_str, pt_tup, isi_tup_int, isi_tup_bool, isi_tup_tuple, isi_tup_list, isi_tup_str, pt_lst, isi_lst_int, isi_lst_bool, isi_lst_tuple, isi_lst_list, isi_lst_str, Br_true, Br_false, Br_dec, Br_not, tt_imp, List.map_cons, List.map_nil, List.cons_append, List.nil_append, List.replicate_succ, List.replicate_zero, List.getElem?_cons_zero, List.getElem?_cons_succ, List.set_nil, List.set_cons_zero, List.set_cons_succ, List.length_cons, List.length_nil, Bool.not_true, Bool.not_false, decide_eq_true_eq, not_true_eq_false, not_false_eq_true, true_and, and_true])
local macro_rules | `(tactic| walk_at "d1") => `(tactic| simp -implicitDefEqProofs only [aName, setV, setO, List.set_cons_zero, List.set_cons_succ])
local macro_rules | `(tactic| walk_at "dn") => `(tactic| simp -implicitDefEqProofs only [flT_nq, flT_bl, dBorT, aTupQ, dTurn, fIx_nq0, fIx_nq1, asN_nq, num_e, part_e, same_e, nn_e2, over_e, l_over_e, c_plus, c_minus, c_times, c_before, c_l_plus, c_l_minus, c_l_times, num_eq, num_lt0, sub_lt0, due_nq, asR_r, asR_t, asR_l, asQ_r, fLen_r, fTuple_r, pt_r, asT1_t, okD_nq, okD_lst, okD_tup, okD_nil, okD_nilt, eqD_nq, eqD_lst, eqD_tup, eqD_nil, eqD_nilt, nqs_len, dCmpO, eqB, neB, dMeth, dChain, iEnum, iRev, iRange3, as3_three, dBor, dCatO, fl_bl, fEqD, fNeD, c_Exact_nought, c_Exact_one, c_Exact_plus, c_Exact_minus, c_Exact_times, c_Exact_over, c_Exact_is_nought, List.tail_cons, D.ins.injEq, exists_eq', exists_and_left, and_true, true_and, dSl, dPn, dPs, fSl_lst, fSl_tup, dSeq, dNext, dIfS, dB, dNot, dAnd, dOr, d2, fLt, fLe, fGt, fGe, fEqI, fNeI, fEqB, fNeB, fEqS, fNeS, fIsN_non, fNotN_non, fIsB, fNotB, fSub, fMul, fDiv, fDivE, fMod, fPow, fI, fI0, asI_int, asB_bl, asT_tup, asL_lst, asQ_tup, asQ_lst, asS_str, as1_one, as2_two, frz_v, frz_own, fAdd_int, fAdd_tup, fAdd_lst, fIx_tup0, fIx_tup1, fIx_lst0, fIx_lst1, fLen_tup, fLen_lst, fInt_bl, fTuple_tup, fTuple_lst, isN_int, isN_tup, isN_lst, isN_bl, isN_str, isN_non, dVar, dC, dNeg, dSet, dSetO, dPar, dAsg, dAug, dRet, dRetO, dRetV, dRetN, dTup, dCons, dNil, dFn, dFnO, lenIs, dCB, fAbs, fMax2, fMin2, dIsi, dAndV, dOrV, dNotV, dIf, dFor, iSeq, iRange1, iRange2, iZip, aName, aTup, aCons, aNil, dLc, dYes, dLitO, noOwn, wipeE, ends, startD, setV, setO, ownAt, asV, dLst, dListO, dLenO, dTupO, dFrz, dApp, dPop, dClear, dSub, dIxO, d2O, fCatO, fRepO, pt_non, isi_non_int, isi_non_bool, isi_non_tuple, isi_non_list, isi_non_str, pt_bl, isi_bl_int, isi_bl_bool, isi_bl_tuple, isi_bl_list, isi_bl_str, pt_int, isi_int_int, isi_int_bool, isi_int_tuple, isi_int_list, isi_int_str, pt_str, isi_str_int, isi_str_bool, isi_str_tuple, isi_str_list, isi_str_str, pt_tup, isi_tup_int, isi_tup_bool, isi_tup_tuple, isi_tup_list, isi_tup_str, pt_lst, isi_lst_int, isi_lst_bool, isi_lst_tuple, isi_lst_list, isi_lst_str, Br_true, Br_false, Br_dec, Br_not, tt_imp, List.map_cons, List.map_nil, List.cons_append, List.nil_append, List.replicate_succ, List.replicate_zero, List.getElem?_cons_zero, List.getElem?_cons_succ, List.set_nil, List.set_cons_zero, List.set_cons_succ, List.length_cons, List.length_nil, Bool.not_true, Bool.not_false, decide_eq_true_eq, not_true_eq_false, not_false_eq_true, true_and, and_true])
/-! ### rules -/
/-- a comprehension of truths over places -/
theorem lc_bools {s : Nat} {te : DEv} {env : List (Option Sl)} {K : List D → Stt → Prop} (P : Nat → Bool) :
    ∀ (n lo : Nat) (acc : List D) (st : Stt), (∀ i, lo ≤ i → i < lo + n → ∀ (Kd : D → En → Prop), (∀ ρ : En, ρ.2 = st → Kd (.bl (P i)) ρ) → te (setV (env, st) s (.int (i : Nat))) Kd) → acc.length + n ≤ 1000000 → K (acc ++ (List.range' lo n).map fun i => D.bl (P i)) st → lcD (aName s) dYes te env (rangeD ((lo : Nat) : Int) n) acc st K
  | 0, lo, acc, st, h, hl, fin => by
    rw [List.range'_zero, List.map_nil, List.append_nil] at fin
    exact fin
  | n + 1, lo, acc, st, h, hl, fin => by
    rw [rangeD_succ]
    unfold lcD aName dYes
    refine ⟨fun _ => ?_, fun z => nomatch z⟩
    refine h lo (Nat.le_refl _) (by omega) _ fun ρ e => ⟨by omega, ?_⟩
    rw [e, show ((lo : Nat) : Int) + 1 = ((lo + 1 : Nat) : Int) by omega]
    refine lc_bools P n (lo + 1) (acc ++ [.bl (P lo)]) st (fun i h1 h2 => h i (by omega) (by omega)) (by simp; omega) ?_
    rw [List.range'_succ, List.map_cons] at fin
    simpa using fin
theorem bls_map (P : Nat → Bool) : ∀ l : List Nat, blsOf (l.map fun i => D.bl (P i)) = some (l.map P)
  | [] => rfl
  | a :: l => by rw [List.map_cons]; unfold blsOf; rw [bls_map P l]; rfl
theorem fAll_map {P : Nat → Bool} {l : List Nat} {Q : D → Prop} : fAll [.lst (l.map fun i => D.bl (P i))] Q = Q (.bl (l.all P)) := by
  unfold fAll
  rw [as1_one, asL_lst, bls_map]
  have : (l.map P).all id = l.all P := by rw [List.all_map]; rfl
  show Q (.bl ((l.map P).all id)) = _
  rw [this]
/-- what the weights tell of place i, the first j of them taken -/
def tW (W F : List Rat) (i : Nat) : Nat → Rat
  | 0 => 0
  | j + 1 => tW W F i j + W.getD j 0 * (if j + 1 ≤ i then F.getD (i - (j + 1)) 0 else 0)
structure ToldOk (W F : List Rat) (i : Nat) : Prop where
  w : AllSq W
  f : AllSq F
  t : ∀ j, j ≤ W.length → Sq (tW W F i j)
  m : ∀ j, j < W.length → Sq (W.getD j 0 * (if j + 1 ≤ i then F.getD (i - (j + 1)) 0 else 0))
theorem tW_bq {W F : List Rat} {a b i : Nat} (hW : AllBQ a W) (hF : AllBQ b F) (a1 : 1 ≤ a) (b1 : 1 ≤ b) : ∀ j, BQ (1 + j * (a + b + 1)) (tW W F i j)
  | 0 => BQ0 (by omega)
  | j + 1 => by
    have ih := tW_bq (i := i) hW hF a1 b1 j
    have h2 : BQ b (if j + 1 ≤ i then F.getD (i - (j + 1)) 0 else 0) := by
      split
      · exact getD_all hF (BQ0 b1) _
      · exact BQ0 b1
    refine (ih.add ((getD_all hW (BQ0 a1) j).mul h2)).mono ?_
    rw [Nat.add_mul]; omega
theorem ToldOk.crude {W F : List Rat} {a b i : Nat} (hW : AllBQ a W) (hF : AllBQ b F) (a1 : 1 ≤ a) (b1 : 1 ≤ b) (h : 1 + (W.length + 1) * (a + b + 1) ≤ 67000000) : ToldOk W F i := by
  rw [Nat.add_mul, Nat.one_mul] at h
  refine ⟨hW.sq (by omega), hF.sq (by omega), fun j hj => (tW_bq hW hF a1 b1 j).mono ?_, fun j _ => ?_⟩
  · have := Nat.mul_le_mul_right (a + b + 1) hj
    omega
  · split
    · exact ((getD_all hW (BQ0 a1) j).mul (getD_all hF (BQ0 b1) _)).mono (by omega)
    · rw [Rat.mul_zero]; exact Sq0
def c_number_ahead : DFn := fun ds st Kf => ∃ b l i, ds = [rD b l, .int i] ∧ i < l.length ∧ (0 ≤ i → Kf (.v (nq (l.getD i.toNat 0))) st) ∧ (i < 0 → Kf (.v (nq 0)) st)
def c_told_by : DFn := fun ds st Kf => ∃ b W c F i, ds = [rD b W, rD c F, .int ((i : Nat) : Int)] ∧ W.length ≤ 1000 ∧ i ≤ F.length ∧ ToldOk W F i ∧ Kf (.v (nq (tW W F i W.length))) st
def c_obeys : DFn := fun ds st Kf => ∃ z b W c F i, ds = [rD c F, pD z (rD b W) (.int ((i : Nat) : Int))] ∧ W.length ≤ 1000 ∧ F.length ≤ 1000 ∧ i ≤ 1000 ∧ (∀ k, k < F.length → ToldOk W F k) ∧ Kf (.v (.bl ((List.range' i (F.length - i)).all fun k => decide (tW W F k W.length = F.getD k 0)))) st
def b_number_ahead : DSv := (dRet (dIf (dB (d2 fGe (dVar 1) (dC (.int 0)))) (d2 fIx (dVar 0) (dVar 1)) (dC (.tup [(.int 0), (.int 1)]))))
def b_told_by : DSv := (dSeq (dSet 3 (dC (.tup [(.int 0), (.int 1)])))
  (dSeq (dFor (iEnum (dCons (dVar 0) dNil)) (aTup 2 (aCons (aName 4) (aCons (aName 5) aNil))) (dSet 3 (dFn c_plus (lenIs 2 (dCons (dVar 3) (dCons (dFn c_times (lenIs 2 (dCons (dVar 5) (dCons (dFn c_number_ahead (lenIs 2 (dCons (dVar 1) (dCons (d2 fSub (d2 fSub (dVar 2) (dC (.int 1))) (dVar 4)) dNil)))) dNil)))) dNil))))))
  (dRet (dVar 3))))
def b_obeys : DSv := (dSeq (dAsg (dVar 1) (aTupQ 2 (aCons (aName 2) (aCons (aName 3) aNil))))
  (dRet (dCB fAll (dCons (asV (dLc (iRange2 (dCons (dVar 3) (dCons (dCB fLen (dCons (dVar 0) dNil)) dNil))) (aName 4) dYes (d2 fEqD (dFn c_told_by (lenIs 3 (dCons (dVar 2) (dCons (dVar 0) (dCons (dVar 4) dNil))))) (d2 fIx (dVar 0) (dVar 4))) [4])) dNil))))
theorem d_number_ahead (args : List D) (st : Stt) (Kf : Sl → Stt → Prop) (hl : args.length = 2) (q : c_number_ahead args st Kf) : b_number_ahead (ends Kf) (startD 0 args, st) := by
  obtain ⟨b, l, i, rfl, hi, h0, h1⟩ := q
  unfold b_number_ahead
  walk_at "dn"
  refine ⟨fun h => ?_, fun h => h1 (by omega)⟩
  rw [fIx_in h (by omega)]; exact h0 h
theorem d_told_by (args : List D) (st : Stt) (Kf : Sl → Stt → Prop) (hl : args.length = 3) (q : c_told_by args st Kf) : b_told_by (ends Kf) (startD 3 args, st) := by
  obtain ⟨b, W, c, F, i, rfl, h1, h2, ok, q⟩ := q
  unfold b_told_by
  walk_at "dn"
  rw [show D.tup [.int 0, .int 1] = nq 0 from rfl]
  refine for_num_ix (fun j ρ => ∃ x y, ρ = ([some (.v (rD b W)), some (.v (rD c F)), some (.v (.int (i : Nat))), some (.v (nq (tW W F i j))), x, y], st)) ?_ ?_ _ ⟨none, none, rfl⟩
  · rintro ρ ⟨x, y, rfl⟩
    walk_at "dn"
    exact q
  rintro j ρ nx hj ⟨x, y, rfl⟩ k
  walk_at "dn"
  have fin : ∀ v : Rat, v = (if j + 1 ≤ i then F.getD (i - (j + 1)) 0 else 0) → Sq (W.getD j 0) ∧ Sq v ∧ Sq (tW W F i j) ∧ Sq (W.getD j 0 * v) ∧ nx ([some (.v (rD b W)), some (.v (rD c F)), some (.v (.int (i : Nat))), some (.v (nq (tW W F i j + W.getD j 0 * v))), some (.v (.int (j : Nat))), some (.v (nq (W.getD j 0)))], st) := fun v hv => by
    subst hv
    refine ⟨ok.w.at _, ?_, ok.t j (by omega), ok.m j hj, k _ ⟨_, _, rfl⟩⟩
    split
    · exact ok.f.at _
    · exact Sq0
  refine ⟨c, F, _, rfl, by omega, fun h => ?_, fun h => ?_⟩
  · walk_at "dn"
    exact fin _ (by rw [if_pos (by omega), show ((i : Int) - 1 - (j : Nat)).toNat = i - (j + 1) by omega])
  · walk_at "dn"
    exact fin _ (by rw [if_neg (by omega)])
theorem d_obeys (args : List D) (st : Stt) (Kf : Sl → Stt → Prop) (hl : args.length = 2) (q : c_obeys args st Kf) : b_obeys (ends Kf) (startD 3 args, st) := by
  obtain ⟨z, b, W, c, F, i, rfl, h1, h2, h3, ok, q⟩ := q
  unfold b_obeys
  refine seq_by (fun ρ => ρ = ([some (.v (rD c F)), some (.v (pD z (rD b W) (.int (i : Nat)))), some (.v (rD b W)), some (.v (.int (i : Nat))), none], st)) (fun nx hnx => ?_) ?_
  · cases z
    · show dAsg (dVar 1) _ _ ([some (.v (rD c F)), some (.v (.lst [rD b W, .int (i : Nat)])), none, none, none], st)
      walk_at "dn"
      exact hnx _ rfl
    · show dAsg (dVar 1) _ _ ([some (.v (rD c F)), some (.v (.tup [rD b W, .int (i : Nat)])), none, none, none], st)
      walk_at "dn"
      exact hnx _ rfl
  rintro ρ rfl
  walk_at "dn"
  refine ⟨by omega, ?_⟩
  rw [show ((F.length : Int) - (i : Nat)).toNat = F.length - i by omega]
  refine lc_bools (fun k => decide (tW W F k W.length = F.getD k 0)) _ i [] st (fun k hk1 hk2 Kd kd => ?_) (by simp; omega) ?_
  · walk_at "dn"
    refine ⟨b, W, c, F, k, rfl, h1, by omega, ok k (by omega), ?_⟩
    walk_at "dn"
    rw [fIx_in (by omega) (by omega)]
    walk_at "dn"
    exact kd _ rfl
  · rw [List.nil_append, fAll_map]
    exact q
end DL
namespace DL
open PySem PySem.Spec PyProof.Rows L2
local macro_rules | `(tactic| walk_at "dl") => `(tactic| simp -implicitDefEqProofs only [dSeq, dNext, dIfS, dB, dNot, dAnd, dOr, d2, fLt, fLe, fGt, fGe, fEqI, fNeI, fEqB, fNeB, fEqS, fNeS, fIsN_non, fNotN_non, fIsB, fNotB, fSub, fMul, fDiv, fDivE, fMod, fPow, fI, fI0, asI_int, asB_bl, asT_tup, asL_lst, asQ_tup, asQ_lst, asS_str, as1_one, as2_two, frz_v, frz_own, fAdd_int, fAdd_tup, fAdd_lst, fIx_tup0, fIx_tup1, fIx_lst0, fIx_lst1, fLen_tup, fLen_lst, fInt_bl, fTuple_tup, fTuple_lst, isN_int, isN_tup, isN_lst, isN_bl, isN_str, isN_non, dVar, dC, dNeg, dSet, dSetO, dPar, dAsg, dAug, dRet, dRetO, dRetV, dRetN, dTup, dCons, dNil, dFn, dFnO, lenIs, dCB, fAbs, fMax2, fMin2, dIsi, dAndV, dOrV, dNotV, dIf, dFor, iSeq, iRange1, iRange2, iZip, aName, aTup, aCons, aNil, dLc, dYes, dLitO, noOwn, wipeE, ends, startD, setV, setO, ownAt, asV, dLst, dListO, dLenO, dTupO, dFrz, dApp, dPop, dClear, dSub, dIxO, d2O, fCatO, fRepO, pt_non, isi_non_int, isi_non_bool, isi_non_tuple, isi_non_list, isi_non_str, pt_bl, isi_bl_int, isi_bl_bool, isi_bl_tuple, isi_bl_list, isi_bl_str, pt_int, isi_int_int, isi_int_bool, isi_int_tuple, isi_int_list, isi_int_str, pt_str, isi_str_int, isi_str_bool, isi_str_tuple, isi_str_list, isi_str_str, pt_tup, isi_tup_int, isi_tup_bool, isi_tup_tuple, isi_tup_list, isi_tup_str, pt_lst, isi_lst_int, isi_lst_bool, isi_lst_tuple, isi_lst_list, isi_lst_str, Br_true, Br_false, Br_dec, Br_not, tt_imp, List.map_cons, List.map_nil, List.cons_append, List.nil_append, List.replicate_succ, List.replicate_zero, List.getElem?_cons_zero, List.getElem?_cons_succ, List.set_nil, List.set_cons_zero, List.set_cons_succ, List.length_cons, List.length_nil, Bool.not_true, Bool.not_false, decide_eq_true_eq, not_true_eq_false, not_false_eq_true, true_and, and_true])
local macro_rules | `(tactic| walk_at "d1") => `(tactic| simp -implicitDefEqProofs only [aName, setV, setO, List.set_cons_zero, List.set_cons_succ])
local macro_rules | `(tactic| walk_at "dn") => `(tactic| simp -implicitDefEqProofs only [okD_pt, okD_pl, eqD_pt, eqD_pl, flT_nq, flT_bl, dBorT, aTupQ, dTurn, fIx_nq0, fIx_nq1, asN_nq, num_e, part_e, same_e, nn_e2, over_e, l_over_e, c_plus, c_minus, c_times, c_before, c_l_plus, c_l_minus, c_l_times, num_eq, num_lt0, sub_lt0, due_nq, asR_r, asR_t, asR_l, asQ_r, fLen_r, fTuple_r, pt_r, asT1_t, okD_nq, okD_lst, okD_tup, okD_nil, okD_nilt, eqD_nq, eqD_lst, eqD_tup, eqD_nil, eqD_nilt, nqs_len, dCmpO, eqB, neB, dMeth, dChain, iEnum, iRev, iRange3, as3_three, dBor, dCatO, fl_bl, fEqD, fNeD, c_Exact_nought, c_Exact_one, c_Exact_plus, c_Exact_minus, c_Exact_times, c_Exact_over, c_Exact_is_nought, List.tail_cons, D.ins.injEq, exists_eq', exists_and_left, and_true, true_and, dSl, dPn, dPs, fSl_lst, fSl_tup, dSeq, dNext, dIfS, dB, dNot, dAnd, dOr, d2, fLt, fLe, fGt, fGe, fEqI, fNeI, fEqB, fNeB, fEqS, fNeS, fIsN_non, fNotN_non, fIsB, fNotB, fSub, fMul, fDiv, fDivE, fMod, fPow, fI, fI0, asI_int, asB_bl, asT_tup, asL_lst, asQ_tup, asQ_lst, asS_str, as1_one, as2_two, frz_v, frz_own, fAdd_int, fAdd_tup, fAdd_lst, fIx_tup0, fIx_tup1, fIx_lst0, fIx_lst1, fLen_tup, fLen_lst, fInt_bl, fTuple_tup, fTuple_lst, isN_int, isN_tup, isN_lst, isN_bl, isN_str, isN_non, dVar, dC, dNeg, dSet, dSetO, dPar, dAsg, dAug, dRet, dRetO, dRetV, dRetN, dTup, dCons, dNil, dFn, dFnO, lenIs, dCB, fAbs, fMax2, fMin2, dIsi, dAndV, dOrV, dNotV, dIf, dFor, iSeq, iRange1, iRange2, iZip, aName, aTup, aCons, aNil, dLc, dYes, dLitO, noOwn, wipeE, ends, startD, setV, setO, ownAt, asV, dLst, dListO, dLenO, dTupO, dFrz, dApp, dPop, dClear, dSub, dIxO, d2O, fCatO, fRepO, pt_non, isi_non_int, isi_non_bool, isi_non_tuple, isi_non_list, isi_non_str, pt_bl, isi_bl_int, isi_bl_bool, isi_bl_tuple, isi_bl_list, isi_bl_str, pt_int, isi_int_int, isi_int_bool, isi_int_tuple, isi_int_list, isi_int_str, pt_str, isi_str_int, isi_str_bool, isi_str_tuple, isi_str_list, isi_str_str, pt_tup, isi_tup_int, isi_tup_bool, isi_tup_tuple, isi_tup_list, isi_tup_str, pt_lst, isi_lst_int, isi_lst_bool, isi_lst_tuple, isi_lst_list, isi_lst_str, Br_true, Br_false, Br_dec, Br_not, tt_imp, List.map_cons, List.map_nil, List.cons_append, List.nil_append, List.replicate_succ, List.replicate_zero, List.getElem?_cons_zero, List.getElem?_cons_succ, List.set_nil, List.set_cons_zero, List.set_cons_succ, List.length_cons, List.length_nil, Bool.not_true, Bool.not_false, decide_eq_true_eq, not_true_eq_false, not_false_eq_true, true_and, and_true])
/-- what a for walks, told ahead: its body stays out of sight -/
theorem for_by {it : DOv} {t : DGv} {body : DSv} {B : DEnds} {ρ : En} (l : List D) (h : ∀ G : List D → En → Prop, G l ρ → it ρ G) (k : forD t body B l ρ) : dFor it t body B ρ := h _ k
theorem okD_bl (b : Bool) : okD (.bl b) = true := by cases b <;> decide
theorem eqD_bl (b : Bool) : eqD (.bl b) (.bl b) = true := by cases b <;> decide
theorem okD_int (i : Int) : okD (.int i) = true := by simp [okD, plainD, pyD, SeqAt.shaped, PyData.canLay0, PyData.depth]
theorem eqD_int (i j : Int) : eqD (.int i) (.int j) = decide (i = j) := by
  show (i == j) = _
  by_cases h : i = j
  · subst h; simp
  · rw [decide_eq_false h]; simpa using h
theorem tW_more {W F : List Rat} {i : Nat} : ∀ j, i ≤ j → tW W F i j = tW W F i i
  | 0, h => by rw [show i = 0 by omega]
  | j + 1, h => by
    by_cases e : i = j + 1
    · rw [e]
    · show tW W F i j + _ * (if _ then _ else _) = _
      rw [if_neg (by omega), tW_more j (by omega)]; grind
theorem tW_min {W F : List Rat} {i : Nat} : tW W F i (min W.length i) = tW W F i W.length := by
  by_cases h : W.length ≤ i
  · rw [Nat.min_eq_left h]
  · rw [Nat.min_eq_right (by omega), tW_more W.length (by omega)]
def c_l_lists : DFn := fun ds st Kf => ∃ c l, ds = [.stt, rD c l] ∧ l.length ≤ 100000 ∧ Good 1 st ∧ ∀ b r st', frz r = rD b l → Left 1 st st' → Kf r st'
def b_l_lists : DSv := (dRet (d2 fIx (asV (dLst (dCons (dVar 1) (dCons (asV (dListO (dCons (dVar 1) dNil))) (dCons (dCB fTuple (dCons (dVar 1) dNil)) dNil))))) (dFn c_l_take (lenIs 2 (dCons (dVar 0) (dCons (dC (.int 3)) dNil))))))
theorem d_l_lists (args : List D) (st : Stt) (Kf : Sl → Stt → Prop) (hl : args.length = 2) (q : c_l_lists args st Kf) : b_l_lists (ends Kf) (startD 0 args, st) := by
  obtain ⟨c, l, rfl, h1, g, q⟩ := q
  unfold b_l_lists
  walk_at "dn"
  refine ⟨by decide, take_ok g (by omega) (by omega) (by omega) fun w s1 w0 w1 l1 g1 => fIx_any w0 (by simpa using w1) fun d hd => ?_⟩
  have : ∃ b, d = rD b l := by
    simp only [List.mem_cons, List.not_mem_nil, or_false] at hd
    rcases hd with rfl | rfl | rfl
    · exact ⟨c, rfl⟩
    · exact ⟨false, rfl⟩
    · exact ⟨true, rfl⟩
  obtain ⟨b, rfl⟩ := this
  exact q b _ _ rfl l1
end DL
namespace DL
open PySem PySem.Spec PyProof.Rows L2
local macro_rules | `(tactic| walk_at "dl") => `(tactic| simp -implicitDefEqProofs only [dSeq, dNext, dIfS, dB, dNot, dAnd, dOr, d2, fLt, fLe, fGt, fGe, fEqI, fNeI, fEqB, fNeB, fEqS, fNeS, fIsN_non, fNotN_non, fIsB, fNotB, fSub, fMul, fDiv, fDivE, fMod, fPow, fI, fI0, asI_int, asB_bl, asT_tup, asL_lst, asQ_tup, asQ_lst, asS_str, as1_one, as2_two, frz_v, frz_own, fAdd_int, fAdd_tup, fAdd_lst, fIx_tup0, fIx_tup1, fIx_lst0, fIx_lst1, fLen_tup, fLen_lst, fInt_bl, fTuple_tup, fTuple_lst, isN_int, isN_tup, isN_lst, isN_bl, isN_str, isN_non, dVar, dC, dNeg, dSet, dSetO, dPar, dAsg, dAug, dRet, dRetO, dRetV, dRetN, dTup, dCons, dNil, dFn, dFnO, lenIs, dCB, fAbs, fMax2, fMin2, dIsi, dAndV, dOrV, dNotV, dIf, dFor, iSeq, iRange1, iRange2, iZip, aName, aTup, aCons, aNil, dLc, dYes, dLitO, noOwn, wipeE, ends, startD, setV, setO, ownAt, asV, dLst, dListO, dLenO, dTupO, dFrz, dApp, dPop, dClear, dSub, dIxO, d2O, fCatO, fRepO, pt_non, isi_non_int, isi_non_bool, isi_non_tuple, isi_non_list, isi_non_str, pt_bl, isi_bl_int, isi_bl_bool, isi_bl_tuple, isi_bl_list, isi_bl_str, pt_int, isi_int_int, isi_int_bool, isi_int_tuple, isi_int_list, isi_int_str, pt_str, isi_str_int, isi_str_bool, isi_str_tuple, isi_str_list, isi_str_str, pt_tup, isi_tup_int, isi_tup_bool, isi_tup_tuple, isi_tup_list, isi_tup_str, pt_lst, isi_lst_int, isi_lst_bool, isi_lst_tuple, isi_lst_list, isi_lst_str, Br_true, Br_false, Br_dec, Br_not, tt_imp, List.map_cons, List.map_nil, List.cons_append, List.nil_append, List.replicate_succ, List.replicate_zero, List.getElem?_cons_zero, List.getElem?_cons_succ, List.set_nil, List.set_cons_zero, List.set_cons_succ, List.length_cons, List.length_nil, Bool.not_true, Bool.not_false, decide_eq_true_eq, not_true_eq_false, not_false_eq_true, true_and, and_true])
local macro_rules | `(tactic| walk_at "d1") => `(tactic| simp -implicitDefEqProofs only [aName, setV, setO, List.set_cons_zero, List.set_cons_succ])
local macro_rules | `(tactic| walk_at "dn") => `(tactic| simp -implicitDefEqProofs only [dSlO, okD_pt, okD_pl, eqD_pt, eqD_pl, flT_nq, flT_bl, dBorT, aTupQ, dTurn, fIx_nq0, fIx_nq1, asN_nq, num_e, part_e, same_e, nn_e2, over_e, l_over_e, c_plus, c_minus, c_times, c_before, c_l_plus, c_l_minus, c_l_times, num_eq, num_lt0, sub_lt0, due_nq, asR_r, asR_t, asR_l, asQ_r, fLen_r, fTuple_r, pt_r, asT1_t, okD_nq, okD_lst, okD_tup, okD_nil, okD_nilt, eqD_nq, eqD_lst, eqD_tup, eqD_nil, eqD_nilt, nqs_len, dCmpO, eqB, neB, dMeth, dChain, iEnum, iRev, iRange3, as3_three, dBor, dCatO, fl_bl, fEqD, fNeD, c_Exact_nought, c_Exact_one, c_Exact_plus, c_Exact_minus, c_Exact_times, c_Exact_over, c_Exact_is_nought, List.tail_cons, D.ins.injEq, exists_eq', exists_and_left, and_true, true_and, dSl, dPn, dPs, fSl_lst, fSl_tup, dSeq, dNext, dIfS, dB, dNot, dAnd, dOr, d2, fLt, fLe, fGt, fGe, fEqI, fNeI, fEqB, fNeB, fEqS, fNeS, fIsN_non, fNotN_non, fIsB, fNotB, fSub, fMul, fDiv, fDivE, fMod, fPow, fI, fI0, asI_int, asB_bl, asT_tup, asL_lst, asQ_tup, asQ_lst, asS_str, as1_one, as2_two, frz_v, frz_own, fAdd_int, fAdd_tup, fAdd_lst, fIx_tup0, fIx_tup1, fIx_lst0, fIx_lst1, fLen_tup, fLen_lst, fInt_bl, fTuple_tup, fTuple_lst, isN_int, isN_tup, isN_lst, isN_bl, isN_str, isN_non, dVar, dC, dNeg, dSet, dSetO, dPar, dAsg, dAug, dRet, dRetO, dRetV, dRetN, dTup, dCons, dNil, dFn, dFnO, lenIs, dCB, fAbs, fMax2, fMin2, dIsi, dAndV, dOrV, dNotV, dIf, dFor, iSeq, iRange1, iRange2, iZip, aName, aTup, aCons, aNil, dLc, dYes, dLitO, noOwn, wipeE, ends, startD, setV, setO, ownAt, asV, dLst, dListO, dLenO, dTupO, dFrz, dApp, dPop, dClear, dSub, dIxO, d2O, fCatO, fRepO, pt_non, isi_non_int, isi_non_bool, isi_non_tuple, isi_non_list, isi_non_str, pt_bl, isi_bl_int, isi_bl_bool, isi_bl_tuple, isi_bl_list, isi_bl_str, pt_int, isi_int_int, isi_int_bool, isi_int_tuple, isi_int_list, isi_int_str, pt_str, isi_str_int, isi_str_bool, isi_str_tuple, isi_str_list, isi_str_str, pt_tup, isi_tup_int, isi_tup_bool, isi_tup_tuple, isi_tup_list, isi_tup_str, pt_lst, isi_lst_int, isi_lst_bool, isi_lst_tuple, isi_lst_list, isi_lst_str, Br_true, Br_false, Br_dec, Br_not, tt_imp, List.map_cons, List.map_nil, List.cons_append, List.nil_append, List.replicate_succ, List.replicate_zero, List.getElem?_cons_zero, List.getElem?_cons_succ, List.set_nil, List.set_cons_zero, List.set_cons_succ, List.length_cons, List.length_nil, Bool.not_true, Bool.not_false, decide_eq_true_eq, not_true_eq_false, not_false_eq_true, true_and, and_true])
/-! ### rows that go on -/
def goL (W : List Rat) : Nat → List Rat → List Rat
  | 0, F => F
  | k + 1, F => goL W k (F ++ [tW W F F.length W.length])
theorem goL_len (W : List Rat) : ∀ k F, (goL W k F).length = F.length + k
  | 0, F => rfl
  | k + 1, F => by
    show (goL W k _).length = _
    rw [goL_len W k, List.length_append, List.length_singleton]; omega
def GoOk (W : List Rat) : Nat → List Rat → Prop
  | 0, _ => True
  | k + 1, F => ToldOk W F F.length ∧ GoOk W k (F ++ [tW W F F.length W.length])
/-- weights of halves -/
def Wts (W : List Rat) : Prop := W.length ≤ 11 ∧ ∀ x, x ∈ W → ∃ a : Int, a.natAbs ≤ 4 ∧ x * 2 = (a : Rat)
theorem Wts.bq {W : List Rat} (h : Wts W) : AllBQ 3 W := fun x hx => by
  obtain ⟨a, ha, e⟩ := h.2 x hx
  exact BQ.frac (d := 2) (by decide) (by decide) (by omega) e
theorem told_cd {W F : List Rat} {d : Int} {A : Nat → Int} {s i : Nat} (hW : Wts W) (hF : Frac s (fun k => F.getD k 0) d A) : ∀ j, ∃ a : Int, a.natAbs ≤ j * 4 * 2 ^ s ∧ tW W F i j * ((d * 2 : Int) : Rat) = (a : Rat)
  | 0 => ⟨0, by simp, Rat.zero_mul _⟩
  | j + 1 => by
    obtain ⟨a, ha, ea⟩ := told_cd (i := i) hW hF j
    have hw : ∃ b : Int, b.natAbs ≤ 4 ∧ W.getD j 0 * 2 = (b : Rat) := by
      by_cases hj : j < W.length
      · have := hW.2 _ (List.getElem_mem hj)
        rwa [List.getD_eq_getElem?_getD, List.getElem?_eq_getElem hj]
      · rw [getD_out (by omega)]; exact ⟨0, by decide, Rat.zero_mul _⟩
    have hf : ∃ c : Int, c.natAbs ≤ 2 ^ s ∧ (if j + 1 ≤ i then F.getD (i - (j + 1)) 0 else 0) * (d : Rat) = (c : Rat) := by
      split
      · exact ⟨A (i - (j + 1)), Nat.le_of_lt (hF.aa _), hF.e _⟩
      · exact ⟨0, Nat.zero_le _, Rat.zero_mul _⟩
    obtain ⟨b, hb, eb⟩ := hw
    obtain ⟨c, hc, ec⟩ := hf
    refine ⟨a + b * c, ?_, ?_⟩
    · have h1 := Int.natAbs_add_le a (b * c)
      rw [Int.natAbs_mul] at h1
      have h2 := Nat.mul_le_mul hb hc
      rw [Nat.add_mul, Nat.add_mul, Nat.one_mul]
      omega
    · show (tW W F i j + W.getD j 0 * (if _ then _ else _)) * _ = _
      rw [Rat.intCast_add, Rat.intCast_mul b, ← ea, ← eb, ← ec, Rat.intCast_mul]
      have e2 : ((2 : Int) : Rat) = 2 := rfl
      rw [e2]
      generalize (if j + 1 ≤ i then F.getD (i - (j + 1)) 0 else (0 : Rat)) = v
      grind
theorem CD.told {W F : List Rat} {s : Nat} (hW : Wts W) (hF : CD s F) : CD (s + 6) (F ++ [tW W F F.length W.length]) := by
  obtain ⟨d, A, hF⟩ := hF
  obtain ⟨a, ha, ea⟩ := told_cd (i := F.length) hW hF W.length
  have p6 : 2 ^ (s + 6) = 64 * 2 ^ s := by rw [Nat.add_comm, Nat.pow_add]
  have hs := Nat.two_pow_pos s
  refine ⟨d * 2, fun k => if k = F.length then a else A k * 2, Int.mul_ne_zero hF.d0 (by decide), ?_, fun k => ?_, fun k => ?_⟩
  · have := hF.dd
    rw [Int.natAbs_mul, p6, show (2 : Int).natAbs = 2 from rfl]
    omega
  · show (if _ then a else A k * 2).natAbs < _
    split
    · have := Nat.mul_le_mul_right (2 ^ s) (show W.length * 4 ≤ 44 by have := hW.1; omega)
      omega
    · have := hF.aa k
      rw [Int.natAbs_mul, p6, show (2 : Int).natAbs = 2 from rfl]
      omega
  · show (F ++ [_]).getD k 0 * _ = ((if _ then a else A k * 2 : Int) : Rat)
    rw [snoc_getD]
    split
    · exact ea
    · have := hF.e k
      rw [Rat.intCast_mul, Rat.intCast_mul, ← this]
      show _ * _ = F.getD k 0 * _ * _
      grind
theorem GoOk.cd {W : List Rat} (hW : Wts W) : ∀ (k : Nat) (F : List Rat) (s : Nat), CD s F → s + 6 * k ≤ 4000000 → GoOk W k F ∧ CD (s + 6 * k) (goL W k F)
  | 0, F, s, h, _ => ⟨trivial, h⟩
  | k + 1, F, s, h, b => by
    have ih := GoOk.cd hW k _ _ (h.told hW) (by omega)
    refine ⟨⟨ToldOk.crude (a := 3) (b := s + 1) hW.bq (h.all.mono (by omega)) (by decide) (by omega) ?_, ih.1⟩, ?_⟩
    · have := Nat.mul_le_mul_right (3 + (s + 1) + 1) (Nat.add_le_add_right hW.1 1)
      omega
    · rw [show s + 6 * (k + 1) = s + 6 + 6 * k by omega]
      exact ih.2
def c_gone_on : DFn := fun ds st Kf => ∃ z b W e c R n, ds = [rD c R, pD z (rD b W) e, .int n] ∧ 0 ≤ n ∧ n ≤ 1000 ∧ R.length ≤ 1000 ∧ W.length ≤ 1000 ∧ GoOk W (n.toNat - R.length) (R.take n.toNat) ∧ Kf (.own (nqs (goL W (n.toNat - R.length) (R.take n.toNat)))) st
def b_gone_on : DSv := (dSeq (dSetO 3 (dSlO (asV (dListO (dCons (dVar 0) dNil))) dPn (dPs (dVar 2))))
  (dSeq (dWhile (dB (d2 fLt (dLenO 3) (dVar 2))) (dApp 3 (dBorT 3 (dFn c_told_by (lenIs 3 (dCons (d2 fIx (dVar 1) (dC (.int 0))) (dCons (dVar 3) (dCons (dCB fLen (dCons (dVar 3) dNil)) dNil))))))))
  (dRetV 3)))
theorem d_gone_on (args : List D) (st : Stt) (Kf : Sl → Stt → Prop) (hl : args.length = 3) (q : c_gone_on args st Kf) : b_gone_on (ends Kf) (startD 1 args, st) := by
  obtain ⟨z, b, W, e, c, R, n, rfl, n0, n1, lR, lW, ok, q⟩ := q
  unfold b_gone_on
  walk_at "dn"
  rw [cutD_take n0, nqs_take]
  refine while_of (fun m ρ => ∃ F, ρ = ([some (.v (rD c R)), some (.v (pD z (rD b W) e)), some (.v (.int n)), some (.own (nqs F))], st) ∧ (F.length : Int) + m = n ∧ GoOk W m F ∧ goL W m F = goL W (n.toNat - R.length) (R.take n.toNat)) (n.toNat - R.length) ⟨R.take n.toNat, rfl, by rw [List.length_take]; omega, ok, rfl⟩ ?_
  rintro m ρ ⟨F, rfl, hm, ok, e2⟩
  walk_at "dn"
  refine ⟨fun h => ?_, fun h => ?_⟩
  · cases m with
    | zero => omega
    | succ m =>
    rw [fIx_p0]
    refine ⟨b, W, false, F, F.length, rfl, lW, Nat.le_refl _, ok.1, ?_⟩
    walk_at "dn"
    exact ⟨by omega, m, by omega, F ++ [tW W F F.length W.length], by rw [nqs_one, nqs_app], by simp; omega, ok.2, e2⟩
  · have : m = 0 := by omega
    subst this
    rw [← e2] at q
    exact q
end DL
namespace DL
open PySem PySem.Spec PyProof.Rows L2
/-! ### slopes -/
def dP (f : PS) : PS := ⟨fun k => (((k : Int) + 1 : Int) : Rat) * f.co (k + 1)⟩
theorem dP_add (f g : PS) : dP (f + g) = dP f + dP g := PS.ext fun k => by
  show _ * (f.co (k + 1) + g.co (k + 1)) = _ * f.co (k + 1) + _ * g.co (k + 1)
  grind
theorem dP_mul (f g : PS) : dP (f * g) = dP f * g + f * dP g := PS.ext fun k => by
  rw [PS.co_add, PS.co_mul, PS.co_mul]
  show _ * (f * g).co (k + 1) = _
  rw [PS.co_mul, ← sm_mul]
  have e : sm (k + 1 + 1) (fun i => (((k : Int) + 1 : Int) : Rat) * (f.co i * g.co (k + 1 - i))) = sm (k + 1 + 1) (fun i => ((i : Int) : Rat) * f.co i * g.co (k + 1 - i)) + sm (k + 1 + 1) (fun i => (((k : Int) + 1 - i : Int) : Rat) * f.co i * g.co (k + 1 - i)) := by
    rw [← sm_add]
    refine sm_congr fun i hi => ?_
    have : (((k : Int) + 1 : Int) : Rat) = ((i : Int) : Rat) + (((k : Int) + 1 - i : Int) : Rat) := by
      rw [← Rat.intCast_add]; congr 1; omega
    rw [this]; grind
  rw [e, sm_front (k + 1), sm_succ (k + 1) (fun i => (((k : Int) + 1 - i : Int) : Rat) * f.co i * g.co (k + 1 - i))]
  have z1 : (((0 : Nat) : Int) : Rat) * f.co 0 * g.co (k + 1 - 0) = 0 := by
    show (0 : Rat) * _ * _ = 0
    rw [Rat.zero_mul, Rat.zero_mul]
  have z2 : (((k : Int) + 1 - ((k + 1 : Nat) : Int) : Int) : Rat) * f.co (k + 1) * g.co (k + 1 - (k + 1)) = 0 := by
    rw [show (k : Int) + 1 - ((k + 1 : Nat) : Int) = 0 by omega]
    show (0 : Rat) * _ * _ = 0
    rw [Rat.zero_mul, Rat.zero_mul]
  rw [z1, z2, Rat.zero_add, Rat.add_zero]
  congr 1
  · refine sm_congr fun i hi => ?_
    rw [show k + 1 - (i + 1) = k - i by omega]
    rfl
  · refine sm_congr fun i hi => ?_
    show _ = f.co i * ((((k - i : Nat) : Int) + 1 : Int) * g.co (k - i + 1))
    rw [show (k : Int) + 1 - i = ((k - i : Nat) : Int) + 1 by omega, show k + 1 - i = k - i + 1 by omega]
    grind
def slL (l : List Rat) : List Rat := (List.range' 1 (l.length - 1)).map fun i => (((i : Nat) : Int) : Rat) * l.getD i 0
theorem slL_len (l : List Rat) : (slL l).length = l.length - 1 := by simp [slL]
theorem slL_getD (l : List Rat) (k : Nat) : (slL l).getD k 0 = (((k : Int) + 1 : Int) : Rat) * l.getD (k + 1) 0 := by
  by_cases h : k < l.length - 1
  · unfold slL
    rw [List.getD_eq_getElem?_getD, List.getElem?_map, List.getElem?_range' h]
    show (((1 + 1 * k : Nat) : Int) : Rat) * _ = _
    rw [show 1 + 1 * k = k + 1 by omega]; rfl
  · rw [getD_out (by rw [slL_len]; omega), getD_out (by omega), Rat.mul_zero]
theorem ps_sl (l : List Rat) : ps (slL l) = dP (ps l) := PS.ext fun k => slL_getD l k
theorem slL_trim {l : List Rat} (h : trim l = l) : trim (slL l) = slL l := by
  rcases snoc_cases (slL l) with e | ⟨m, a, e⟩
  · rw [e]; rfl
  · rw [e]
    refine trim_snoc fun z => ?_
    have hm : m.length + 1 = l.length - 1 := by
      have := congrArg List.length e
      rw [slL_len, List.length_append, List.length_singleton] at this
      exact this.symm
    have g := slL_getD l m.length
    rw [e, getD_len, z, show m.length + 1 = l.length - 1 by omega] at g
    have l0 := last_ne h (by intro q; subst q; simp at hm)
    rcases Rat.mul_eq_zero.mp g.symm with w | w
    · exact ci_ne (d := (m.length : Int) + 1) (by omega) w
    · exact l0 w
/-! ### values -/
theorem valH_same (x : Rat) : ∀ l m : List Rat, Same0 l m → valH x l = valH x m
  | [], [], _ => rfl
  | [], b :: m, h => by
    have h0 : (0 : Rat) = b := h 0
    have := valH_same x [] m fun i => h (i + 1)
    show valH x [] = valH x m * x + b
    rw [← this, ← h0]
    show (0 : Rat) = 0 * x + 0
    grind
  | a :: l, [], h => by
    have h0 : a = (0 : Rat) := h 0
    have := valH_same x l [] fun i => h (i + 1)
    show valH x l * x + a = valH x []
    rw [this, h0]
    show 0 * x + 0 = (0 : Rat)
    grind
  | a :: l, b :: m, h => by
    have h0 : a = b := h 0
    show valH x l * x + a = valH x m * x + b
    rw [valH_same x l m fun i => h (i + 1), h0]
theorem valH_ps {x : Rat} {l m : List Rat} (h : ps l = ps m) : valH x l = valH x m := valH_same x l m fun i => congrArg (fun f => f.co i) h
theorem valH_trim (x : Rat) (l : List Rat) : valH x (trim l) = valH x l := valH_ps (ps_trim l)
/-- two rows put together place by place -/
def addR : List Rat → List Rat → List Rat
  | [], m => m
  | l, [] => l
  | a :: l, b :: m => (a + b) :: addR l m
theorem addR_same : ∀ l m : List Rat, Same0 (zipL (· + ·) l m) (addR l m)
  | [], m => fun i => by
    rw [zipL_getD (by grind)]
    show (0 : Rat) + m.getD i 0 = m.getD i 0
    exact Rat.zero_add _
  | a :: l, [] => fun i => by
    rw [zipL_getD (by grind)]
    show (a :: l).getD i 0 + 0 = (a :: l).getD i 0
    exact Rat.add_zero _
  | a :: l, b :: m => fun i => by
    have ih := addR_same l m
    rw [zipL_getD (by grind)]
    cases i with
    | zero => rfl
    | succ i =>
      have := ih i
      rw [zipL_getD (by grind)] at this
      exact this
theorem valH_addR (x : Rat) : ∀ l m : List Rat, valH x (addR l m) = valH x l + valH x m
  | [], m => by show valH x m = 0 + valH x m; exact (Rat.zero_add _).symm
  | a :: l, [] => by show valH x (a :: l) = valH x (a :: l) + 0; exact (Rat.add_zero _).symm
  | a :: l, b :: m => by
    show valH x (addR l m) * x + (a + b) = valH x l * x + a + (valH x m * x + b)
    rw [valH_addR x l m]; grind
theorem valH_add (x : Rat) (l m : List Rat) : valH x (zipL (· + ·) l m) = valH x l + valH x m := by
  rw [valH_same x _ _ (addR_same l m), valH_addR]
theorem valH_map (x c : Rat) : ∀ l : List Rat, valH x (l.map fun a => a * c) = valH x l * c
  | [] => (Rat.zero_mul _).symm
  | a :: l => by
    show valH x (l.map _) * x + a * c = (valH x l * x + a) * c
    rw [valH_map x c l]; grind
theorem ps_shift (l : List Rat) : ps (0 :: l) = mono 1 * ps l := PS.ext fun k => by
  rw [co_mono]
  cases k with
  | zero => rfl
  | succ k => rw [if_pos (by omega)]; rfl
theorem ps_cons (a : Rat) (l : List Rat) : ps (a :: l) = PS.C a + mono 1 * ps l := PS.ext fun k => by
  rw [PS.co_add, PS.co_C, co_mono]
  cases k with
  | zero => rw [if_pos rfl, if_neg (by omega)]; show a = a + 0; exact (Rat.add_zero _).symm
  | succ k => rw [if_neg (by omega), if_pos (by omega)]; show l.getD k 0 = 0 + l.getD k 0; exact (Rat.zero_add _).symm
theorem valH_mul (x : Rat) (m : List Rat) : ∀ (l r : List Rat), ps r = ps l * ps m → valH x r = valH x l * valH x m
  | [], r, h => by
    have : ps r = ps [] := by rw [h, ps_nil]; generalize ps m = a; grind
    rw [valH_ps this]
    show (0 : Rat) = 0 * _
    exact (Rat.zero_mul _).symm
  | a :: l, r, h => by
    have ih := valH_mul x m l (prodL l m) (ps_prod l m)
    have : ps r = ps (zipL (· + ·) (m.map fun b => b * a) (0 :: prodL l m)) := by
      rw [ps_add, ps_scale, ps_shift, ps_prod, h, ps_cons]
      generalize PS.C a = c; generalize mono 1 = y; generalize ps l = u; generalize ps m = v
      grind
    rw [valH_ps this, valH_add, valH_map]
    show valH x m * a + (valH x (prodL l m) * x + 0) = (valH x l * x + a) * valH x m
    rw [ih]; grind
theorem valH_sub (x : Rat) (l m : List Rat) : valH x (zipL (· - ·) l m) = valH x l + ((-1 : Int) : Rat) * valH x m := by
  have e : ps (zipL (· - ·) l m) = ps (zipL (· + ·) l (m.map fun b => b * ((-1 : Int) : Rat))) := by
    rw [ps_sub, ps_add, ps_scale]
    refine PS.ext fun k => ?_
    rw [PS.co_sub, PS.co_add, PS.co_Cmul]
    have : ((-1 : Int) : Rat) = -1 := rfl
    rw [this]; grind
  rw [valH_ps e, valH_add, valH_map]; grind
/-! ### sizes of products -/
theorem sm_frac {n : Nat} {f : Nat → Rat} {d : Int} {s : Nat} (h : ∀ i, ∃ a : Int, a.natAbs < 2 ^ s ∧ f i * (d : Rat) = (a : Rat)) : ∃ a : Int, a.natAbs ≤ n * 2 ^ s ∧ sm n f * (d : Rat) = (a : Rat) := by
  induction n with
  | zero => exact ⟨0, by simp, Rat.zero_mul _⟩
  | succ n ih =>
    obtain ⟨a, ha, ea⟩ := ih
    obtain ⟨b, hb, eb⟩ := h n
    refine ⟨a + b, ?_, ?_⟩
    · have := Int.natAbs_add_le a b
      rw [Nat.add_mul, Nat.one_mul]; omega
    · rw [sm_succ, Rat.intCast_add, ← ea, ← eb]; grind
theorem CD.prod {l m : List Rat} {s t c : Nat} (hl : CD s l) (hm : CD t m) (hc : l.length ≤ 2 ^ c) : CD (s + t + c + 1) (prodL l m) := by
  obtain ⟨d, A, hl⟩ := hl
  obtain ⟨e, M, hm⟩ := hm
  have : ∀ k, ∃ a : Int, a.natAbs < 2 ^ (s + t + c + 1) ∧ (prodL l m).getD k 0 * ((d * e : Int) : Rat) = (a : Rat) := fun k => by
    have h := sm_frac (n := l.length) (f := fun j => if j < k + 1 then l.getD j 0 * m.getD (k - j) 0 else 0) (d := d * e) (s := s + t) fun j => by
      by_cases hj : j < k + 1
      · refine ⟨A j * M (k - j), mul_abs (hl.aa j) (hm.aa _), ?_⟩
        show (if j < k + 1 then _ else _) * _ = _
        rw [if_pos hj, Rat.intCast_mul, Rat.intCast_mul, ← hl.e j, ← hm.e (k - j)]
        grind
      · refine ⟨0, Nat.two_pow_pos _, ?_⟩
        show (if j < k + 1 then _ else _) * _ = _
        rw [if_neg hj]; exact Rat.zero_mul _
    obtain ⟨a, ha, ea⟩ := h
    rw [← cv_sm, cv_ps, ← ps_prod, ps_co] at ea
    refine ⟨a, ?_, ea⟩
    have h1 := Nat.mul_le_mul_right (2 ^ (s + t)) hc
    rw [← Nat.pow_add] at h1
    have h2 : 2 ^ (s + t + c + 1) = 2 * 2 ^ (c + (s + t)) := by rw [Nat.pow_succ, Nat.mul_comm]; congr 2; omega
    have := Nat.two_pow_pos (c + (s + t))
    omega
  exact ⟨d * e, fun k => (this k).choose, Int.mul_ne_zero hl.d0 hm.d0, abs_up (mul_abs hl.dd hm.dd) (by omega), fun k => (this k).choose_spec.1, fun k => (this k).choose_spec.2⟩
/-- small ints, one of them exchanged -/
theorem CD.set1 {l : List Rat} {s t p : Nat} {q : Rat} (h : ∀ x, x ∈ l → ∃ a : Int, a.natAbs < 2 ^ s ∧ x = (a : Rat)) (hq : BQ t q) : CD (s + t) (l.set p q) := by
  have hn : q.num.natAbs < 2 ^ (s + t) := abs_up hq.n (by omega)
  have : ∀ k, ∃ a : Int, a.natAbs < 2 ^ (s + t) ∧ (l.set p q).getD k 0 * (((q.den : Nat) : Int) : Rat) = (a : Rat) := fun k => by
    by_cases hk : k < l.length
    · by_cases e : p = k
      · subst e
        refine ⟨q.num, hn, ?_⟩
        rw [List.getD_eq_getElem?_getD, List.getElem?_set_self hk]
        exact num_den q
      · obtain ⟨a, ha, ea⟩ := h l[k] (List.getElem_mem hk)
        refine ⟨a * q.den, mul_abs ha hq.da, ?_⟩
        rw [List.getD_eq_getElem?_getD, List.getElem?_set_ne e, List.getElem?_eq_getElem hk, Rat.intCast_mul]
        show l[k] * _ = _
        rw [ea]
    · rw [getD_out (by simp; omega)]
      exact ⟨0, Nat.two_pow_pos _, Rat.zero_mul _⟩
  exact ⟨_, fun k => (this k).choose, den_ne q, abs_up hq.da (by omega), fun k => (this k).choose_spec.1, fun k => (this k).choose_spec.2⟩
/-- common's bounds, whatever is handed in -/
theorem common_cd {l m : List Rat} {s t W : Nat} (hl : trim l = l) (hm : trim m = m) (cl : CD s l) (cm : CD t m) (hP : 3 * pell (s + 1) (t + 1) (max l.length (m.length + 1)) ≤ 67000000)
    (w1 : 1 ≤ W) (hW : pell (s + 1) (t + 1) (max l.length (m.length + 1) - 2) ≤ W) (hs : s ≤ W) (hs2 : s ≤ 67000000) : EucOk m.length l m ∧ AllSq (gR l m) ∧ CD W (gL l m) ∧ (gL l m).length ≤ max l.length m.length := by
  by_cases h : m = []
  · subst h
    have e : gR l [] = l := rfl
    refine ⟨trivial, by rw [e]; exact cl.all.sq hs2, ?_, ?_⟩
    · show CD W (monic (gR l []))
      rw [e]
      by_cases h2 : l = []
      · subst h2; exact CD.nil w1
      · exact (cl.over_self (last_ne hl h2)).mono hs
    · show (monic (gR l [])).length ≤ _
      rw [e, monic_len]; omega
  · obtain ⟨a1, a2, a3, a4, a5⟩ := gL_cd hl hm h cl cm hP w1 hW
    exact ⟨a1, a2, a3, by omega⟩
end DL
namespace DL
open PySem PySem.Spec PyProof.Rows L2
local macro_rules | `(tactic| walk_at "dl") => `(tactic| simp -implicitDefEqProofs only [dSeq, dNext, dIfS, dB, dNot, dAnd, dOr, d2, fLt, fLe, fGt, fGe, fEqI, fNeI, fEqB, fNeB, fEqS, fNeS, fIsN_non, fNotN_non, fIsB, fNotB, fSub, fMul, fDiv, fDivE, fMod, fPow, fI, fI0, asI_int, asB_bl, asT_tup, asL_lst, asQ_tup, asQ_lst, asS_str, as1_one, as2_two, frz_v, frz_own, fAdd_int, fAdd_tup, fAdd_lst, fIx_tup0, fIx_tup1, fIx_lst0, fIx_lst1, fLen_tup, fLen_lst, fInt_bl, fTuple_tup, fTuple_lst, isN_int, isN_tup, isN_lst, isN_bl, isN_str, isN_non, dVar, dC, dNeg, dSet, dSetO, dPar, dAsg, dAug, dRet, dRetO, dRetV, dRetN, dTup, dCons, dNil, dFn, dFnO, lenIs, dCB, fAbs, fMax2, fMin2, dIsi, dAndV, dOrV, dNotV, dIf, dFor, iSeq, iRange1, iRange2, iZip, aName, aTup, aCons, aNil, dLc, dYes, dLitO, noOwn, wipeE, ends, startD, setV, setO, ownAt, asV, dLst, dListO, dLenO, dTupO, dFrz, dApp, dPop, dClear, dSub, dIxO, d2O, fCatO, fRepO, pt_non, isi_non_int, isi_non_bool, isi_non_tuple, isi_non_list, isi_non_str, pt_bl, isi_bl_int, isi_bl_bool, isi_bl_tuple, isi_bl_list, isi_bl_str, pt_int, isi_int_int, isi_int_bool, isi_int_tuple, isi_int_list, isi_int_str, pt_str, isi_str_int, isi_str_bool, isi_str_tuple, isi_str_list, isi_str_str, pt_tup, isi_tup_int, isi_tup_bool, isi_tup_tuple, isi_tup_list, isi_tup_str, pt_lst, isi_lst_int, isi_lst_bool, isi_lst_tuple, isi_lst_list, isi_lst_str, Br_true, Br_false, Br_dec, Br_not, tt_imp, List.map_cons, List.map_nil, List.cons_append, List.nil_append, List.replicate_succ, List.replicate_zero, List.getElem?_cons_zero, List.getElem?_cons_succ, List.set_nil, List.set_cons_zero, List.set_cons_succ, List.length_cons, List.length_nil, Bool.not_true, Bool.not_false, decide_eq_true_eq, not_true_eq_false, not_false_eq_true, true_and, and_true])
local macro_rules | `(tactic| walk_at "d1") => `(tactic| simp -implicitDefEqProofs only [aName, setV, setO, List.set_cons_zero, List.set_cons_succ])
local macro_rules | `(tactic| walk_at "dn") => `(tactic| simp -implicitDefEqProofs only [okD_pt, okD_pl, eqD_pt, eqD_pl, flT_nq, flT_bl, dBorT, aTupQ, dTurn, fIx_nq0, fIx_nq1, asN_nq, num_e, part_e, same_e, nn_e2, over_e, l_over_e, c_plus, c_minus, c_times, c_before, c_l_plus, c_l_minus, c_l_times, num_eq, num_lt0, sub_lt0, due_nq, asR_r, asR_t, asR_l, asQ_r, fLen_r, fTuple_r, pt_r, asT1_t, okD_nq, okD_lst, okD_tup, okD_nil, okD_nilt, eqD_nq, eqD_lst, eqD_tup, eqD_nil, eqD_nilt, nqs_len, dCmpO, eqB, neB, dMeth, dChain, iEnum, iRev, iRange3, as3_three, dBor, dCatO, fl_bl, fEqD, fNeD, c_Exact_nought, c_Exact_one, c_Exact_plus, c_Exact_minus, c_Exact_times, c_Exact_over, c_Exact_is_nought, List.tail_cons, D.ins.injEq, exists_eq', exists_and_left, and_true, true_and, dSl, dPn, dPs, fSl_lst, fSl_tup, dSeq, dNext, dIfS, dB, dNot, dAnd, dOr, d2, fLt, fLe, fGt, fGe, fEqI, fNeI, fEqB, fNeB, fEqS, fNeS, fIsN_non, fNotN_non, fIsB, fNotB, fSub, fMul, fDiv, fDivE, fMod, fPow, fI, fI0, asI_int, asB_bl, asT_tup, asL_lst, asQ_tup, asQ_lst, asS_str, as1_one, as2_two, frz_v, frz_own, fAdd_int, fAdd_tup, fAdd_lst, fIx_tup0, fIx_tup1, fIx_lst0, fIx_lst1, fLen_tup, fLen_lst, fInt_bl, fTuple_tup, fTuple_lst, isN_int, isN_tup, isN_lst, isN_bl, isN_str, isN_non, dVar, dC, dNeg, dSet, dSetO, dPar, dAsg, dAug, dRet, dRetO, dRetV, dRetN, dTup, dCons, dNil, dFn, dFnO, lenIs, dCB, fAbs, fMax2, fMin2, dIsi, dAndV, dOrV, dNotV, dIf, dFor, iSeq, iRange1, iRange2, iZip, aName, aTup, aCons, aNil, dLc, dYes, dLitO, noOwn, wipeE, ends, startD, setV, setO, ownAt, asV, dLst, dListO, dLenO, dTupO, dFrz, dApp, dPop, dClear, dSub, dIxO, d2O, fCatO, fRepO, pt_non, isi_non_int, isi_non_bool, isi_non_tuple, isi_non_list, isi_non_str, pt_bl, isi_bl_int, isi_bl_bool, isi_bl_tuple, isi_bl_list, isi_bl_str, pt_int, isi_int_int, isi_int_bool, isi_int_tuple, isi_int_list, isi_int_str, pt_str, isi_str_int, isi_str_bool, isi_str_tuple, isi_str_list, isi_str_str, pt_tup, isi_tup_int, isi_tup_bool, isi_tup_tuple, isi_tup_list, isi_tup_str, pt_lst, isi_lst_int, isi_lst_bool, isi_lst_tuple, isi_lst_list, isi_lst_str, Br_true, Br_false, Br_dec, Br_not, tt_imp, List.map_cons, List.map_nil, List.cons_append, List.nil_append, List.replicate_succ, List.replicate_zero, List.getElem?_cons_zero, List.getElem?_cons_succ, List.set_nil, List.set_cons_zero, List.set_cons_succ, List.length_cons, List.length_nil, Bool.not_true, Bool.not_false, decide_eq_true_eq, not_true_eq_false, not_false_eq_true, true_and, and_true])
/-! ### the rest, by the law's own -/
/-- the last k numbers of F less s times m's -/
def stG (F m : List Rat) (s : Rat) (k : Nat) : List Rat := (List.range' 0 F.length).map fun j => if F.length ≤ j + k then F.getD j 0 - s * m.getD (j + m.length - F.length) 0 else F.getD j 0
theorem stG_len (F m : List Rat) (s : Rat) (k : Nat) : (stG F m s k).length = F.length := by simp [stG]
theorem stG_getD {F m : List Rat} {s : Rat} {k j : Nat} (h : j < F.length) : (stG F m s k).getD j 0 = if F.length ≤ j + k then F.getD j 0 - s * m.getD (j + m.length - F.length) 0 else F.getD j 0 := rng_getD h
theorem stG_zero (F m : List Rat) (s : Rat) : stG F m s 0 = F := by
  refine List.ext_getElem (stG_len _ _ _ _) fun j h1 h2 => ?_
  have := stG_getD (m := m) (s := s) (k := 0) h2
  rw [if_neg (by omega)] at this
  rw [List.getD_eq_getElem?_getD, List.getD_eq_getElem?_getD, List.getElem?_eq_getElem h1, List.getElem?_eq_getElem h2] at this
  exact this
theorem stG_set {F m : List Rat} {s : Rat} {k : Nat} (h : k < F.length) : (stG F m s k).set (F.length - (k + 1)) (F.getD (F.length - (k + 1)) 0 - s * m.getD (m.length - (k + 1)) 0) = stG F m s (k + 1) ∨ m.length < k + 1 := by
  by_cases hm : m.length < k + 1
  · exact .inr hm
  refine .inl (List.ext_getElem (by simp [stG]) fun j h1 h2 => ?_)
  rw [stG_len] at h2
  have e1 := stG_getD (m := m) (s := s) (k := k) h2
  have e2 := stG_getD (m := m) (s := s) (k := k + 1) h2
  rw [List.getD_eq_getElem?_getD, List.getElem?_eq_getElem (by rw [stG_len]; exact h2)] at e1 e2
  rw [List.getElem_set]
  show _ = (stG F m s (k + 1))[j]
  have e2' : (stG F m s (k + 1))[j]'(by rw [stG_len]; exact h2) = _ := e2
  rw [e2']
  by_cases e : F.length - (k + 1) = j
  · rw [if_pos e, if_pos (by omega)]
    subst e
    rw [show F.length - (k + 1) + m.length - F.length = m.length - (k + 1) by omega]
  · rw [if_neg e]
    have e1' : (stG F m s k)[j]'(by rw [stG_len]; exact h2) = _ := e1
    rw [e1']
    by_cases c : F.length ≤ j + k
    · rw [if_pos c, if_pos (by omega)]
    · rw [if_neg c, if_neg (by omega)]
theorem ps_stG {F m : List Rat} {s : Rat} (h : m.length ≤ F.length) : ps (stG F m s m.length) = ps F - PS.C s * (mono (F.length - m.length) * ps m) := PS.ext fun j => by
  rw [PS.co_sub, PS.co_Cmul, co_mono, ps_co]
  show _ = F.getD j 0 - _
  by_cases hj : j < F.length
  · rw [stG_getD hj]
    by_cases c : F.length - m.length ≤ j
    · rw [if_pos (by omega), if_pos c, ps_co, show j + m.length - F.length = j - (F.length - m.length) by omega]
    · rw [if_neg (by omega), if_neg c]; grind
  · rw [getD_out (by rw [stG_len]; omega), getD_out (l := F) (by omega)]
    by_cases c : F.length - m.length ≤ j
    · rw [if_pos c, ps_co, getD_out (l := m) (by omega)]; grind
    · rw [if_neg c]; grind
theorem stG_last {F m : List Rat} (h1 : 1 ≤ m.length) (h : m.length ≤ F.length) (m0 : m.getD (m.length - 1) 0 ≠ 0) : (stG F m (F.getD (F.length - 1) 0 / m.getD (m.length - 1) 0) m.length).getD (F.length - 1) 0 = 0 := by
  rw [stG_getD (by omega), if_pos (by omega), show F.length - 1 + m.length - F.length = m.length - 1 by omega, Rat.div_mul_cancel m0]
  exact Rat.sub_self
theorem drop_same {G : List Rat} (h : G.getD (G.length - 1) 0 = 0) : Same0 G.dropLast G := fun i => by
  rcases snoc_cases G with rfl | ⟨g, a, rfl⟩
  · rfl
  · rw [show (g ++ [a]).length - 1 = g.length by simp, getD_len] at h
    subst h
    rw [List.dropLast_concat, getD_app0]
theorem CD.stG {F m : List Rat} {s t : Nat} (hF : CD s F) (hm : CD t m) (m0 : m.getD (m.length - 1) 0 ≠ 0) : CD (s + t + 1) (DL.stG F m (F.getD (F.length - 1) 0 / m.getD (m.length - 1) 0) m.length) := by
  obtain ⟨d, A, hF⟩ := hF
  obtain ⟨e, M, hm⟩ := hm
  have L0 := last_num hm m0
  have h3 : m.getD (m.length - 1) 0 * (e : Rat) = (M (m.length - 1) : Rat) := hm.e (m.length - 1)
  have h2 : F.getD (F.length - 1) 0 * (d : Rat) = (A (F.length - 1) : Rat) := hF.e (F.length - 1)
  have h5 : F.getD (F.length - 1) 0 / m.getD (m.length - 1) 0 * m.getD (m.length - 1) 0 = F.getD (F.length - 1) 0 := Rat.div_mul_cancel m0
  have : ∀ j, ∃ a : Int, a.natAbs < 2 ^ (s + t + 1) ∧ (DL.stG F m (F.getD (F.length - 1) 0 / m.getD (m.length - 1) 0) m.length).getD j 0 * ((d * M (m.length - 1) : Int) : Rat) = (a : Rat) := fun j => by
    by_cases hj : j < F.length
    · rw [stG_getD hj]
      have h1 : F.getD j 0 * (d : Rat) = (A j : Rat) := hF.e j
      by_cases c : F.length ≤ j + m.length
      · have h4 : m.getD (j + m.length - F.length) 0 * (e : Rat) = (M (j + m.length - F.length) : Rat) := hm.e _
        refine ⟨A j * M (m.length - 1) - A (F.length - 1) * M (j + m.length - F.length), sub_abs (mul_abs (hF.aa _) (hm.aa _)) (mul_abs (hF.aa _) (hm.aa _)), ?_⟩
        rw [if_pos c, Rat.intCast_sub, Rat.intCast_mul, Rat.intCast_mul, Rat.intCast_mul, ← h1, ← h2, ← h3, ← h4, ← h5]
        generalize F.getD (F.length - 1) 0 / m.getD (m.length - 1) 0 = q
        generalize F.getD j 0 = a; generalize m.getD (m.length - 1) 0 = b; generalize m.getD (j + m.length - F.length) 0 = c; generalize (e : Rat) = e; generalize (d : Rat) = d
        grind
      · refine ⟨A j * M (m.length - 1), abs_up (mul_abs (hF.aa _) (hm.aa _)) (by omega), ?_⟩
        rw [if_neg c, Rat.intCast_mul, Rat.intCast_mul, ← h1]; grind
    · rw [getD_out (by rw [stG_len]; omega)]
      exact ⟨0, Nat.two_pow_pos _, Rat.zero_mul _⟩
  exact ⟨_, fun j => (this j).choose, Int.mul_ne_zero hF.d0 L0, abs_up (mul_abs hF.dd (hm.aa _)) (by omega), fun j => (this j).choose_spec.1, fun j => (this j).choose_spec.2⟩
theorem cutD_init (l : List D) : cutD l none (some (-1)) = l.dropLast := by
  have e : HT.sIx l.length l.length (some (-1)) = l.length - 1 := by
    show (if (-1 : Int) < 0 then ((-1 : Int) + (l.length : Int)).toNat else min (-1 : Int).toNat l.length) = _
    rw [if_pos (by decide)]
    omega
  unfold cutD
  rw [HT.sIx_none, e, List.drop_zero, List.dropLast_eq_take, Nat.sub_zero]
def monoL (p : Nat) (c : Rat) : List Rat := List.replicate p 0 ++ [c]
theorem ps_monoL (p : Nat) (c : Rat) : ps (monoL p c) = PS.C c * mono p := PS.ext fun k => by
  rw [ps_co, PS.co_Cmul]
  show (monoL p c).getD k 0 = c * (if k = p then 1 else 0)
  unfold monoL
  rw [snoc_getD, List.length_replicate]
  by_cases h : k = p
  · rw [if_pos h, if_pos h]; exact (Rat.mul_one _).symm
  · rw [if_neg h, if_neg h, Rat.mul_zero, List.getD_eq_getElem?_getD]
    by_cases h2 : k < p
    · rw [List.getElem?_replicate, if_pos h2]; rfl
    · rw [List.getElem?_eq_none (by simp; omega)]; rfl
theorem ixN_neg {n k : Nat} (h : k < n) : ixN n (-(1 + (k : Int))) = some (n - (k + 1)) := by
  unfold ixN
  rw [if_neg (by omega), if_pos (by omega)]
  congr 1
  omega
theorem atI_negN {l : List Rat} {k : Nat} (h : k < l.length) : atI (nqs l) (-(1 + (k : Int))) = some (nq (l.getD (l.length - (k + 1)) 0)) := by
  have : ixN (nqs l).length (-(1 + (k : Int))) = some (l.length - (k + 1)) := by rw [nqs_len]; exact ixN_neg h
  unfold atI
  rw [this]
  show (nqs l)[l.length - (k + 1)]? = _
  simp [nqs, List.getD_eq_getElem?_getD, show l.length - (k + 1) < l.length by omega]
theorem fIx_negN {b : Bool} {l : List Rat} {k : Nat} {P : D → Prop} (h : k < l.length) : fIx (rD b l) (.int (-(1 + (k : Int)))) P = P (nq (l.getD (l.length - (k + 1)) 0)) := by
  cases b
  · show fIx (.lst (nqs l)) _ _ = _
    rw [fIx_lst, atI_negN h]
  · show fIx (.tup (nqs l)) _ _ = _
    rw [fIx_tup, atI_negN h]
def c_l_rest : DFn := fun ds st Kf => ∃ b l c m s t, ds = [rD b l, rD c m] ∧ l.length ≤ 1000 ∧ m.length ≤ 1000 ∧ trim l = l ∧ trim m = m ∧ m ≠ [] ∧ CD s l ∧ CD t m ∧ s + howN l m * (t + 1) + 2 * t ≤ 67000000 ∧ Kf (.v (.tup (nqs (trim (rstL l m))))) st
def b_l_rest : DSv := (dSeq (dSetO 2 (dListO (dCons (dVar 0) dNil)))
  (dSeq (dWhile (dB (d2 fGe (dLenO 2) (dCB fLen (dCons (dVar 1) dNil)))) (dSeq (dSet 3 (dFn c_l_over (lenIs 2 (dCons (dIxO 2 (dNeg (dC (.int 1)))) (dCons (d2 fIx (dVar 1) (dNeg (dC (.int 1)))) dNil)))))
  (dSeq (dFor (iRange2 (dCons (dC (.int 1)) (dCons (d2 fAdd (dCB fLen (dCons (dVar 1) dNil)) (dC (.int 1))) dNil))) (aName 4) (dSub 2 (dFn c_l_minus (lenIs 2 (dCons (dIxO 2 (dNeg (dVar 4))) (dCons (dFn c_l_times (lenIs 2 (dCons (dVar 3) (dCons (d2 fIx (dVar 1) (dNeg (dVar 4))) dNil)))) dNil)))) (dNeg (dVar 4))))
  (dSetO 2 (dListO (dCons (dFn c_l_trimmed (lenIs 1 (dCons (dSl (dFrz 2) dPn (dPs (dNeg (dC (.int 1))))) dNil))) dNil))))))
  (dRet (dTupO 2))))
theorem d_l_rest (args : List D) (st : Stt) (Kf : Sl → Stt → Prop) (hl : args.length = 2) (q : c_l_rest args st Kf) : b_l_rest (ends Kf) (startD 3 args, st) := by
  obtain ⟨b, l, c, m, s, t, rfl, h1, h2, tl, tm, hm, cl, cm, hb, q⟩ := q
  have m1 := len_pos hm
  have m0 := last_ne tm hm
  unfold b_l_rest
  walk_at "dn"
  refine while_of (fun n ρ => ∃ (F Q : List Rat) (x y : Option Sl), ρ = ([some (.v (rD b l)), some (.v (rD c m)), some (.own (nqs F)), x, y], st) ∧ F.length ≤ n ∧ n ≤ l.length ∧ trim F = F ∧ CD (s + (l.length - F.length) * (t + 1)) F ∧ F.length ≤ l.length ∧ ps l = ps Q * ps m + ps F) l.length ⟨l, [], none, none, rfl, Nat.le_refl _, Nat.le_refl _, tl, cl.mono (by omega), Nat.le_refl _, by rw [ps_nil]; generalize ps m = a; generalize ps l = b; grind⟩ ?_
  rintro n ρ ⟨F, Q, x, y, rfl, hn, hn2, tF, cF, lF, e⟩
  walk_at "dn"
  refine ⟨fun h => ?_, fun h => ?_⟩
  · have f1 : 1 ≤ F.length := by omega
    have ea := atI_negN (l := F) (k := 0) (by omega)
    rw [show (-(1 + ((0 : Nat) : Int))) = (-1 : Int) by omega] at ea
    rw [ea, show F.length - (0 + 1) = F.length - 1 by omega]
    show fIx (rD c m) (.int (-1)) _
    rw [fIx_last m1]
    have nb : s + (l.length - F.length) * (t + 1) + (t + 1) + 2 * t ≤ 67000000 := by
      have e1 : (l.length - F.length) * (t + 1) + (t + 1) = (l.length - F.length + 1) * (t + 1) := by rw [Nat.add_mul, Nat.one_mul]
      have e2 : (l.length - F.length + 1) * (t + 1) ≤ howN l m * (t + 1) := Nat.mul_le_mul_right _ (by unfold howN; omega)
      omega
    have bs := BQ.div m0 (cF.at (F.length - 1)) (cm.at (m.length - 1))
    walk_at "dn"
    refine ⟨m0, (cF.at _).mono (by omega), (cm.at _).mono (by omega), by omega, ?_⟩
    generalize hs : F.getD (F.length - 1) 0 / m.getD (m.length - 1) 0 = sh at *
    rw [show ((m.length : Int) + 1 - 1).toNat = m.length by omega]
    refine for_rng_ix (fun j ρ => ∃ y, ρ = ([some (.v (rD b l)), some (.v (rD c m)), some (.own (nqs (stG F m sh j))), some (.v (nq sh)), y], st)) ?_ ?_ _ ⟨y, by rw [stG_zero]⟩
    · rintro ρ ⟨y, rfl⟩
      walk_at "dn"
      rw [cutD_init, show (nqs (stG F m sh m.length)).dropLast = nqs (stG F m sh m.length).dropLast by simp [nqs]]
      refine ⟨false, _, rfl, ?_⟩
      walk_at "dn"
      have tl2 := trim_len (stG F m sh m.length).dropLast
      rw [List.length_dropLast, stG_len] at tl2
      have l0 : (stG F m sh m.length).getD ((stG F m sh m.length).length - 1) 0 = 0 := by
        rw [stG_len, ← hs]; exact stG_last m1 (by omega) m0
      have cG : CD (s + (l.length - F.length) * (t + 1) + t + 1) (stG F m sh m.length) := by rw [← hs]; exact cF.stG cm m0
      have eG : ps (trim (stG F m sh m.length).dropLast) = ps (stG F m sh m.length) := by rw [ps_trim]; exact ps_same (drop_same l0)
      refine ⟨n - 1, by omega, _, zipL (· + ·) Q (monoL (F.length - m.length) sh), _, _, rfl, by omega, by omega, trim_trim _, ?_, by omega, ?_⟩
      · refine ((cG.same fun i => (drop_same l0 i).symm).trim).mono ?_
        have e1 : (l.length - F.length) * (t + 1) + (t + 1) = (l.length - F.length + 1) * (t + 1) := by rw [Nat.add_mul, Nat.one_mul]
        have e2 : (l.length - F.length + 1) * (t + 1) ≤ (l.length - (trim (stG F m sh m.length).dropLast).length) * (t + 1) := Nat.mul_le_mul_right _ (by omega)
        omega
      · rw [eG, ps_stG (by omega), ps_add, ps_monoL, e]
        generalize ps Q = a; generalize ps m = b; generalize ps F = c; generalize PS.C sh = u; generalize mono (F.length - m.length) = v
        grind
    rintro j ρ nx hj ⟨y, rfl⟩ k
    walk_at "dn"
    have gj : (stG F m sh j).getD (F.length - (j + 1)) 0 = F.getD (F.length - (j + 1)) 0 := by rw [stG_getD (by omega), if_neg (by omega)]
    have ea2 := atI_negN (l := stG F m sh j) (k := j) (by rw [stG_len]; omega)
    rw [stG_len, gj] at ea2
    rw [ea2]
    show fIx (rD c m) _ _
    rw [fIx_negN hj]
    walk_at "dn"
    rw [stG_len, ixN_neg (show j < F.length by omega)]
    refine ⟨bs.mono (by omega), (cm.at _).mono (by omega), (cF.at _).mono (by omega), (bs.mul (cm.at _)).mono (by omega), ?_⟩
    show nx _
    rw [nqs_set]
    refine k _ ⟨some (.v (.int (1 + (j : Nat)))), ?_⟩
    rcases stG_set (F := F) (m := m) (s := sh) (k := j) (by omega) with w | w
    · rw [← w]
    · omega
  · have w := part_told (l := l) (f := trim Q) (trim_trim _) tF tm hm (by omega) (by rw [ps_trim]; exact e)
    rw [w.2] at q
    exact q
/-! ### Euclid, by the law's own -/
def EucC : Nat → List Rat → List Rat → Prop
  | 0, _, _ => True
  | n + 1, l, m => m = [] ∨ ((∃ s t, CD s l ∧ CD t m ∧ s + howN l m * (t + 1) + 2 * t ≤ 67000000) ∧ EucC n m (trim (rstL l m)))
theorem EucC.ok : ∀ (n : Nat) (l m : List Rat), trim m = m → EucC n l m → EucOk n l m
  | 0, _, _, _, _ => trivial
  | n + 1, l, m, tm, h => by
    rcases h with h | ⟨⟨s, t, cl, cm, b⟩, h⟩
    · exact .inl h
    · by_cases e : m = []
      · exact .inl e
      · exact .inr ⟨PartOk.cd cl cm (last_ne tm e) b, EucC.ok n _ _ (trim_trim _) h⟩
theorem euc_sizeC {x y : Nat} : ∀ (n : Nat) (l m : List Rat) (c s t : Nat), trim m = m → m.length ≤ n → m.length < l.length → CD s l → CD t m → s + 1 ≤ pell x y c → t + 1 ≤ pell x y (c + 1) → 3 * pell x y (c + l.length) ≤ 67000000 → EucC n l m
  | 0, l, m, c, s, t, hm, hn, hlm, hl, ht, h1, h2, h3 => trivial
  | n + 1, l, m, c, s, t, hm, hn, hlm, hl, ht, h1, h2, h3 => by
    by_cases e : m = []
    · exact .inl e
    · have p := len_pos e
      have m0 := last_ne hm e
      have rl := rest_len l e
      have hN : howN l m = l.length - m.length - 1 + 2 := by unfold howN; omega
      have d := pell_drop x y c (l.length - m.length - 1)
      have d2 : (l.length - m.length - 1 + 2) * (t + 1) ≤ (l.length - m.length - 1 + 2) * pell x y (c + 1) := Nat.mul_le_mul_left _ h2
      have u1 := pell_up x y (c + 1 + (l.length - m.length - 1)) (m.length - 1)
      have u2 := pell_up x y c (l.length - 1)
      have u3 := pell_up x y c (l.length - m.length - 1)
      rw [show c + 1 + (l.length - m.length - 1) + 1 + (m.length - 1) = c + l.length by omega, show c + 1 + (l.length - m.length - 1) + 1 = c + 2 + (l.length - m.length - 1) by omega] at u1
      rw [show c + 1 + (l.length - 1) = c + l.length by omega] at u2
      have cr := (hl.rst ht m0).trim
      have ih := euc_sizeC (x := x) (y := y) n m (trim (rstL l m)) (c + (l.length - m.length)) t _ (trim_trim _) (by omega) rl ht cr
        (by rw [show c + (l.length - m.length) = c + 1 + (l.length - m.length - 1) by omega]; omega)
        (by rw [hN, show c + (l.length - m.length) + 1 = c + 2 + (l.length - m.length - 1) by omega]; omega)
        (by rw [show c + (l.length - m.length) + m.length = c + l.length by omega]; exact h3)
      exact .inr ⟨⟨s, t, hl, ht, by rw [hN]; omega⟩, ih⟩
theorem euc_startC {l m : List Rat} {s t n : Nat} (hm : trim m = m) (hn : m.length ≤ n) (cl : CD s l) (cm : CD t m) (h : 3 * pell (s + 1) (t + 1) (max l.length (m.length + 1)) ≤ 67000000) : EucC n l m := by
  by_cases hlm : m.length < l.length
  · exact euc_sizeC (x := s + 1) (y := t + 1) n l m 0 s t hm hn hlm cl cm (Nat.le_refl _) (Nat.le_refl _) (by rw [Nat.zero_add]; rwa [show max l.length (m.length + 1) = l.length by omega] at h)
  · cases n with
    | zero => trivial
    | succ n =>
    by_cases e : m = []
    · exact .inl e
    · have p := len_pos e
      have m0 := last_ne hm e
      have rl := rest_len l e
      have hN : howN l m ≤ 1 := by unfold howN; omega
      have hN2 : howN l m * (t + 1) ≤ 1 * (t + 1) := Nat.mul_le_mul_right _ hN
      have mx : max l.length (m.length + 1) = 1 + m.length := by omega
      rw [mx] at h
      have e2 : pell (s + 1) (t + 1) (1 + 1) = s + 1 + 2 * (t + 1) := rfl
      have u := pell_up (s + 1) (t + 1) 1 (m.length - 1)
      rw [show 1 + 1 + (m.length - 1) = 1 + m.length by omega] at u
      exact .inr ⟨⟨s, t, cl, cm, by omega⟩, euc_sizeC (x := s + 1) (y := t + 1) n m (trim (rstL l m)) 1 t (s + howN l m * (t + 1)) (trim_trim _) (by omega) rl cm (cl.rst cm m0).trim (Nat.le_refl _) (by rw [e2]; omega) h⟩
def c_l_reduced : DFn := fun ds st Kf => ∃ l m, ds = [rD true l, rD true m] ∧ l.length ≤ 1000 ∧ m.length ≤ 1000 ∧ trim l = l ∧ trim m = m ∧ EucC m.length l m ∧ Kf (.v (.bl (decide ((gR l m).length = 1)))) st
def b_l_reduced : DSv := (dSeq (dPar 2 3 (dCons (dVar 0) (dCons (dVar 1) dNil)))
  (dSeq (dWhile (dB (d2 fNeD (dVar 3) (dTup dNil))) (dPar 2 3 (dCons (dVar 3) (dCons (dFn c_l_rest (lenIs 2 (dCons (dVar 2) (dCons (dVar 3) dNil)))) dNil))))
  (dRet (d2 fEqI (dCB fLen (dCons (dVar 2) dNil)) (dC (.int 1))))))
theorem d_l_reduced (args : List D) (st : Stt) (Kf : Sl → Stt → Prop) (hl : args.length = 2) (q : c_l_reduced args st Kf) : b_l_reduced (ends Kf) (startD 2 args, st) := by
  obtain ⟨l, m, rfl, h1, h2, tl, tm, ok, q⟩ := q
  unfold b_l_reduced
  walk_at "dn"
  refine while_of (fun n ρ => ∃ x y, ρ = ([some (.v (rD true l)), some (.v (rD true m)), some (.v (.tup (nqs x))), some (.v (.tup (nqs y)))], st) ∧ trim x = x ∧ trim y = y ∧ y.length ≤ n ∧ x.length ≤ 1000 ∧ y.length ≤ 1000 ∧ EucC n x y ∧ euc n x y = gR l m) m.length ⟨l, m, rfl, tl, tm, Nat.le_refl _, h1, h2, ok, rfl⟩ ?_
  rintro n ρ ⟨x, y, rfl, tx, ty, hn, lx, ly, eo, eg⟩
  walk_at "dn"
  refine ⟨by decide, fun h => ?_, fun h => ?_⟩
  · subst h
    rw [euc_nil] at eg
    rw [← eg] at q
    have e : decide ((x.length : Int) = 1) = decide (x.length = 1) := by
      by_cases h : x.length = 1
      · rw [decide_eq_true h, decide_eq_true (by omega)]
      · rw [decide_eq_false h, decide_eq_false (by omega)]
    rw [e]
    exact q
  · cases n with
    | zero => exact absurd (List.eq_nil_of_length_eq_zero (by omega)) h
    | succ n =>
    have rl := rest_len x h
    rcases eo with e | ⟨⟨s, t, cl, cm, bb⟩, eo⟩
    · exact absurd e h
    rw [euc_step h] at eg
    refine ⟨true, x, true, y, s, t, rfl, lx, ly, tx, ty, h, cl, cm, bb, ?_⟩
    walk_at "dn"
    exact ⟨n, by omega, y, _, rfl, ty, trim_trim _, by omega, ly, by omega, eo, eg⟩
end DL
namespace DL
open PySem PySem.Spec PyProof.Rows L2
local macro_rules | `(tactic| walk_at "dl") => `(tactic| simp -implicitDefEqProofs only [dSeq, dNext, dIfS, dB, dNot, dAnd, dOr, d2, fLt, fLe, fGt, fGe, fEqI, fNeI, fEqB, fNeB, fEqS, fNeS, fIsN_non, fNotN_non, fIsB, fNotB, fSub, fMul, fDiv, fDivE, fMod, fPow, fI, fI0, asI_int, asB_bl, asT_tup, asL_lst, asQ_tup, asQ_lst, asS_str, as1_one, as2_two, frz_v, frz_own, fAdd_int, fAdd_tup, fAdd_lst, fIx_tup0, fIx_tup1, fIx_lst0, fIx_lst1, fLen_tup, fLen_lst, fInt_bl, fTuple_tup, fTuple_lst, isN_int, isN_tup, isN_lst, isN_bl, isN_str, isN_non, dVar, dC, dNeg, dSet, dSetO, dPar, dAsg, dAug, dRet, dRetO, dRetV, dRetN, dTup, dCons, dNil, dFn, dFnO, lenIs, dCB, fAbs, fMax2, fMin2, dIsi, dAndV, dOrV, dNotV, dIf, dFor, iSeq, iRange1, iRange2, iZip, aName, aTup, aCons, aNil, dLc, dYes, dLitO, noOwn, wipeE, ends, startD, setV, setO, ownAt, asV, dLst, dListO, dLenO, dTupO, dFrz, dApp, dPop, dClear, dSub, dIxO, d2O, fCatO, fRepO, pt_non, isi_non_int, isi_non_bool, isi_non_tuple, isi_non_list, isi_non_str, pt_bl, isi_bl_int, isi_bl_bool, isi_bl_tuple, isi_bl_list, isi_bl_str, pt_int, isi_int_int, isi_int_bool, isi_int_tuple, isi_int_list, isi_int_str, pt_str, isi_str_int, isi_str_bool, isi_str_tuple, isi_str_list, isi_str_str, pt_tup, isi_tup_int, isi_tup_bool, isi_tup_tuple, isi_tup_list, isi_tup_str, pt_lst, isi_lst_int, isi_lst_bool, isi_lst_tuple, isi_lst_list, isi_lst_str, Br_true, Br_false, Br_dec, Br_not, tt_imp, List.map_cons, List.map_nil, List.cons_append, List.nil_append, List.replicate_succ, List.replicate_zero, List.getElem?_cons_zero, List.getElem?_cons_succ, List.set_nil, List.set_cons_zero, List.set_cons_succ, List.length_cons, List.length_nil, Bool.not_true, Bool.not_false, decide_eq_true_eq, not_true_eq_false, not_false_eq_true, true_and, and_true])
local macro_rules | `(tactic| walk_at "d1") => `(tactic| simp -implicitDefEqProofs only [aName, setV, setO, List.set_cons_zero, List.set_cons_succ])
local macro_rules | `(tactic| walk_at "dn") => `(tactic| simp -implicitDefEqProofs only [okD_pt, okD_pl, eqD_pt, eqD_pl, flT_nq, flT_bl, dBorT, aTupQ, dTurn, fIx_nq0, fIx_nq1, asN_nq, num_e, part_e, same_e, nn_e2, over_e, l_over_e, c_plus, c_minus, c_times, c_before, c_l_plus, c_l_minus, c_l_times, num_eq, num_lt0, sub_lt0, due_nq, asR_r, asR_t, asR_l, asQ_r, fLen_r, fTuple_r, pt_r, asT1_t, okD_nq, okD_lst, okD_tup, okD_nil, okD_nilt, eqD_nq, eqD_lst, eqD_tup, eqD_nil, eqD_nilt, nqs_len, dCmpO, eqB, neB, dMeth, dChain, iEnum, iRev, iRange3, as3_three, dBor, dCatO, fl_bl, fEqD, fNeD, c_Exact_nought, c_Exact_one, c_Exact_plus, c_Exact_minus, c_Exact_times, c_Exact_over, c_Exact_is_nought, List.tail_cons, D.ins.injEq, exists_eq', exists_and_left, and_true, true_and, dSl, dPn, dPs, fSl_lst, fSl_tup, dSeq, dNext, dIfS, dB, dNot, dAnd, dOr, d2, fLt, fLe, fGt, fGe, fEqI, fNeI, fEqB, fNeB, fEqS, fNeS, fIsN_non, fNotN_non, fIsB, fNotB, fSub, fMul, fDiv, fDivE, fMod, fPow, fI, fI0, asI_int, asB_bl, asT_tup, asL_lst, asQ_tup, asQ_lst, asS_str, as1_one, as2_two, frz_v, frz_own, fAdd_int, fAdd_tup, fAdd_lst, fIx_tup0, fIx_tup1, fIx_lst0, fIx_lst1, fLen_tup, fLen_lst, fInt_bl, fTuple_tup, fTuple_lst, isN_int, isN_tup, isN_lst, isN_bl, isN_str, isN_non, dVar, dC, dNeg, dSet, dSetO, dPar, dAsg, dAug, dRet, dRetO, dRetV, dRetN, dTup, dCons, dNil, dFn, dFnO, lenIs, dCB, fAbs, fMax2, fMin2, dIsi, dAndV, dOrV, dNotV, dIf, dFor, iSeq, iRange1, iRange2, iZip, aName, aTup, aCons, aNil, dLc, dYes, dLitO, noOwn, wipeE, ends, startD, setV, setO, ownAt, asV, dLst, dListO, dLenO, dTupO, dFrz, dApp, dPop, dClear, dSub, dIxO, d2O, fCatO, fRepO, pt_non, isi_non_int, isi_non_bool, isi_non_tuple, isi_non_list, isi_non_str, pt_bl, isi_bl_int, isi_bl_bool, isi_bl_tuple, isi_bl_list, isi_bl_str, pt_int, isi_int_int, isi_int_bool, isi_int_tuple, isi_int_list, isi_int_str, pt_str, isi_str_int, isi_str_bool, isi_str_tuple, isi_str_list, isi_str_str, pt_tup, isi_tup_int, isi_tup_bool, isi_tup_tuple, isi_tup_list, isi_tup_str, pt_lst, isi_lst_int, isi_lst_bool, isi_lst_tuple, isi_lst_list, isi_lst_str, Br_true, Br_false, Br_dec, Br_not, tt_imp, List.map_cons, List.map_nil, List.cons_append, List.nil_append, List.replicate_succ, List.replicate_zero, List.getElem?_cons_zero, List.getElem?_cons_succ, List.set_nil, List.set_cons_zero, List.set_cons_succ, List.length_cons, List.length_nil, Bool.not_true, Bool.not_false, decide_eq_true_eq, not_true_eq_false, not_false_eq_true, true_and, and_true])
/-- what stands in a thing: plain, its parts too -/
def elemOk (x : D) : Bool := plainTy x && (match x with
  | .tup l => l.all plainTy && decide (l.length ≤ 10)
  | _ => true)
/-- what may be asked of -/
def thingOk (x : D) : Bool := plainTy x && (match x with
  | .tup l => l.all elemOk && decide (l.length ≤ 1000)
  | _ => true)
theorem elem_plain {x : D} (h : elemOk x = true) : plainTy x = true := by unfold elemOk at h; rw [Bool.and_eq_true] at h; exact h.1
theorem elem_parts {x : D} (h : elemOk x = true) : parts2 x := by
  unfold parts2
  split
  · rename_i a b
    unfold elemOk at h
    simp only [Bool.and_eq_true] at h
    have h3 := List.all_eq_true.mp h.2.1
    exact ⟨h3 a (by simp), h3 b (by simp)⟩
  · trivial
def lastNz (l : List D) : Bool := match l.getLast? with
  | some (.tup [.int t, .int _]) => !decide (t = 0)
  | none => true
  | _ => false
/-- a polynomial, by its looks -/
def isPol : D → Bool
  | .tup l => l.all isNum && lastNz l
  | _ => false
theorem isNum_tup {x : D} (h : isNum x = true) : ∃ t b, x = .tup [.int t, .int b] := by
  unfold isNum at h
  split at h
  · exact ⟨_, _, rfl⟩
  · cases h
/-- a comprehension of truths over things -/
theorem lc_mapB {s : Nat} {te : DEv} {env : List (Option Sl)} {K : List D → Stt → Prop} (P : D → Bool) :
    ∀ (l acc : List D) (st : Stt), (∀ d, d ∈ l → ∀ (Kd : D → En → Prop), (∀ ρ : En, ρ.2 = st → Kd (.bl (P d)) ρ) → te (setV (env, st) s d) Kd) → acc.length + l.length ≤ 1000000 → K (acc ++ l.map fun d => D.bl (P d)) st → lcD (aName s) dYes te env l acc st K
  | [], acc, st, h, hl, fin => by
    rw [List.map_nil, List.append_nil] at fin
    exact fin
  | d :: l, acc, st, h, hl, fin => by
    unfold lcD aName dYes
    simp only [List.length_cons] at hl
    refine ⟨fun _ => ?_, fun z => nomatch z⟩
    refine h d List.mem_cons_self _ fun ρ e => ⟨by omega, ?_⟩
    rw [e]
    exact lc_mapB P l (acc ++ [.bl (P d)]) st (fun y hy => h y (List.mem_cons_of_mem _ hy)) (by simp; omega) (by simpa using fin)
theorem bls_mapB (P : D → Bool) : ∀ l : List D, blsOf (l.map fun d => D.bl (P d)) = some (l.map P)
  | [] => rfl
  | a :: l => by rw [List.map_cons]; unfold blsOf; rw [bls_mapB P l]; rfl
theorem fAll_mapB {P : D → Bool} {l : List D} {Q : D → Prop} : fAll [.lst (l.map fun d => D.bl (P d))] Q = Q (.bl (l.all P)) := by
  unfold fAll
  rw [as1_one, asL_lst, bls_mapB]
  have : (l.map P).all id = l.all P := by rw [List.all_map]; rfl
  show Q (.bl ((l.map P).all id)) = _
  rw [this]
theorem num_nq {x : D} (h : isNum x = true) : ∃ q : Rat, x = nq q := by
  obtain ⟨t, b, rfl⟩ := isNum_tup h
  unfold isNum at h
  rw [Bool.and_eq_true] at h
  have hb : 0 < b := of_decide_eq_true h.1
  have hg : Int.gcd t b = 1 := of_decide_eq_true h.2
  refine ⟨Rat.divInt t b, ?_⟩
  unfold nq
  rw [rat_num, rat_den (by omega), Int.sign_eq_one_of_pos hb, Int.one_mul, Int.gcd_comm b t, hg, show ((b.natAbs : Nat) : Int) = b by omega]
  simp
theorem all_nqs : ∀ {l : List D}, l.all isNum = true → ∃ L : List Rat, l = nqs L
  | [], _ => ⟨[], rfl⟩
  | d :: l, h => by
    rw [List.all_cons, Bool.and_eq_true] at h
    obtain ⟨q, rfl⟩ := num_nq h.1
    obtain ⟨L, rfl⟩ := all_nqs h.2
    exact ⟨q :: L, rfl⟩
theorem lastNz_nil : lastNz (nqs []) = true := rfl
theorem lastNz_nqs {L : List Rat} (h : L ≠ []) : lastNz (nqs L) = !decide (L.getD (L.length - 1) 0 = 0) := by
  rcases snoc_cases L with rfl | ⟨m, a, rfl⟩
  · exact absurd rfl h
  · have e : (nqs (m ++ [a])).getLast? = some (.tup [.int a.num, .int a.den]) := by
      have : nqs (m ++ [a]) = nqs m ++ [nq a] := by simp [nqs]
      rw [this, List.getLast?_append]; rfl
    unfold lastNz
    rw [e, show (m ++ [a]).length - 1 = m.length by simp, getD_len]
    show (!decide (a.num = 0)) = _
    congr 1
    by_cases h : a = 0
    · subst h; rfl
    · rw [decide_eq_false h, decide_eq_false (num_ne h)]
theorem not_pol {l : List D} {d : D} (hd : d ∈ l) (h : isNum d = false) : isPol (.tup l) = false := by
  show (l.all isNum && lastNz l) = false
  have : l.all isNum = false := List.all_eq_false.mpr ⟨d, hd, by rw [h]; decide⟩
  rw [this, Bool.false_and]
/-- the look at the last number -/
theorem look_last {L : List Rat} {K : D → Prop} (h : L ≠ []) (q : K (.bl (lastNz (nqs L)))) : fIx (.tup (nqs L)) (.int (-1)) fun z => fIx z (.int 0) fun z => asI z fun i => K (.bl !decide (i = 0)) := by
  show fIx (rD true L) (.int (-1)) _
  rw [fIx_last (len_pos h), fIx_nq0, asI_int]
  rw [lastNz_nqs h] at q
  by_cases h0 : L.getD (L.length - 1) 0 = 0
  · rw [h0] at q ⊢; exact q
  · rw [decide_eq_false h0] at q
    rw [decide_eq_false (num_ne h0)]; exact q
def c_is_poly : DFn := fun ds st Kf => as1 ds fun x => thingOk x = true ∧ Kf (.v (.bl (isPol x))) st
def b_is_poly : DSv := (dSeq (dIfS (dOr (dNot (dB (dIsi "tuple" (dVar 0)))) (dNot (dB (dCB fAll (dCons (asV (dLc (iSeq (dVar 0)) (aName 1) dYes (dFn c_is_number (lenIs 1 (dCons (dVar 1) dNil))) [1])) dNil))))) (dRet (dC (.bl false))) dNext)
  (dRet (dOrV (d2 fEqI (dCB fLen (dCons (dVar 0) dNil)) (dC (.int 0))) (d2 fNeI (d2 fIx (d2 fIx (dVar 0) (dNeg (dC (.int 1)))) (dC (.int 0))) (dC (.int 0))))))
theorem fIx_lastD {l : List D} {d : D} {P : D → Prop} (h : l.getLast? = some d) : fIx (.tup l) (.int (-1)) P = P d := by
  have hn : l ≠ [] := fun e => by subst e; cases h
  rw [fIx_tup, atI_last hn]
  rw [List.getLast?_eq_some_getLast hn] at h
  rw [Option.some.inj h]
theorem d_is_poly (args : List D) (st : Stt) (Kf : Sl → Stt → Prop) (hl : args.length = 1) (q : c_is_poly args st Kf) : b_is_poly (ends Kf) (startD 1 args, st) := by
  obtain ⟨x, rfl⟩ := len1 hl
  obtain ⟨hx, q⟩ := q
  unfold b_is_poly
  unfold thingOk at hx
  rw [Bool.and_eq_true] at hx
  cases x with
  | stt => cases hx.1
  | ins _ _ => cases hx.1
  | tup l =>
    have h2 := hx.2
    simp only [Bool.and_eq_true] at h2
    have h3 := List.all_eq_true.mp h2.1
    have h4 : l.length ≤ 1000 := of_decide_eq_true h2.2
    walk_at "dn"
    refine lc_mapB isNum l [] st (fun d hd Kd k => ?_) (by simp; omega) ?_
    · walk_at "dn"
      have e := h3 d hd
      exact ⟨elem_plain e, elem_parts e, k _ rfl⟩
    · rw [List.nil_append, fAll_mapB]
      have eq : isPol (.tup l) = (l.all isNum && lastNz l) := rfl
      rw [eq] at q
      cases hn : l.all isNum with
      | false =>
        rw [hn, Bool.false_and] at q
        walk_at "dn"
        exact q
      | true =>
        rw [hn, Bool.true_and] at q
        obtain ⟨L, rfl⟩ := all_nqs hn
        walk_at "dn"
        refine ⟨fun h0 => ?_, fun h0 => look_last (K := fun d => Kf (.v d) st) (fun e => h0 (by rw [e]; rfl)) q⟩
        have : L = [] := List.eq_nil_of_length_eq_zero (by omega)
        subst this
        exact q
  | _ => walk_at "dn"; exact q
theorem elem_nq (q : Rat) : elemOk (nq q) = true := rfl
theorem thing_tup {l : List D} (h : ∀ x, x ∈ l → elemOk x = true) (hl : l.length ≤ 1000) : thingOk (.tup l) = true := by
  show (true && (l.all elemOk && decide (l.length ≤ 1000))) = true
  rw [Bool.true_and, Bool.and_eq_true]
  exact ⟨List.all_eq_true.mpr h, decide_eq_true hl⟩
theorem elem_nqs {L : List Rat} {x : D} (h : x ∈ nqs L) : elemOk x = true := by
  obtain ⟨q, _, rfl⟩ := List.mem_map.mp h
  exact elem_nq q
theorem thing_nqs {L : List Rat} (hl : L.length ≤ 1000) : thingOk (.tup (nqs L)) = true := thing_tup (fun x hx => elem_nqs hx) (by rw [nqs_len]; exact hl)
theorem pol_nqs {L : List Rat} (h : trim L = L) : isPol (.tup (nqs L)) = true := by
  have e : (nqs L).all isNum = true := List.all_eq_true.mpr fun x hx => by
    obtain ⟨q, _, rfl⟩ := List.mem_map.mp hx
    show (decide (0 < (q.den : Int)) && decide (Int.gcd q.num q.den = 1)) = true
    rw [decide_eq_true (by have := q.den_pos; omega), Bool.true_and, decide_eq_true]
    exact q.reduced
  show ((nqs L).all isNum && lastNz (nqs L)) = true
  rw [e, Bool.true_and]
  by_cases hL : L = []
  · subst hL; rfl
  · rw [lastNz_nqs hL, decide_eq_false (last_ne h hL)]; rfl
def c_l_is_whole : DFn := fun ds st Kf => ∃ x, ds = [x] ∧ plainTy x = true ∧ Kf (.v (.bl (isInt x))) st
def b_l_is_whole : DSv := (dRet (dAndV (dIsi "int" (dVar 0)) (dNotV (dIsi "bool" (dVar 0)))))
theorem d_l_is_whole (args : List D) (st : Stt) (Kf : Sl → Stt → Prop) (hl : args.length = 1) (q : c_l_is_whole args st Kf) : b_l_is_whole (ends Kf) (startD 0 args, st) := by
  obtain ⟨x, rfl, px, q⟩ := q
  unfold b_l_is_whole
  cases x with
  | stt => cases px
  | ins _ _ => cases px
  | _ => walk_at "dn"; exact q
def c_l_is_poly : DFn := c_is_poly
def b_l_is_poly : DSv := (dSeq (dIfS (dNot (dB (dIsi "tuple" (dVar 0)))) (dRet (dC (.bl false))) dNext)
  (dSeq (dFor (iSeq (dVar 0)) (aName 1) (dSeq (dIfS (dOr (dNot (dB (dIsi "tuple" (dVar 1)))) (dOr (dB (d2 fNeI (dCB fLen (dCons (dVar 1) dNil)) (dC (.int 2)))) (dNot (dB (dCB fAll (dCons (asV (dLc (iSeq (dVar 1)) (aName 2) dYes (dFn c_l_is_whole (lenIs 1 (dCons (dVar 2) dNil))) [2])) dNil)))))) (dRet (dC (.bl false))) dNext)
  (dIfS (dOr (dB (d2 fLt (d2 fIx (dVar 1) (dC (.int 1))) (dC (.int 1)))) (dB (d2 fNeD (dFn c_l_part (lenIs 2 (dCons (d2 fIx (dVar 1) (dC (.int 0))) (dCons (d2 fIx (dVar 1) (dC (.int 1))) dNil)))) (dVar 1)))) (dRet (dC (.bl false))) dNext)))
  (dRet (dOrV (d2 fEqD (dVar 0) (dTup dNil)) (d2 fNeI (d2 fIx (d2 fIx (dVar 0) (dNeg (dC (.int 1)))) (dC (.int 0))) (dC (.int 0)))))))
theorem d_l_is_poly (args : List D) (st : Stt) (Kf : Sl → Stt → Prop) (hl : args.length = 1) (q : c_l_is_poly args st Kf) : b_l_is_poly (ends Kf) (startD 2 args, st) := by
  obtain ⟨x, rfl⟩ := len1 hl
  obtain ⟨hx, q⟩ := q
  unfold b_l_is_poly
  unfold thingOk at hx
  rw [Bool.and_eq_true] at hx
  cases x with
  | stt => cases hx.1
  | ins _ _ => cases hx.1
  | tup l =>
    have h2 := hx.2
    simp only [Bool.and_eq_true] at h2
    have h3 := List.all_eq_true.mp h2.1
    have h4 : l.length ≤ 1000 := of_decide_eq_true h2.2
    walk_at "dn"
    refine for_list_ix (fun i ρ => (∀ j d, j < i → l[j]? = some d → isNum d = true) ∧ ∃ a b, ρ = ([some (.v (.tup l)), a, b], st)) ?_ ?_ _ ⟨fun j d hj => absurd hj (Nat.not_lt_zero _), none, none, rfl⟩
    · rintro ρ ⟨hn, a, b, rfl⟩
      have hall : l.all isNum = true := List.all_eq_true.mpr fun d hd => by
        obtain ⟨j, hj, rfl⟩ := List.getElem_of_mem hd
        exact hn j _ hj (by simp [hj])
      have eq : isPol (.tup l) = (l.all isNum && lastNz l) := rfl
      rw [eq, hall, Bool.true_and] at q
      obtain ⟨L, rfl⟩ := all_nqs hall
      walk_at "dn"
      refine ⟨by decide, fun h0 => ?_, fun h0 => look_last (K := fun d => Kf (.v d) st) h0 q⟩
      subst h0
      exact q
    · rintro i d ρ nx hd ⟨hn, a, b, rfl⟩ k
      have hm : d ∈ l := List.mem_of_getElem? hd
      have ed := h3 d hm
      have no : isNum d = false → Kf (.v (.bl false)) st := fun h => by rw [not_pol hm h] at q; exact q
      have yes : isNum d = true → ∀ a b, nx ([some (.v (.tup l)), a, b], st) := fun h a b => k _ ⟨fun j d' hj e => by
        by_cases hji : j < i
        · exact hn j d' hji e
        · have : j = i := by omega
          subst this
          rw [hd] at e
          cases e
          exact h, a, b, rfl⟩
      clear q k
      have pd := elem_plain ed
      walk_at "dn"
      refine ⟨pd, ?_⟩
      cases d with
      | stt => cases pd
      | ins _ _ => cases pd
      | tup r =>
        have e2 : (r.all plainTy && decide (r.length ≤ 10)) = true := by
          unfold elemOk at ed
          rw [Bool.and_eq_true] at ed
          exact ed.2
        rw [Bool.and_eq_true] at e2
        have e3 := List.all_eq_true.mp e2.1
        walk_at "dn"
        refine ⟨fun hl2 => ?_, fun hl2 => ?_⟩
        · obtain ⟨x, y, rfl⟩ := len2 (args := r) (by omega)
          have px := e3 x (by simp)
          have py := e3 y (by simp)
          refine lc_mapB isInt [x, y] [] st (fun z hz Kd kz => ?_) (by simp) ?_
          · have pz : plainTy z = true := e3 z hz
            walk_at "dn"
            exact ⟨z, rfl, pz, kz _ rfl⟩
          · rw [List.nil_append, fAll_mapB]
            rw [asB_bl]
            show Br ([isInt x, isInt y].all id) _ _
            cases x with
            | int t =>
              cases y with
              | int b =>
                show Br true _ _
                walk_at "dn"
                refine ⟨fun hb => no ?_, fun hb => ⟨by omega, rfl, ?_⟩⟩
                · show (decide (0 < b) && _) = false
                  rw [decide_eq_false (by omega), Bool.false_and]
                · have hb : 0 < b := by omega
                  have e : isNum (.tup [.int t, .int b]) = eqD (nq (Rat.divInt t b)) (D.tup [D.int t, D.int b]) := by
                    simp only [isNum, eqD, nq, pyD, pyL, PyData.eqv, PyData.eqvAll, Bool.and_true]
                    rw [decide_eq_true hb, Bool.true_and, rat_num, rat_den (by omega), Int.sign_eq_one_of_pos hb, Int.one_mul, Int.gcd_comm b t, show ((b.natAbs : Nat) : Int) = b by omega]
                    by_cases hg : Int.gcd t b = 1
                    · rw [hg]; simp
                    · rw [decide_eq_false hg]
                      have gp : 0 < Int.gcd t b := Int.gcd_pos_of_ne_zero_right _ (by omega)
                      have : ¬ (b / ((Int.gcd t b : Nat) : Int) = b) := fun z => by
                        have h2 : (2 : Int) ≤ ((Int.gcd t b : Nat) : Int) := by omega
                        have h4 : ((Int.gcd t b : Nat) : Int) * (b / ((Int.gcd t b : Nat) : Int)) = b := Int.mul_ediv_cancel' (Int.gcd_dvd_right _ _)
                        rw [z] at h4
                        have h5 := Int.mul_le_mul_of_nonneg_right h2 (show 0 ≤ b by omega)
                        omega
                      simp [this]
                  rw [← e]
                  cases h : isNum (.tup [.int t, .int b]) with
                  | true => rw [Br_true]; exact yes h _ _
                  | false => rw [Br_false]; exact no h
              | _ => exact ⟨fun z => (nomatch z), fun _ => no rfl⟩
            | _ => cases y <;> exact ⟨fun z => (nomatch z), fun _ => no rfl⟩
        · refine no ?_
          unfold isNum
          split
          · rename_i e; cases e; exact absurd rfl hl2
          · rfl
      | _ => walk_at "dn"; exact no rfl
  | _ => walk_at "dn"; exact q
end DL
namespace DL
open PySem PySem.Spec PyProof.Rows L2
local macro_rules | `(tactic| walk_at "dl") => `(tactic| simp -implicitDefEqProofs only [dSeq, dNext, dIfS, dB, dNot, dAnd, dOr, d2, fLt, fLe, fGt, fGe, fEqI, fNeI, fEqB, fNeB, fEqS, fNeS, fIsN_non, fNotN_non, fIsB, fNotB, fSub, fMul, fDiv, fDivE, fMod, fPow, fI, fI0, asI_int, asB_bl, asT_tup, asL_lst, asQ_tup, asQ_lst, asS_str, as1_one, as2_two, frz_v, frz_own, fAdd_int, fAdd_tup, fAdd_lst, fIx_tup0, fIx_tup1, fIx_lst0, fIx_lst1, fLen_tup, fLen_lst, fInt_bl, fTuple_tup, fTuple_lst, isN_int, isN_tup, isN_lst, isN_bl, isN_str, isN_non, dVar, dC, dNeg, dSet, dSetO, dPar, dAsg, dAug, dRet, dRetO, dRetV, dRetN, dTup, dCons, dNil, dFn, dFnO, lenIs, dCB, fAbs, fMax2, fMin2, dIsi, dAndV, dOrV, dNotV, dIf, dFor, iSeq, iRange1, iRange2, iZip, aName, aTup, aCons, aNil, dLc, dYes, dLitO, noOwn, wipeE, ends, startD, setV, setO, ownAt, asV, dLst, dListO, dLenO, dTupO, dFrz, dApp, dPop, dClear, dSub, dIxO, d2O, fCatO, fRepO, pt_non, isi_non_int, isi_non_bool, isi_non_tuple, isi_non_list, isi_non_str, pt_bl, isi_bl_int, isi_bl_bool, isi_bl_tuple, isi_bl_list, isi_bl_str, pt_int, isi_int_int, isi_int_bool, isi_int_tuple, isi_int_list, isi_int_str, pt_str, isi_str_int, isi_str_bool, isi_str_tuple, isi_str_list, isi_str_str, pt_tup, isi_tup_int, isi_tup_bool, isi_tup_tuple, isi_tup_list, isi_tup_str, pt_lst, isi_lst_int, isi_lst_bool, isi_lst_tuple, isi_lst_list, isi_lst_str, Br_true, Br_false, Br_dec, Br_not, tt_imp, List.map_cons, List.map_nil, List.cons_append, List.nil_append, List.replicate_succ, List.replicate_zero, List.getElem?_cons_zero, List.getElem?_cons_succ, List.set_nil, List.set_cons_zero, List.set_cons_succ, List.length_cons, List.length_nil, Bool.not_true, Bool.not_false, decide_eq_true_eq, not_true_eq_false, not_false_eq_true, true_and, and_true])
local macro_rules | `(tactic| walk_at "d1") => `(tactic| simp -implicitDefEqProofs only [aName, setV, setO, List.set_cons_zero, List.set_cons_succ])
local macro_rules | `(tactic| walk_at "dn") => `(tactic| simp -implicitDefEqProofs only [dRevO, dRevL, okD_pt, okD_pl, eqD_pt, eqD_pl, flT_nq, flT_bl, dBorT, aTupQ, dTurn, fIx_nq0, fIx_nq1, asN_nq, num_e, part_e, same_e, nn_e2, over_e, l_over_e, c_plus, c_minus, c_times, c_before, c_l_plus, c_l_minus, c_l_times, num_eq, num_lt0, sub_lt0, due_nq, asR_r, asR_t, asR_l, asQ_r, fLen_r, fTuple_r, pt_r, asT1_t, okD_nq, okD_lst, okD_tup, okD_nil, okD_nilt, eqD_nq, eqD_lst, eqD_tup, eqD_nil, eqD_nilt, nqs_len, dCmpO, eqB, neB, dMeth, dChain, iEnum, iRev, iRange3, as3_three, dBor, dCatO, fl_bl, fEqD, fNeD, c_Exact_nought, c_Exact_one, c_Exact_plus, c_Exact_minus, c_Exact_times, c_Exact_over, c_Exact_is_nought, List.tail_cons, D.ins.injEq, exists_eq', exists_and_left, and_true, true_and, dSl, dPn, dPs, fSl_lst, fSl_tup, dSeq, dNext, dIfS, dB, dNot, dAnd, dOr, d2, fLt, fLe, fGt, fGe, fEqI, fNeI, fEqB, fNeB, fEqS, fNeS, fIsN_non, fNotN_non, fIsB, fNotB, fSub, fMul, fDiv, fDivE, fMod, fPow, fI, fI0, asI_int, asB_bl, asT_tup, asL_lst, asQ_tup, asQ_lst, asS_str, as1_one, as2_two, frz_v, frz_own, fAdd_int, fAdd_tup, fAdd_lst, fIx_tup0, fIx_tup1, fIx_lst0, fIx_lst1, fLen_tup, fLen_lst, fInt_bl, fTuple_tup, fTuple_lst, isN_int, isN_tup, isN_lst, isN_bl, isN_str, isN_non, dVar, dC, dNeg, dSet, dSetO, dPar, dAsg, dAug, dRet, dRetO, dRetV, dRetN, dTup, dCons, dNil, dFn, dFnO, lenIs, dCB, fAbs, fMax2, fMin2, dIsi, dAndV, dOrV, dNotV, dIf, dFor, iSeq, iRange1, iRange2, iZip, aName, aTup, aCons, aNil, dLc, dYes, dLitO, noOwn, wipeE, ends, startD, setV, setO, ownAt, asV, dLst, dListO, dLenO, dTupO, dFrz, dApp, dPop, dClear, dSub, dIxO, d2O, fCatO, fRepO, pt_non, isi_non_int, isi_non_bool, isi_non_tuple, isi_non_list, isi_non_str, pt_bl, isi_bl_int, isi_bl_bool, isi_bl_tuple, isi_bl_list, isi_bl_str, pt_int, isi_int_int, isi_int_bool, isi_int_tuple, isi_int_list, isi_int_str, pt_str, isi_str_int, isi_str_bool, isi_str_tuple, isi_str_list, isi_str_str, pt_tup, isi_tup_int, isi_tup_bool, isi_tup_tuple, isi_tup_list, isi_tup_str, pt_lst, isi_lst_int, isi_lst_bool, isi_lst_tuple, isi_lst_list, isi_lst_str, Br_true, Br_false, Br_dec, Br_not, tt_imp, List.map_cons, List.map_nil, List.cons_append, List.nil_append, List.replicate_succ, List.replicate_zero, List.getElem?_cons_zero, List.getElem?_cons_succ, List.set_nil, List.set_cons_zero, List.set_cons_succ, List.length_cons, List.length_nil, Bool.not_true, Bool.not_false, decide_eq_true_eq, not_true_eq_false, not_false_eq_true, true_and, and_true])
/-! ### how often the common factor goes in: no common factor but numbers is left -/
theorem cof_one {l m : List Rat} (hl : trim l = l) (hm : trim m = m) (h : l ≠ [] ∨ m ≠ []) : (gR (trim (oftL l (gL l m))) (trim (oftL m (gL l m)))).length = 1 := by
  have g0 := gL_ne hl hm h
  have gt := gL_trim hl hm
  have dv := gL_dv hl hm
  obtain ⟨_, e1⟩ := dv_part gt g0 dv.1
  obtain ⟨_, e2⟩ := dv_part gt g0 dv.2
  have t1 := trim_trim (oftL l (gL l m))
  have t2 := trim_trim (oftL m (gL l m))
  generalize trim (oftL l (gL l m)) = T at *
  generalize trim (oftL m (gL l m)) = B at *
  have hTB : T ≠ [] ∨ B ≠ [] := by
    rcases h with h | h
    · left; intro z; subst z
      exact h (ps_zero hl (by rw [e1, ps_nil]; generalize ps (gL l m) = a; grind))
    · right; intro z; subst z
      exact h (ps_zero hm (by rw [e2, ps_nil]; generalize ps (gL l m) = a; grind))
  have k0 := gL_ne t1 t2 hTB
  have kt := gL_trim t1 t2
  have kd := gL_dv t1 t2
  rw [show (gR T B).length = (gL T B).length from (monic_len _).symm]
  generalize gL T B = k at *
  have pk := mul_ne kt gt k0 g0
  have dk : Dv (prodL k (gL l m)) (ps (gL l m)) := by
    refine gL_most hm ?_ ?_
    · obtain ⟨q, eq⟩ := kd.1
      exact ⟨q, by rw [e1, eq, ps_prod]; generalize ps q = a; generalize ps k = b; generalize ps (gL l m) = c; grind⟩
    · obtain ⟨q, eq⟩ := kd.2
      exact ⟨q, by rw [e2, eq, ps_prod]; generalize ps q = a; generalize ps k = b; generalize ps (gL l m) = c; grind⟩
  have := dk.len pk.1 gt g0
  have := len_pos k0
  have := len_pos g0
  omega
/-- the common factor, either way about -/
theorem gL_symm {l m : List Rat} (hl : trim l = l) (hm : trim m = m) : gL l m = gL m l := by
  by_cases h : l ≠ [] ∨ m ≠ []
  · have a0 := gL_ne hl hm h
    have b0 := gL_ne hm hl h.symm
    have at' := gL_trim hl hm
    have bt := gL_trim hm hl
    have a1 := gL_last hl hm h
    have b1 := gL_last hm hl h.symm
    have d1 : Dv (gL l m) (ps (gL m l)) := gL_most hl (gL_dv hl hm).2 (gL_dv hl hm).1
    have d2 : Dv (gL m l) (ps (gL l m)) := gL_most hm (gL_dv hm hl).2 (gL_dv hm hl).1
    have l1 := d1.len at' bt b0
    have l2 := d2.len bt at' a0
    have e := (dv_part at' a0 d1).2
    have tq := trim_trim (oftL (gL m l) (gL l m))
    have lq : (trim (oftL (gL m l) (gL l m))).length ≤ 1 := by
      have := trim_len (oftL (gL m l) (gL l m))
      rw [oft_len] at this
      unfold howN at this
      omega
    generalize trim (oftL (gL m l) (gL l m)) = Q at *
    rcases Q with _ | ⟨c, _ | ⟨_, _⟩⟩
    · exact absurd (ps_zero bt (by rw [e, ps_nil]; generalize ps (gL l m) = a; grind)) b0
    · have ec : ∀ i, (gL m l).getD i 0 = c * (gL l m).getD i 0 := fun i => by
        have : (ps (gL m l)).co i = _ := congrArg (fun f => f.co i) e
        rw [ps_one, PS.co_Cmul] at this
        exact this
      have : c = 1 := by
        have e3 := ec ((gL m l).length - 1)
        rw [b1, show (gL m l).length - 1 = (gL l m).length - 1 by omega, a1, Rat.mul_one] at e3
        exact e3.symm
      subst this
      refine ps_inj at' bt ?_
      rw [e, ps_one, C_one]
      generalize ps (gL l m) = a; grind
    · simp at lq
  · have h1 : l = [] := Classical.byContradiction fun z => h (.inl z)
    have h2 : m = [] := Classical.byContradiction fun z => h (.inr z)
    rw [h1, h2]
/-! ### the share of a factor, by the law's own -/
theorem pop_last (l : List Rat) : (nqs l).dropLast = nqs l.dropLast := by simp [nqs]
def c_l_share : DFn := fun ds st Kf => ∃ b l c m s t, ds = [rD b l, rD c m] ∧ l.length ≤ 1000 ∧ m.length ≤ 1000 ∧ trim m = m ∧ m ≠ [] ∧ CD s l ∧ CD t m ∧ s + howN l m * (t + 1) + 2 * t ≤ 67000000 ∧ Kf (.v (.tup (nqs (trim (oftL l m))))) st
def b_l_share : DSv := (dSeq (dSetO 2 (dLst dNil))
  (dSeq (dSetO 3 (dListO (dCons (dVar 0) dNil)))
  (dSeq (dWhile (dB (d2 fGe (dLenO 3) (dCB fLen (dCons (dVar 1) dNil)))) (dSeq (dSet 4 (dFn c_l_over (lenIs 2 (dCons (dIxO 3 (dNeg (dC (.int 1)))) (dCons (d2 fIx (dVar 1) (dNeg (dC (.int 1)))) dNil)))))
  (dSeq (dApp 2 (dVar 4))
  (dSeq (dFor (iRange2 (dCons (dC (.int 1)) (dCons (d2 fAdd (dCB fLen (dCons (dVar 1) dNil)) (dC (.int 1))) dNil))) (aName 5) (dSub 3 (dFn c_l_minus (lenIs 2 (dCons (dIxO 3 (dNeg (dVar 5))) (dCons (dFn c_l_times (lenIs 2 (dCons (dVar 4) (dCons (d2 fIx (dVar 1) (dNeg (dVar 5))) dNil)))) dNil)))) (dNeg (dVar 5))))
  (dPop 3)))))
  (dRet (dFn c_l_trimmed (lenIs 1 (dCons (asV (dRevO 2)) dNil)))))))
theorem mono_comp (p : Nat) (h : 1 ≤ p) (f : PS) : mono p * f = mono (p - 1) * (mono 1 * f) := PS.ext fun k => by
  rw [co_mono, co_mono]
  by_cases c : p ≤ k
  · rw [if_pos c, if_pos (by omega), co_mono, if_pos (by omega), show k - (p - 1) - 1 = k - p by omega]
  · rw [if_neg c]
    by_cases c2 : p - 1 ≤ k
    · rw [if_pos c2, co_mono, if_neg (by omega)]
    · rw [if_neg c2]
theorem mono_zero (f : PS) : mono 0 * f = f := PS.ext fun k => by rw [co_mono, if_pos (Nat.zero_le _), Nat.sub_zero]
theorem d_l_share (args : List D) (st : Stt) (Kf : Sl → Stt → Prop) (hl : args.length = 2) (q : c_l_share args st Kf) : b_l_share (ends Kf) (startD 4 args, st) := by
  obtain ⟨b, l, c, m, s, t, rfl, h1, h2, tm, hm, cl, cm, hb, q⟩ := q
  have m1 := len_pos hm
  have m0 := last_ne tm hm
  unfold b_l_share
  walk_at "dn"
  refine ⟨by decide, ?_⟩
  refine while_of (fun n ρ => ∃ (F Q : List Rat) (x y : Option Sl), ρ = ([some (.v (rD b l)), some (.v (rD c m)), some (.own (nqs Q)), some (.own (nqs F)), x, y], st) ∧ F.length ≤ n ∧ n ≤ l.length ∧ CD (s + (l.length - F.length) * (t + 1)) F ∧ F.length ≤ l.length ∧ Q.length + F.length = l.length ∧ ps l = mono (F.length + 1 - m.length) * ps Q.reverse * ps m + ps F) l.length ⟨l, [], none, none, rfl, Nat.le_refl _, Nat.le_refl _, cl.mono (by omega), Nat.le_refl _, by simp, by rw [List.reverse_nil, ps_nil]; generalize ps m = a; generalize ps l = b; generalize mono _ = d; grind⟩ ?_
  rintro n ρ ⟨F, Q, x, y, rfl, hn, hn2, cF, lF, lQ, e⟩
  walk_at "dn"
  refine ⟨fun h => ?_, fun h => ?_⟩
  · have f1 : 1 ≤ F.length := by omega
    have ea := atI_negN (l := F) (k := 0) (by omega)
    rw [show (-(1 + ((0 : Nat) : Int))) = (-1 : Int) by omega] at ea
    rw [ea, show F.length - (0 + 1) = F.length - 1 by omega]
    show fIx (rD c m) (.int (-1)) _
    rw [fIx_last m1]
    have nb : s + (l.length - F.length) * (t + 1) + (t + 1) + 2 * t ≤ 67000000 := by
      have e1 : (l.length - F.length) * (t + 1) + (t + 1) = (l.length - F.length + 1) * (t + 1) := by rw [Nat.add_mul, Nat.one_mul]
      have e2 : (l.length - F.length + 1) * (t + 1) ≤ howN l m * (t + 1) := Nat.mul_le_mul_right _ (by unfold howN; omega)
      omega
    have bs := BQ.div m0 (cF.at (F.length - 1)) (cm.at (m.length - 1))
    walk_at "dn"
    refine ⟨m0, (cF.at _).mono (by omega), (cm.at _).mono (by omega), by omega, by omega, ?_⟩
    generalize hs : F.getD (F.length - 1) 0 / m.getD (m.length - 1) 0 = sh at *
    rw [show ((m.length : Int) + 1 - 1).toNat = m.length by omega, nqs_one, nqs_app]
    refine for_rng_ix (fun j ρ => ∃ y, ρ = ([some (.v (rD b l)), some (.v (rD c m)), some (.own (nqs (Q ++ [sh]))), some (.own (nqs (stG F m sh j))), some (.v (nq sh)), y], st)) ?_ ?_ _ ⟨y, by rw [stG_zero]⟩
    · rintro ρ ⟨y, rfl⟩
      walk_at "dn"
      rw [pop_last]
      have l0 : (stG F m sh m.length).getD ((stG F m sh m.length).length - 1) 0 = 0 := by
        rw [stG_len, ← hs]; exact stG_last m1 (by omega) m0
      have cG : CD (s + (l.length - F.length) * (t + 1) + t + 1) (stG F m sh m.length) := by rw [← hs]; exact cF.stG cm m0
      have eG : ps (stG F m sh m.length).dropLast = ps (stG F m sh m.length) := ps_same (drop_same l0)
      have lG : (stG F m sh m.length).dropLast.length = F.length - 1 := by rw [List.length_dropLast, stG_len]
      refine ⟨fun z => ?_, n - 1, by omega, _, Q ++ [sh], _, _, rfl, by omega, by omega, ?_, by omega, by rw [lG, List.length_append, List.length_singleton]; omega, ?_⟩
      · have := congrArg List.length z
        rw [nqs_len, stG_len] at this
        exact absurd this (by show F.length ≠ 0; omega)
      · refine (cG.same fun i => (drop_same l0 i).symm).mono ?_
        rw [lG]
        have e1 : (l.length - F.length) * (t + 1) + (t + 1) = (l.length - F.length + 1) * (t + 1) := by rw [Nat.add_mul, Nat.one_mul]
        have e2 : (l.length - F.length + 1) * (t + 1) ≤ (l.length - (F.length - 1)) * (t + 1) := Nat.mul_le_mul_right _ (by omega)
        omega
      · rw [eG, ps_stG (by omega), List.reverse_append, List.reverse_cons, List.reverse_nil, List.nil_append, List.singleton_append, ps_cons, e, lG, mono_comp (F.length + 1 - m.length) (by omega), show F.length + 1 - m.length - 1 = F.length - m.length by omega, show F.length - 1 + 1 - m.length = F.length - m.length by omega]
        generalize ps Q.reverse = a; generalize ps m = b; generalize ps F = c; generalize PS.C sh = u; generalize mono (F.length - m.length) = v; generalize mono 1 = w
        grind
    rintro j ρ nx hj ⟨y, rfl⟩ k
    walk_at "dn"
    have gj : (stG F m sh j).getD (F.length - (j + 1)) 0 = F.getD (F.length - (j + 1)) 0 := by rw [stG_getD (by omega), if_neg (by omega)]
    have ea2 := atI_negN (l := stG F m sh j) (k := j) (by rw [stG_len]; omega)
    rw [stG_len, gj] at ea2
    rw [ea2]
    show fIx (rD c m) _ _
    rw [fIx_negN hj]
    walk_at "dn"
    rw [stG_len, ixN_neg (show j < F.length by omega)]
    refine ⟨bs.mono (by omega), (cm.at _).mono (by omega), (cF.at _).mono (by omega), (bs.mul (cm.at _)).mono (by omega), ?_⟩
    show nx _
    rw [nqs_set]
    refine k _ ⟨some (.v (.int (1 + (j : Nat)))), ?_⟩
    rcases stG_set (F := F) (m := m) (s := sh) (k := j) (by omega) with w | w
    · rw [← w]
    · omega
  · have w := part_told (l := l) (f := trim Q.reverse) (r := trim F) (trim_trim _) (trim_trim _) tm hm (Nat.lt_of_le_of_lt (trim_len _) (by omega)) (by
      rw [ps_trim, ps_trim, e, show F.length + 1 - m.length = 0 by omega, mono_zero])
    rw [w.1] at q
    refine ⟨false, Q.reverse, by show D.lst (nqs Q).reverse = D.lst (nqs Q.reverse); simp [nqs], ?_⟩
    exact q
end DL
namespace DL
open PySem PySem.Spec PyProof.Rows L2
local macro_rules | `(tactic| walk_at "dl") => `(tactic| simp -implicitDefEqProofs only [dSeq, dNext, dIfS, dB, dNot, dAnd, dOr, d2, fLt, fLe, fGt, fGe, fEqI, fNeI, fEqB, fNeB, fEqS, fNeS, fIsN_non, fNotN_non, fIsB, fNotB, fSub, fMul, fDiv, fDivE, fMod, fPow, fI, fI0, asI_int, asB_bl, asT_tup, asL_lst, asQ_tup, asQ_lst, asS_str, as1_one, as2_two, frz_v, frz_own, fAdd_int, fAdd_tup, fAdd_lst, fIx_tup0, fIx_tup1, fIx_lst0, fIx_lst1, fLen_tup, fLen_lst, fInt_bl, fTuple_tup, fTuple_lst, isN_int, isN_tup, isN_lst, isN_bl, isN_str, isN_non, dVar, dC, dNeg, dSet, dSetO, dPar, dAsg, dAug, dRet, dRetO, dRetV, dRetN, dTup, dCons, dNil, dFn, dFnO, lenIs, dCB, fAbs, fMax2, fMin2, dIsi, dAndV, dOrV, dNotV, dIf, dFor, iSeq, iRange1, iRange2, iZip, aName, aTup, aCons, aNil, dLc, dYes, dLitO, noOwn, wipeE, ends, startD, setV, setO, ownAt, asV, dLst, dListO, dLenO, dTupO, dFrz, dApp, dPop, dClear, dSub, dIxO, d2O, fCatO, fRepO, pt_non, isi_non_int, isi_non_bool, isi_non_tuple, isi_non_list, isi_non_str, pt_bl, isi_bl_int, isi_bl_bool, isi_bl_tuple, isi_bl_list, isi_bl_str, pt_int, isi_int_int, isi_int_bool, isi_int_tuple, isi_int_list, isi_int_str, pt_str, isi_str_int, isi_str_bool, isi_str_tuple, isi_str_list, isi_str_str, pt_tup, isi_tup_int, isi_tup_bool, isi_tup_tuple, isi_tup_list, isi_tup_str, pt_lst, isi_lst_int, isi_lst_bool, isi_lst_tuple, isi_lst_list, isi_lst_str, Br_true, Br_false, Br_dec, Br_not, tt_imp, List.map_cons, List.map_nil, List.cons_append, List.nil_append, List.replicate_succ, List.replicate_zero, List.getElem?_cons_zero, List.getElem?_cons_succ, List.set_nil, List.set_cons_zero, List.set_cons_succ, List.length_cons, List.length_nil, Bool.not_true, Bool.not_false, decide_eq_true_eq, not_true_eq_false, not_false_eq_true, true_and, and_true])
local macro_rules | `(tactic| walk_at "d1") => `(tactic| simp -implicitDefEqProofs only [aName, setV, setO, List.set_cons_zero, List.set_cons_succ])
local macro_rules | `(tactic| walk_at "dn") => `(tactic| simp -implicitDefEqProofs only [dCopyO, dForB, lendE, dRevO, dRevL, okD_pt, okD_pl, eqD_pt, eqD_pl, flT_nq, flT_bl, dBorT, aTupQ, dTurn, fIx_nq0, fIx_nq1, asN_nq, num_e, part_e, same_e, nn_e2, over_e, l_over_e, c_plus, c_minus, c_times, c_before, c_l_plus, c_l_minus, c_l_times, num_eq, num_lt0, sub_lt0, due_nq, asR_r, asR_t, asR_l, asQ_r, fLen_r, fTuple_r, pt_r, asT1_t, okD_nq, okD_lst, okD_tup, okD_nil, okD_nilt, eqD_nq, eqD_lst, eqD_tup, eqD_nil, eqD_nilt, nqs_len, dCmpO, eqB, neB, dMeth, dChain, iEnum, iRev, iRange3, as3_three, dBor, dCatO, fl_bl, fEqD, fNeD, c_Exact_nought, c_Exact_one, c_Exact_plus, c_Exact_minus, c_Exact_times, c_Exact_over, c_Exact_is_nought, List.tail_cons, D.ins.injEq, exists_eq', exists_and_left, and_true, true_and, dSl, dPn, dPs, fSl_lst, fSl_tup, dSeq, dNext, dIfS, dB, dNot, dAnd, dOr, d2, fLt, fLe, fGt, fGe, fEqI, fNeI, fEqB, fNeB, fEqS, fNeS, fIsN_non, fNotN_non, fIsB, fNotB, fSub, fMul, fDiv, fDivE, fMod, fPow, fI, fI0, asI_int, asB_bl, asT_tup, asL_lst, asQ_tup, asQ_lst, asS_str, as1_one, as2_two, frz_v, frz_own, fAdd_int, fAdd_tup, fAdd_lst, fIx_tup0, fIx_tup1, fIx_lst0, fIx_lst1, fLen_tup, fLen_lst, fInt_bl, fTuple_tup, fTuple_lst, isN_int, isN_tup, isN_lst, isN_bl, isN_str, isN_non, dVar, dC, dNeg, dSet, dSetO, dPar, dAsg, dAug, dRet, dRetO, dRetV, dRetN, dTup, dCons, dNil, dFn, dFnO, lenIs, dCB, fAbs, fMax2, fMin2, dIsi, dAndV, dOrV, dNotV, dIf, dFor, iSeq, iRange1, iRange2, iZip, aName, aTup, aCons, aNil, dLc, dYes, dLitO, noOwn, wipeE, ends, startD, setV, setO, ownAt, asV, dLst, dListO, dLenO, dTupO, dFrz, dApp, dPop, dClear, dSub, dIxO, d2O, fCatO, fRepO, pt_non, isi_non_int, isi_non_bool, isi_non_tuple, isi_non_list, isi_non_str, pt_bl, isi_bl_int, isi_bl_bool, isi_bl_tuple, isi_bl_list, isi_bl_str, pt_int, isi_int_int, isi_int_bool, isi_int_tuple, isi_int_list, isi_int_str, pt_str, isi_str_int, isi_str_bool, isi_str_tuple, isi_str_list, isi_str_str, pt_tup, isi_tup_int, isi_tup_bool, isi_tup_tuple, isi_tup_list, isi_tup_str, pt_lst, isi_lst_int, isi_lst_bool, isi_lst_tuple, isi_lst_list, isi_lst_str, Br_true, Br_false, Br_dec, Br_not, tt_imp, List.map_cons, List.map_nil, List.cons_append, List.nil_append, List.replicate_succ, List.replicate_zero, List.getElem?_cons_zero, List.getElem?_cons_succ, List.set_nil, List.set_cons_zero, List.set_cons_succ, List.length_cons, List.length_nil, Bool.not_true, Bool.not_false, decide_eq_true_eq, not_true_eq_false, not_false_eq_true, true_and, and_true])
/-- a row of n numbers, a list of one's own -/
def c_l_row3 : DFn := drawF 5000 (fun ds => ∃ n, ds = [.stt, .int n] ∧ 1 ≤ n ∧ n ≤ 30) fun ds r => ∃ l : List Rat, r = .own (nqs l) ∧ ∀ n : Int, ds = [.stt, .int n] → (l.length : Int) = n ∧ AllBQ 500 l
def b_l_row3 : DSv := (dSeq (dSet 2 (dFn c_l_take (lenIs 2 (dCons (dVar 0) (dCons (dC (.int 8)) dNil)))))
  (dSeq (dIfS (dB (d2 fLt (dVar 2) (dC (.int 2)))) (dRetO (dLc (iRange1 (dCons (dVar 1) dNil)) (aName 9) dYes (dFn c_l_any (lenIs 2 (dCons (dVar 0) (dCons (dVar 1) dNil)))) [9])) dNext)
  (dSeq (dIfS (dB (d2 fEqI (dVar 2) (dC (.int 2)))) (dSeq (dSet 3 (dFn c_l_take (lenIs 2 (dCons (dVar 0) (dCons (d2 fAdd (dVar 1) (dC (.int 1))) dNil)))))
  (dRetO (d2O fCatO (asV (d2O fRepO (asV (dLst (dCons (dTup (dCons (dC (.int 0)) (dCons (dC (.int 1)) dNil))) dNil))) (dVar 3))) (asV (dLc (iRange1 (dCons (d2 fSub (dVar 1) (dVar 3)) dNil)) (aName 9) dYes (dFn c_l_any (lenIs 2 (dCons (dVar 0) (dCons (dVar 1) dNil)))) [9]))))) dNext)
  (dSeq (dIfS (dB (d2 fEqI (dVar 2) (dC (.int 3)))) (dSeq (dSetO 4 (d2O fRepO (asV (dLst (dCons (dTup (dCons (dC (.int 0)) (dCons (dC (.int 1)) dNil))) dNil))) (dVar 1)))
  (dSeq (dFor (iRange1 (dCons (dFn c_l_take (lenIs 2 (dCons (dVar 0) (dCons (dC (.int 4)) dNil)))) dNil)) (aName 5) (dSub 4 (dFn c_l_small (lenIs 1 (dCons (dVar 0) dNil))) (dFn c_l_take (lenIs 2 (dCons (dVar 0) (dCons (dVar 1) dNil))))))
  (dRetV 4))) dNext)
  (dSeq (dAsg (dFn c_l_two_polys2 (lenIs 3 (dCons (dVar 0) (dCons (dFn c_l_take (lenIs 2 (dCons (dVar 0) (dCons (d2 fAdd (dC (.int 1)) (d2 fDivE (dVar 1) (dC (.int 2)))) dNil)))) (dCons (dFn c_l_take (lenIs 2 (dCons (dVar 0) (dCons (d2 fAdd (dC (.int 1)) (d2 fDivE (dVar 1) (dC (.int 3)))) dNil)))) dNil))))) (aTup 2 (aCons (aName 6) (aCons (aName 7) aNil))))
  (dSeq (dIfS (dB (d2 fGt (dVar 1) (dC (.int 6)))) (dSet 6 (dFn c_l_trimmed (lenIs 1 (dCons (asV (dLc (iSeq (dVar 6)) (aName 10) dYes (dTup (dCons (d2 fSub (d2 fMod (d2 fIx (dVar 10) (dC (.int 0))) (dC (.int 9))) (dC (.int 4))) (dCons (dC (.int 1)) dNil))) [10])) dNil)))) dNext)
  (dSeq (dSetO 4 (dFnO c_l_series (lenIs 3 (dCons (dVar 6) (dCons (dVar 7) (dCons (dVar 1) dNil))))))
  (dSeq (dIfS (dB (d2 fGt (dVar 2) (dC (.int 5)))) (dSeq (dSet 8 (dFn c_l_take (lenIs 2 (dCons (dVar 0) (dCons (dVar 1) dNil)))))
  (dSub 4 (dFn c_l_plus (lenIs 2 (dCons (dIxO 4 (dVar 8)) (dCons (dFn c_l_small (lenIs 1 (dCons (dVar 0) dNil))) dNil)))) (dVar 8))) dNext)
  (dRetV 4)))))))))
theorem d_l_row3 (args : List D) (st : Stt) (Kf : Sl → Stt → Prop) (hl : args.length = 2) (q : c_l_row3 args st Kf) : b_l_row3 (ends Kf) (startD 9 args, st) := by
  obtain ⟨⟨n, rfl, n0, n1⟩, g, q⟩ := q
  have fin : ∀ (r : Sl) (l : List Rat) (st' : Stt), (l.length : Int) = n → AllBQ (500) l → Left 5000 st st' → r = .own (nqs l) → Kf r st' := fun r l st' h1 h2 h3 h4 =>
    q r st' ⟨l, h4, fun n' e => by
      injection e with _ e
      injection e with e _
      injection e with e
      subst e
      exact ⟨h1, h2⟩⟩ h3
  clear q
  have z0 : D.tup [.int 0, .int 1] = nq 0 := rfl
  unfold b_l_row3 c_l_any c_l_small c_l_two_polys2
  walk_at "dn"
  rw [z0]
  refine take_ok g (by omega) (by omega) (by omega) fun w s1 w0 w1 l1 g1 => ?_
  walk_at "dn"
  refine ⟨fun _ => ⟨by omega, by omega, lc_nums (m := 5) (k := 31) (by decide) (fun i st Kd g k => ?_) _ _ [] _ (g1.mono (by omega)) (by simp; omega) AllBQ.nil fun l s2 e2 a2 l2 => ?_⟩, fun _ => ⟨fun _ => ?_, fun _ => ⟨fun _ => ?_, fun _ => ?_⟩⟩⟩
  · walk_at "dn"
    refine draw_ok ⟨_, rfl⟩ g (by omega) fun r s2 ⟨z, er, hz⟩ l2 g2 => ?_
    subst er
    exact k z _ hz l2
  · exact fin _ l s2 (by rw [e2]; simp; omega) (a2.mono (by omega)) ((l1.trans l2).mono (by omega)) rfl
  · refine take_ok g1 (by omega) (by omega) (by omega) fun r s2 r0 r1 l2 g2 => ?_
    walk_at "dn"
    refine ⟨by decide, by decide, by omega, by omega, (show _ ≤ _ by omega), by omega, by omega, lc_nums (m := 5) (k := 31) (by decide) (fun i st Kd g k => ?_) _ _ [] _ (g2.mono (by omega)) (by simp; omega) AllBQ.nil fun l s3 e3 a3 l3 => ?_⟩
    · walk_at "dn"
      refine draw_ok ⟨_, rfl⟩ g (by omega) fun r s2 ⟨z, er, hz⟩ l2 g2 => ?_
      subst er
      exact k z _ hz l2
    rw [rep_one, nqs_rep, nqs_app]
    simp only [List.length_nil, Nat.zero_add] at e3
    refine ⟨by rw [nqs_len, nqs_len]; simp [e3]; omega, fin _ _ s3 (by simp [e3]; omega) ((AllBQ.rep (BQ0 (by omega))).app (a3.mono (by omega))) (((l1.trans l2).trans l3).mono (by omega)) rfl⟩
  · rw [rep_one, nqs_rep]
    refine ⟨by decide, by decide, by omega, by omega, (show _ ≤ _ by omega), take_ok g1 (by omega) (by omega) (by omega) fun r s2 r0 r1 l2 g2 => ?_⟩
    walk_at "dn"
    refine ⟨by omega, by omega, for_range_ind (fun lo m ρ => ∃ (l : List Rat) (x : Option Sl) (s3 : Stt), ρ = ([some (.v .stt), some (.v (.int n)), some (.v (.int w)), none, some (.own (nqs l)), x, none, none, none, none, none], s3) ∧ (l.length : Int) = n ∧ AllBQ 2 l ∧ m ≤ 3 ∧ Good (100 * (m : Int)) s3 ∧ Left (1000 - 100 * (m : Int)) st s3) ?_ ?_ _ _ _ ⟨List.replicate n.toNat 0, none, _, rfl, by simp; omega, AllBQ.rep (BQ0 (by decide)), by omega, g2.mono (by omega), (l1.trans l2).mono (by omega)⟩⟩
    · rintro lo ρ ⟨l, x, s3, rfl, h1, h2, _, _, h3⟩
      exact fin _ l s3 h1 (h2.mono (by omega)) (h3.mono (by omega)) rfl
    rintro lo m ρ ⟨l, x, s3, rfl, h1, h2, h3, g3, l3⟩ ih
    walk_at "dn"
    refine draw_ok rfl (g3.mono (k := 50) (by omega)) (by omega) fun r s4 ⟨y, er, hy, _⟩ l4 g4 => ?_
    subst er
    walk_at "dn"
    refine take_ok (m := 20) (g4.mono (by omega)) (by omega) (by omega) (by omega) fun pl s5 pl0 pl1 l5 g5 => ?_
    walk_at "dn"
    have ei : ixN l.length pl = some pl.toNat := by
      unfold ixN
      rw [if_pos pl0, if_pos (by omega)]
    rw [ei]
    show forD _ _ _ _ _
    rw [nqs_set]
    exact ih _ ⟨_, _, s5, rfl, by simp; omega, h2.set hy, by omega, (g3.left (l4.trans l5)).mono (by omega), (l3.trans (l4.trans l5)).mono (by omega)⟩
  · have dv : ∀ k : Int, 0 < k → 0 ≤ n.fdiv k ∧ n.fdiv k ≤ 30 := fun k hk => by
      rw [Int.fdiv_eq_ediv_of_nonneg _ (by omega)]
      exact ⟨Int.ediv_nonneg (by omega) (by omega), Int.le_trans (Int.ediv_le_self _ (by omega)) n1⟩
    have d2 := dv 2 (by decide)
    have d3 := dv 3 (by decide)
    have tail : ∀ (l : List Rat) (s : Stt), (l.length : Int) = n → AllBQ (400) l → Good 100 s → Left 4000 st s →
        (5 < w → c_l_take [D.stt, D.int n] s fun r st => asI (frz r) fun j => match atI (nqs l) j with
          | some d => drawF 2 (fun ds => ds = [D.stt]) (fun x r => ∃ q, r = Sl.v (nq q) ∧ BQ 2 q ∧ q ≠ 0) [D.stt] st fun r_2 st => nn (fun p q => nq (p + q)) [d, frz r_2] st fun r_3 st => asI (frz r) fun j => match ixN (nqs l).length j with
            | some n => Kf (Sl.own ((nqs l).set n (frz r_3))) st
            | none => False
          | none => False) ∧ (¬5 < w → Kf (Sl.own (nqs l)) s) := fun l s h1 h2 gs ls => by
      refine ⟨fun _ => take_ok gs (by omega) (by omega) (by omega) fun r s2 r0 r1 l2 g2 => ?_, fun _ => fin _ l s h1 (h2.mono (by omega)) (ls.mono (by omega)) rfl⟩
      have ei : ixN l.length r = some r.toNat := by
        unfold ixN
        rw [if_pos r0, if_pos (by omega)]
      show asI (.int r) _
      rw [asI_int, atI_in r0 (by omega)]
      refine draw_ok rfl g2 (by omega) fun x s4 ⟨y, er, hy, _⟩ l4 g4 => ?_
      subst er
      walk_at "dn"
      rw [ei]
      have hb := getD_all h2 (BQ0 (by omega)) r.toNat
      refine ⟨Sq.of hb (by omega), Sq.of hy (by decide), ?_⟩
      show Kf (Sl.own ((nqs l).set _ (nq _))) _
      rw [nqs_set]
      exact fin _ _ s4 (by simpa using h1) ((h2.mono (by omega)).set ((hb.add hy).mono (by omega))) ((ls.trans (l2.trans l4)).mono (by omega)) rfl
    refine ⟨⟨by decide⟩, take_ok g1 (by omega) (by omega) (by omega) fun a s2 a0 a1 l2 g2 => ⟨⟨by decide⟩, ?_⟩⟩
    refine take_ok g2 (by omega) (by omega) (by omega) fun b s3 b0 b1 l3 g3 => ?_
    refine draw_ok ⟨a, b, rfl, a0, by omega, b0, by omega⟩ g3 (by omega) fun r s4 ⟨T, B, er, hT, hB, cT, cB, _, _, hTl⟩ l4 g4 => ?_
    subst er
    walk_at "dn"
    have lB : B.length ≤ 2 ^ 5 := by
      rw [(hTl a b rfl).2]; omega
    have nb : n.toNat ≤ 30 := by omega
    have m30 := Nat.mul_le_mul_right (5 + 5) nb
    have big : 70 + n.toNat * (5 + 5) + 5 ≤ 400 := by omega
    have lT := g4.mono (k := 100) (by omega)
    have lS := (l1.trans l2).trans (l3.trans l4)
    refine ⟨fun _ => lc_map (fun x => (((x.num.fmod 9 - 4 : Int)) : Rat)) T [] _ (fun x hx Kd k => ?_) ?_ ?_, fun _ => ?_⟩
    · walk_at "dn"
      exact ⟨⟨by decide⟩, by decide, k _ rfl⟩
    · have : T.length ≤ 200 := Nat.le_trans (hTl a b rfl).1 (by omega)
      simp; omega
    · refine ⟨false, _, rfl, ?_⟩
      have hT2 : AllBQ 31 (trim (([] : List Rat) ++ T.map fun x => (((x.num.fmod 9 - 4 : Int)) : Rat))) := AllBQ.trim fun x hx => by
        obtain ⟨y, _, rfl⟩ := List.mem_map.mp (by simpa using hx)
        have h1 := (fmod_lt (a := y.num) (b := 9) (by decide))
        have := BQ.int (k := 31) (i := y.num.fmod 9 - 4) (abs_small (by omega) (by decide)) (by decide)
        simpa using this
      have cT2 : CD 70 (trim (([] : List Rat) ++ T.map fun x => (((x.num.fmod 9 - 4 : Int)) : Rat))) := (CD.ints (s := 31) (fun x hx => by
        obtain ⟨y, _, rfl⟩ := List.mem_map.mp (by simpa using hx)
        have h1 := (fmod_lt (a := y.num) (b := 9) (by decide))
        exact ⟨y.num.fmod 9 - 4, abs_small (by omega) (by decide), by simp⟩) (by decide)).trim.mono (by decide)
      have ok := SerOk.cd (n := n.toNat) (c := 5) cT2 cB lB (by omega)
      have hb := (ser_all (n := n.toNat) cT2 cB lB).mono (k := 400) (by omega)
      exact ⟨true, _, true, B, n, rfl, by omega, by omega, ok, tail _ s4 (by rw [serL_len]; omega) hb lT (lS.mono (by omega))⟩
    · have ok := SerOk.cd (n := n.toNat) (c := 5) cT cB lB (by omega)
      have hb := (ser_all (n := n.toNat) cT cB lB).mono (k := 400) (by omega)
      exact ⟨true, T, true, B, n, rfl, by omega, by omega, ok, tail _ s4 (by rw [serL_len]; omega) hb lT (lS.mono (by omega))⟩
/-! ### how far a row agrees -/
def agr : List Rat → List Rat → Nat
  | x :: R, y :: S => if x = y then agr R S + 1 else 0
  | _, _ => 0
theorem agr_le : ∀ R S : List Rat, agr R S ≤ R.length
  | [], _ => Nat.zero_le _
  | _ :: _, [] => Nat.zero_le _
  | x :: R, y :: S => by
    have := agr_le R S
    unfold agr
    by_cases h : x = y
    · rw [if_pos h]; simp; omega
    · rw [if_neg h]; omega
theorem agr_at : ∀ (R S : List Rat) (i : Nat), i < R.length → i < S.length → (∀ j, j < i → R.getD j 0 = S.getD j 0) → R.getD i 0 ≠ S.getD i 0 → agr R S = i
  | [], _, _, h, _, _, _ => by simp at h
  | _ :: _, [], _, _, h, _, _ => by simp at h
  | x :: R, y :: S, 0, _, _, _, hn => by
    have : x ≠ y := hn
    unfold agr
    rw [if_neg this]
  | x :: R, y :: S, i + 1, h1, h2, he, hn => by
    have e0 : x = y := he 0 (Nat.succ_pos _)
    unfold agr
    rw [if_pos e0, agr_at R S i (by simpa using h1) (by simpa using h2) (fun j hj => he (j + 1) (by omega)) hn]
theorem agr_all : ∀ (R S : List Rat), R.length = S.length → (∀ j, j < R.length → R.getD j 0 = S.getD j 0) → agr R S = R.length
  | [], [], _, _ => rfl
  | [], _ :: _, h, _ => by simp at h
  | _ :: _, [], h, _ => by simp at h
  | x :: R, y :: S, h, he => by
    have e0 : x = y := he 0 (by simp)
    unfold agr
    rw [if_pos e0, agr_all R S (by simpa using h) (fun j hj => he (j + 1) (by simpa using hj))]
    rfl
theorem agr_get : ∀ (R S : List Rat) (j : Nat), j < agr R S → R.getD j 0 = S.getD j 0
  | [], _, _, h => by simp [agr] at h
  | _ :: _, [], _, h => by simp [agr] at h
  | x :: R, y :: S, j, h => by
    unfold agr at h
    by_cases e : x = y
    · rw [if_pos e] at h
      cases j with
      | zero => exact e
      | succ j => exact agr_get R S j (by omega)
    · rw [if_neg e] at h; omega
theorem pairs_nqs (R S : List Rat) : pairsD (nqs R) (nqs S) = (R.zip S).map fun p => D.tup [nq p.1, nq p.2] := by
  unfold pairsD nqs
  rw [List.zip_map, List.map_map]
  rfl
theorem for_pair_ix {t : DGv} {body : DSv} {B : DEnds} {R S : List Rat} (hl : R.length = S.length) (W : Nat → En → Prop) (hn : ∀ ρ, W R.length ρ → B.nx ρ)
    (hc : ∀ (i : Nat) ρ (nx : En → Prop), i < R.length → W i ρ → (∀ ρ', W (i + 1) ρ' → nx ρ') → t (.tup [.int (i : Nat), .tup [nq (R.getD i 0), nq (S.getD i 0)]]) ρ fun ρ1 => body { B with nx := nx, ct := nx, bk := B.nx } ρ1) :
    ∀ ρ, W 0 ρ → forD t body B (numD (pairsD (nqs R) (nqs S))) ρ := for_list_ix W (fun ρ w => hn ρ (by
    rw [numD_len, pairsD_len, nqs_len, nqs_len, ← hl, Nat.min_self] at w; exact w)) fun i d ρ nx e w k => by
  obtain ⟨y, e1, rfl⟩ := numD_get e
  obtain ⟨a, b, f1, f2, rfl⟩ := pairsD_get e1
  rw [nqs_get] at f1 f2
  cases g1 : R[i]? with
  | none => rw [g1] at f1; cases f1
  | some p =>
  cases g2 : S[i]? with
  | none => rw [g2] at f2; cases f2
  | some q =>
    rw [g1] at f1; rw [g2] at f2
    have a1 : nq p = a := by simpa using f1
    have b1 : nq q = b := by simpa using f2
    subst a1 b1
    have hi := (List.getElem?_eq_some_iff.mp g1).1
    have e3 : R.getD i 0 = p := by rw [List.getD_eq_getElem?_getD, g1]; rfl
    have e4 : S.getD i 0 = q := by rw [List.getD_eq_getElem?_getD, g2]; rfl
    have := hc i ρ nx hi w k
    rw [e3, e4] at this
    exact this
def c_agrees_in : DFn := fun ds st Kf => ∃ b R z a T b' B, ds = [.ins 0 none, rD b R, pD z (rD a T) (rD b' B)] ∧ R.length ≤ 1000 ∧ B.length ≤ 1000 ∧ RowOk T B R.length ∧ Kf (.v (.int (agr R (serL T B R.length)))) st
def c_agrees : DFn := fun ds st Kf => ∃ b R z a T b' B, ds = [rD b R, pD z (rD a T) (rD b' B)] ∧ R.length ≤ 1000 ∧ B.length ≤ 1000 ∧ RowOk T B R.length ∧ Kf (.v (.int (agr R (serL T B R.length)))) st
def c_l_agreed : DFn := fun ds st Kf => ∃ b R z a T b' B, ds = [rD b R, pD z (rD a T) (rD b' B)] ∧ R.length ≤ 1000 ∧ SerOk T B R.length ∧ Kf (.v (.int (agr R (serL T B R.length)))) st
def b_agrees_in : DSv := (dSeq (dFor (iEnumZ (dCons (dVar 1) (dCons (dFn c_row_in (lenIs 3 (dCons (dVar 0) (dCons (dVar 2) (dCons (dCB fLen (dCons (dVar 1) dNil)) dNil))))) dNil))) (aTup 2 (aCons (aName 3) (aCons (aTup 2 (aCons (aName 4) (aCons (aName 5) aNil))) aNil))) (dIfS (dB (d2 fNeD (dVar 4) (dVar 5))) (dRet (dVar 3)) dNext))
  (dRet (dCB fLen (dCons (dVar 1) dNil))))
def b_agrees : DSv := (dRet (dFn c_agrees_in (lenIs 3 (dCons (dC (.ins 0 none)) (dCons (dVar 0) (dCons (dVar 1) dNil))))))
def b_l_agreed : DSv := (dSeq (dSet 2 (dFn c_l_series (lenIs 3 (dCons (d2 fIx (dVar 1) (dC (.int 0))) (dCons (d2 fIx (dVar 1) (dC (.int 1))) (dCons (dCB fLen (dCons (dVar 0) dNil)) dNil))))))
  (dSeq (dSet 3 (dC (.int 0)))
  (dSeq (dWhile (dAnd (dB (d2 fLt (dVar 3) (dCB fLen (dCons (dVar 0) dNil)))) (dB (d2 fEqD (d2 fIx (dVar 0) (dVar 3)) (d2 fIx (dVar 2) (dVar 3))))) (dSet 3 (d2 fAdd (dVar 3) (dC (.int 1)))))
  (dRet (dVar 3)))))
theorem d_agrees_in (args : List D) (st : Stt) (Kf : Sl → Stt → Prop) (hl : args.length = 3) (q : c_agrees_in args st Kf) : b_agrees_in (ends Kf) (startD 3 args, st) := by
  obtain ⟨b, R, z, a, T, b', B, rfl, h1, h2, ok, q⟩ := q
  unfold b_agrees_in iEnumZ
  walk_at "dn"
  refine ⟨z, a, T, b', B, (R.length : Int), rfl, by omega, by omega, h2, by simpa using ok, ?_⟩
  walk_at "dn"
  rw [show ((R.length : Int)).toNat = R.length by omega]
  refine for_pair_ix (by rw [serL_len]) (fun i ρ => ∃ (x y w : Option Sl), ρ = ([some (.v (.ins 0 none)), some (.v (rD b R)), some (.v (pD z (rD a T) (rD b' B))), x, y, w], st) ∧ ∀ j, j < i → R.getD j 0 = (serL T B R.length).getD j 0) ?_ ?_ _ ⟨none, none, none, rfl, fun j hj => by omega⟩
  · rintro ρ ⟨x, y, w, rfl, he⟩
    walk_at "dn"
    rw [agr_all R _ (by rw [serL_len]) he] at q
    exact q
  · rintro i ρ nx hi ⟨x, y, w, rfl, he⟩ k
    walk_at "dn"
    refine ⟨fun h => ?_, fun hne => ?_⟩
    rotate_left 1
    · rw [agr_at R _ i hi (by rw [serL_len]; exact hi) he hne] at q
      exact q
    · refine k _ ⟨_, _, _, rfl, fun j hj => ?_⟩
      by_cases hj2 : j = i
      · rw [hj2]; exact h
      · exact he j (by omega)
theorem d_agrees (args : List D) (st : Stt) (Kf : Sl → Stt → Prop) (hl : args.length = 2) (q : c_agrees args st Kf) : b_agrees (ends Kf) (startD 0 args, st) := by
  obtain ⟨b, R, z, a, T, b', B, rfl, q⟩ := q
  unfold b_agrees
  walk_at "dn"
  exact ⟨b, R, z, a, T, b', B, rfl, q⟩
theorem d_l_agreed (args : List D) (st : Stt) (Kf : Sl → Stt → Prop) (hl : args.length = 2) (q : c_l_agreed args st Kf) : b_l_agreed (ends Kf) (startD 2 args, st) := by
  obtain ⟨b, R, z, a, T, b', B, rfl, h1, ok, q⟩ := q
  unfold b_l_agreed
  walk_at "dn"
  simp only [fIx_p0, fIx_p1]
  refine ⟨a, T, b', B, (R.length : Int), rfl, by omega, by omega, by simpa using ok, ?_⟩
  walk_at "dn"
  rw [show ((R.length : Int)).toNat = R.length by omega]
  generalize hS : serL T B R.length = S at *
  have lS : S.length = R.length := by rw [← hS, serL_len]
  refine while_of (fun n ρ => ∃ i : Nat, ρ = ([some (.v (rD b R)), some (.v (pD z (rD a T) (rD b' B))), some (.v (.lst (nqs S))), some (.v (.int (i : Nat)))], st) ∧ n = R.length - i ∧ i ≤ R.length ∧ ∀ j, j < i → R.getD j 0 = S.getD j 0) (R.length - 0) ⟨0, rfl, rfl, Nat.zero_le _, fun j hj => by omega⟩ ?_
  rintro n ρ ⟨i, rfl, rfl, hi, he⟩
  walk_at "dn"
  refine ⟨fun h => ?_, fun h => ?_⟩
  · rw [fIx_in (b := b) (by omega) (by omega), fIx_inl (b := b) (by omega) (by omega), eqD_nq, show ((i : Nat) : Int).toNat = i by omega]
    refine ⟨okD_nq _, okD_nq _, ?_⟩
    rw [Br_dec]
    refine ⟨fun e => ⟨R.length - (i + 1), by omega, i + 1, rfl, rfl, by omega, fun j hj => ?_⟩, fun hne => ?_⟩
    · by_cases hj2 : j = i
      · rw [hj2]; exact e
      · exact he j (by omega)
    · rw [agr_at R S i (by omega) (by omega) he hne] at q
      exact q
  · have : i = R.length := by omega
    subst this
    rw [agr_all R S lS.symm he] at q
    exact q
end DL
namespace DL
open PySem PySem.Spec PyProof.Rows L2
/-! ### sizes of products by common denominators -/
theorem ProdOk.cd {l m : List Rat} {s t c : Nat} (hl : CD s l) (hm : CD t m) (hc : l.length ≤ 2 ^ c) (h : s + t + c + 1 ≤ 67000000) : ProdOk l m where
  sl := hl.all.sq (by omega)
  sm := hm.all.sq (by omega)
  mul := fun i j => ((hl.at i).mul (hm.at j)).mono (by omega)
  cv := fun i k hi => by
    obtain ⟨d, A, hl⟩ := hl
    obtain ⟨e, M, hm⟩ := hm
    have h := sm_frac (n := i) (f := fun j => if j < k + 1 then l.getD j 0 * m.getD (k - j) 0 else 0) (d := d * e) (s := s + t) fun j => by
      by_cases hj : j < k + 1
      · refine ⟨A j * M (k - j), mul_abs (hl.aa j) (hm.aa _), ?_⟩
        show (if j < k + 1 then _ else _) * _ = _
        rw [if_pos hj, Rat.intCast_mul, Rat.intCast_mul, ← hl.e j, ← hm.e (k - j)]
        grind
      · refine ⟨0, Nat.two_pow_pos _, ?_⟩
        show (if j < k + 1 then _ else _) * _ = _
        rw [if_neg hj]; exact Rat.zero_mul _
    obtain ⟨a, ha, ea⟩ := h
    rw [← cv_sm] at ea
    refine (BQ.frac (s := s + t + c + 1) (Int.mul_ne_zero hl.d0 hm.d0) (abs_up (mul_abs hl.dd hm.dd) (by omega)) ?_ ea).mono (by omega)
    have h1 := Nat.mul_le_mul_right (2 ^ (s + t)) (Nat.le_trans hi hc)
    rw [← Nat.pow_add] at h1
    have h2 : 2 ^ (s + t + c + 1) = 2 * 2 ^ (c + (s + t)) := by rw [Nat.pow_succ, Nat.mul_comm]; congr 2; omega
    have := Nat.two_pow_pos (c + (s + t))
    omega
/-! ### comprehensions, place by place -/
theorem lc_ix {t : DGv} {te : DEv} {env : List (Option Sl)} {K : List D → Stt → Prop} (f : Nat → D) :
    ∀ (l acc : List D) (lo : Nat) (st : Stt), (∀ i d, l[i]? = some d → ∀ (Kd : D → En → Prop), (∀ ρ : En, ρ.2 = st → Kd (f (lo + i)) ρ) → t d (env, st) fun ρ1 => te ρ1 Kd) → acc.length + l.length ≤ 1000000 → K (acc ++ (List.range' lo l.length).map f) st → lcD t dYes te env l acc st K
  | [], acc, lo, st, h, hl, fin => by
    rw [List.length_nil, List.range'_zero, List.map_nil, List.append_nil] at fin
    exact fin
  | d :: l, acc, lo, st, h, hl, fin => by
    unfold lcD
    simp only [List.length_cons] at hl
    have h0 := h 0 d rfl (fun x ρ3 => acc.length < 1000000 ∧ lcD t dYes te env l (acc ++ [x]) ρ3.2 K) fun ρ e => ⟨by omega, by
      rw [e]
      refine lc_ix f l (acc ++ [f (lo + 0)]) (lo + 1) st (fun i d hd Kd k => h (i + 1) d hd Kd (by rw [show lo + (i + 1) = lo + 1 + i by omega]; exact k)) (by simp; omega) ?_
      rw [List.length_cons, List.range'_succ, List.map_cons] at fin
      simpa using fin⟩
    refine t_mono' h0
where
  t_mono' {t : DGv} {te : DEv} {env : List (Option Sl)} {K : List D → Stt → Prop} {d : D} {l acc : List D} {st : Stt} (h : t d (env, st) fun ρ1 => te ρ1 fun x ρ3 => acc.length < 1000000 ∧ lcD t dYes te env l (acc ++ [x]) ρ3.2 K) :
    t d (env, st) fun ρ1 => dYes ρ1 fun b ρ2 => Br b (te ρ2 fun x ρ3 => acc.length < 1000000 ∧ lcD t dYes te env l (acc ++ [x]) ρ3.2 K) (lcD t dYes te env l acc ρ2.2 K) := by
    have e : (fun ρ1 => dYes ρ1 fun b ρ2 => Br b (te ρ2 fun x ρ3 => acc.length < 1000000 ∧ lcD t dYes te env l (acc ++ [x]) ρ3.2 K) (lcD t dYes te env l acc ρ2.2 K)) = fun ρ1 => te ρ1 fun x ρ3 => acc.length < 1000000 ∧ lcD t dYes te env l (acc ++ [x]) ρ3.2 K := by
      funext ρ1
      show Br true _ _ = _
      rw [Br_true]
    rw [e]; exact h
theorem pairs_get {R S : List Rat} {i : Nat} {d : D} (h : (pairsD (nqs R) (nqs S))[i]? = some d) : i < R.length ∧ i < S.length ∧ d = .tup [nq (R.getD i 0), nq (S.getD i 0)] := by
  obtain ⟨x, y, h1, h2, rfl⟩ := pairsD_get h
  rw [nqs_get] at h1 h2
  cases e1 : R[i]? with
  | none => rw [e1] at h1; cases h1
  | some a =>
    cases e2 : S[i]? with
    | none => rw [e2] at h2; cases h2
    | some b =>
      rw [e1] at h1; rw [e2] at h2
      cases h1; cases h2
      obtain ⟨l1, _⟩ := List.getElem?_eq_some_iff.mp e1
      obtain ⟨l2, _⟩ := List.getElem?_eq_some_iff.mp e2
      exact ⟨l1, l2, by rw [List.getD_eq_getElem?_getD, List.getD_eq_getElem?_getD, e1, e2]; rfl⟩
theorem map_nq {f : Nat → Rat} {l : List Nat} : (l.map fun i => nq (f i)) = nqs (l.map f) := by unfold nqs; rw [List.map_map]; rfl
theorem fIx_lst2 {a b c : D} {l : List D} {P : D → Prop} : fIx (.lst (a :: b :: c :: l)) (.int 2) P = P c := by
  rw [fIx_lst, show atI (a :: b :: c :: l) 2 = some c from atI_nat (j := 2) rfl]
theorem lf_nqs : ∀ l : List Rat, lfL (nqs l) = true
  | [] => rfl
  | a :: l => by
    show (lfD (nq a) && lfL (nqs l)) = true
    rw [lf_nqs l]; rfl
theorem lf_tn (l : List Rat) : lfD (.tup (nqs l)) = true := by unfold lfD; exact lf_nqs l
theorem lf_pt (a b : List Rat) : lfD (.tup [.tup (nqs a), .tup (nqs b)]) = true := by
  show (lfD (.tup (nqs a)) && (lfD (.tup (nqs b)) && true)) = true
  rw [lf_tn, lf_tn]; rfl
theorem keep_tn (l : List Rat) : keepS (some (.v (.tup (nqs l)))) = some (.v (.tup (nqs l))) := if_pos (lf_tn l)
theorem keep_pt (a b : List Rat) : keepS (some (.v (.tup [.tup (nqs a), .tup (nqs b)]))) = some (.v (.tup [.tup (nqs a), .tup (nqs b)])) := if_pos (lf_pt a b)
theorem keep_on (l : List Rat) : keepS (some (.own (nqs l))) = some (.own (nqs l)) := if_pos (lf_nqs l)
theorem keep_int (i : Int) : keepS (some (.v (.int i))) = some (.v (.int i)) := rfl
theorem keep_stt : keepS (some (.v .stt)) = some (.v .stt) := rfl
theorem keep_non : keepS none = none := rfl
theorem keep_pin (v : V) : keepS (some (.pin v)) = some (.pin v) := rfl
theorem lcD_nil {t : DGv} {tt : DTv} {te : DEv} {env : List (Option Sl)} {acc : List D} {st : Stt} {K : List D → Stt → Prop} : lcD t tt te env [] acc st K = K acc st := rfl
theorem lcD_cons {t : DGv} {tt : DTv} {te : DEv} {env : List (Option Sl)} {d : D} {l acc : List D} {st : Stt} {K : List D → Stt → Prop} : lcD t tt te env (d :: l) acc st K = t d (env, st) fun ρ1 => tt ρ1 fun b ρ2 => Br b (te ρ2 fun x ρ3 => acc.length < 1000000 ∧ lcD t tt te env l (acc ++ [x]) ρ3.2 K) (lcD t tt te env l acc ρ2.2 K) := rfl
end DL
namespace DL
open PySem PySem.Spec PyProof.Rows L2
local macro_rules | `(tactic| walk_at "dl") => `(tactic| simp -implicitDefEqProofs only [dSeq, dNext, dIfS, dB, dNot, dAnd, dOr, d2, fLt, fLe, fGt, fGe, fEqI, fNeI, fEqB, fNeB, fEqS, fNeS, fIsN_non, fNotN_non, fIsB, fNotB, fSub, fMul, fDiv, fDivE, fMod, fPow, fI, fI0, asI_int, asB_bl, asT_tup, asL_lst, asQ_tup, asQ_lst, asS_str, as1_one, as2_two, frz_v, frz_own, fAdd_int, fAdd_tup, fAdd_lst, fIx_tup0, fIx_tup1, fIx_lst0, fIx_lst1, fLen_tup, fLen_lst, fInt_bl, fTuple_tup, fTuple_lst, isN_int, isN_tup, isN_lst, isN_bl, isN_str, isN_non, dVar, dC, dNeg, dSet, dSetO, dPar, dAsg, dAug, dRet, dRetO, dRetV, dRetN, dTup, dCons, dNil, dFn, dFnO, lenIs, dCB, fAbs, fMax2, fMin2, dIsi, dAndV, dOrV, dNotV, dIf, dFor, iSeq, iRange1, iRange2, iZip, aName, aTup, aCons, aNil, dLc, dYes, dLitO, noOwn, wipeE, ends, startD, setV, setO, ownAt, asV, dLst, dListO, dLenO, dTupO, dFrz, dApp, dPop, dClear, dSub, dIxO, d2O, fCatO, fRepO, pt_non, isi_non_int, isi_non_bool, isi_non_tuple, isi_non_list, isi_non_str, pt_bl, isi_bl_int, isi_bl_bool, isi_bl_tuple, isi_bl_list, isi_bl_str, pt_int, isi_int_int, isi_int_bool, isi_int_tuple, isi_int_list, isi_int_str, pt_str, isi_str_int, isi_str_bool, isi_str_tuple, isi_str_list, isi_str_str, pt_tup, isi_tup_int, isi_tup_bool, isi_tup_tuple, isi_tup_list, isi_tup_str, pt_lst, isi_lst_int, isi_lst_bool, isi_lst_tuple, isi_lst_list, isi_lst_str, Br_true, Br_false, Br_dec, Br_not, tt_imp, List.map_cons, List.map_nil, List.cons_append, List.nil_append, List.replicate_succ, List.replicate_zero, List.getElem?_cons_zero, List.getElem?_cons_succ, List.set_nil, List.set_cons_zero, List.set_cons_succ, List.length_cons, List.length_nil, Bool.not_true, Bool.not_false, decide_eq_true_eq, not_true_eq_false, not_false_eq_true, true_and, and_true])
local macro_rules | `(tactic| walk_at "d1") => `(tactic| simp -implicitDefEqProofs only [aName, setV, setO, List.set_cons_zero, List.set_cons_succ])
local macro_rules | `(tactic| walk_at "dn") => `(tactic| simp -implicitDefEqProofs only [dCopyO, dFz, dSlO, dBorL, dForB, lendE, dForB1, lendE1, valAt, dRevO, dRevL, okD_pt, okD_pl, eqD_pt, eqD_pl, flT_nq, flT_bl, dBorT, aTupQ, dTurn, fIx_nq0, fIx_nq1, asN_nq, num_e, part_e, same_e, nn_e2, over_e, l_over_e, c_plus, c_minus, c_times, c_before, c_l_plus, c_l_minus, c_l_times, num_eq, num_lt0, sub_lt0, due_nq, asR_r, asR_t, asR_l, asQ_r, fLen_r, fTuple_r, pt_r, asT1_t, okD_nq, okD_lst, okD_tup, okD_nil, okD_nilt, eqD_nq, eqD_lst, eqD_tup, eqD_nil, eqD_nilt, nqs_len, dCmpO, eqB, neB, dMeth, dChain, iEnum, iRev, iRange3, as3_three, dBor, dCatO, fl_bl, fEqD, fNeD, c_Exact_nought, c_Exact_one, c_Exact_plus, c_Exact_minus, c_Exact_times, c_Exact_over, c_Exact_is_nought, List.tail_cons, D.ins.injEq, exists_eq', exists_and_left, and_true, true_and, dSl, dPn, dPs, fSl_lst, fSl_tup, dRevS, fInS, dSeq, dNext, dIfS, dB, dNot, dAnd, dOr, d2, fLt, fLe, fGt, fGe, fEqI, fNeI, fEqB, fNeB, fEqS, fNeS, fIsN_non, fNotN_non, fIsB, fNotB, fSub, fMul, fDiv, fDivE, fMod, fPow, fI, fI0, asI_int, asB_bl, asT_tup, asL_lst, asQ_tup, asQ_lst, asS_str, as1_one, as2_two, frz_v, frz_own, fAdd_int, fAdd_tup, fAdd_lst, fIx_tup0, fIx_tup1, fIx_lst0, fIx_lst1, fLen_tup, fLen_lst, fInt_bl, fTuple_tup, fTuple_lst, isN_int, isN_tup, isN_lst, isN_bl, isN_str, isN_non, dVar, dC, dNeg, dSet, dSetO, dPar, dAsg, dAug, dRet, dRetO, dRetV, dRetN, dTup, dCons, dNil, dFn, dFnO, lenIs, dCB, fAbs, fMax2, fMin2, dIsi, dAndV, dOrV, dNotV, dIf, dFor, iSeq, iRange1, iRange2, iZip, aName, aTup, aCons, aNil, dLc, dYes, dLitO, noOwn, wipeE, ends, startD, setV, setO, ownAt, asV, dLst, dListO, dLenO, dTupO, dFrz, dApp, dPop, dClear, dSub, dIxO, d2O, fCatO, fRepO, pt_non, isi_non_int, isi_non_bool, isi_non_tuple, isi_non_list, isi_non_str, pt_bl, isi_bl_int, isi_bl_bool, isi_bl_tuple, isi_bl_list, isi_bl_str, pt_int, isi_int_int, isi_int_bool, isi_int_tuple, isi_int_list, isi_int_str, pt_str, isi_str_int, isi_str_bool, isi_str_tuple, isi_str_list, isi_str_str, pt_tup, isi_tup_int, isi_tup_bool, isi_tup_tuple, isi_tup_list, isi_tup_str, pt_lst, isi_lst_int, isi_lst_bool, isi_lst_tuple, isi_lst_list, isi_lst_str, Br_true, Br_false, Br_dec, Br_not, tt_imp, List.map_cons, List.map_nil, List.cons_append, List.nil_append, List.replicate_succ, List.replicate_zero, List.getElem?_cons_zero, List.getElem?_cons_succ, List.set_nil, List.set_cons_zero, List.set_cons_succ, List.length_cons, List.length_nil, Bool.not_true, Bool.not_false, decide_eq_true_eq, not_true_eq_false, not_false_eq_true, true_and, and_true])
local macro_rules | `(tactic| walk_at "d1") => `(tactic| simp -implicitDefEqProofs only [aName, aTup, aCons, aNil, setV, List.set_cons_zero, List.set_cons_succ, dSeq, dNext, dIfS, dB, dNot, dAnd, dOr, d2, fLt, fLe, fGt, fGe, fEqI, fNeI, fEqB, fNeB, fEqS, fNeS, fIsN_non, fNotN_non, fIsB, fNotB, fSub, fMul, fDiv, fDivE, fMod, fPow, fI, fI0, asI_int, asB_bl, asT_tup, asL_lst, asQ_tup, asQ_lst, asS_str, as1_one, as2_two, frz_v, frz_own, fAdd_int, fAdd_tup, fAdd_lst, fIx_tup0, fIx_tup1, fIx_lst0, fIx_lst1, fLen_tup, fLen_lst, fInt_bl, fTuple_tup, fTuple_lst, isN_int, isN_tup, isN_lst, isN_bl, isN_str, isN_non, dVar, dC, dNeg, dSet, dSetO, dPar, dAsg, dAug, dRet, dRetO, dRetV, dRetN, dTup, dCons, dNil, dFn, dFnO, lenIs, dCB, fAbs, fMax2, fMin2, dIsi, dAndV, dOrV, dNotV, dIf, dFor, iSeq, iRange1, iRange2, iZip, aName, aTup, aCons, aNil, dLc, dYes, dLitO, noOwn, wipeE, ends, startD, setV, setO, ownAt, asV, dLst, dListO, dLenO, dTupO, dFrz, dApp, dPop, dClear, dSub, dIxO, d2O, fCatO, fRepO, pt_non, isi_non_int, isi_non_bool, isi_non_tuple, isi_non_list, isi_non_str, pt_bl, isi_bl_int, isi_bl_bool, isi_bl_tuple, isi_bl_list, isi_bl_str, pt_int, isi_int_int, isi_int_bool, isi_int_tuple, isi_int_list, isi_int_str, pt_str, isi_str_int, isi_str_bool, isi_str_tuple, isi_str_list, isi_str_str, pt_tup, isi_tup_int, isi_tup_bool, isi_tup_tuple, isi_tup_list, isi_tup_str, pt_lst, isi_lst_int, isi_lst_bool, isi_lst_tuple, isi_lst_list, isi_lst_str, Br_true, Br_false, Br_dec, Br_not, tt_imp, List.map_cons, List.map_nil, List.cons_append, List.nil_append, List.replicate_succ, List.replicate_zero, List.getElem?_cons_zero, List.getElem?_cons_succ, List.set_nil, List.set_cons_zero, List.set_cons_succ, List.length_cons, List.length_nil, Bool.not_true, Bool.not_false, decide_eq_true_eq, not_true_eq_false, not_false_eq_true, true_and, and_true])
/-! ### values of quotients -/
structure VaOk (T B : List Rat) (x : Rat) : Prop where
  lt : T.length ≤ 1000
  lb : B.length ≤ 1000
  t : ValOk x T
  b : ValOk x B
  s : Sq (valH x T / valH x B)
def cx_value : DFX := fun ds st Kf Kx => ∃ z a T b B x, ds = [pD z (rD a T) (rD b B), nq x] ∧ VaOk T B x ∧ (valH x B = 0 → Kx 4 st) ∧ (valH x B ≠ 0 → Kf (.v (nq (valH x T / valH x B))) st)
def bx_value : DXv := (xSeq (xOf (dSet 2 (dFn c_value_at (lenIs 2 (dCons (d2 fIx (dVar 0) (dC (.int 1))) (dCons (dVar 1) dNil))))))
  (xSeq (xIf (dB (d2 fEqD (dVar 2) (dC (.tup [(.int 0), (.int 1)])))) (xRaise 4) (xOf dNext))
  (xOf (dRet (dFn c_over (lenIs 2 (dCons (dFn c_value_at (lenIs 2 (dCons (d2 fIx (dVar 0) (dC (.int 0))) (dCons (dVar 1) dNil)))) (dCons (dVar 2) dNil))))))))
theorem val_sq {x : Rat} {l : List Rat} (h : ValOk x l) : Sq (valH x l) := by
  have := h.val 0
  rwa [List.drop_zero] at this
theorem dx_value (args : List D) (st : Stt) (Kf : Sl → Stt → Prop) (Kx : Nat → Stt → Prop) (hl : args.length = 2) (q : cx_value args st Kf Kx) : bx_value (ends Kf) (fun t ρ => Kx t ρ.2) (startD 1 args, st) := by
  obtain ⟨z, a, T, b, B, x, rfl, ok, q1, q2⟩ := q
  unfold bx_value xSeq xIf xRaise xOf
  walk_at "dn"
  simp only [fIx_p0, fIx_p1]
  refine ⟨b, B, x, rfl, ok.lb, ok.b, ?_⟩
  walk_at "dn"
  rw [show D.tup [D.int 0, D.int 1] = nq 0 from rfl]
  walk_at "dn"
  refine ⟨q1, fun h => ?_⟩
  refine ⟨a, T, x, rfl, ok.lt, ok.t, ?_⟩
  walk_at "dn"
  exact ⟨h, val_sq ok.t, val_sq ok.b, q2 h⟩
def c_value : DFn := fun ds st Kf => ∃ z a T b B x, ds = [pD z (rD a T) (rD b B), nq x] ∧ VaOk T B x ∧ valH x B ≠ 0 ∧ Kf (.v (nq (valH x T / valH x B))) st
def b_value : DSv := (dSeq (dSet 2 (dFn c_value_at (lenIs 2 (dCons (d2 fIx (dVar 0) (dC (.int 1))) (dCons (dVar 1) dNil)))))
  (dSeq (dIfS (dB (d2 fEqD (dVar 2) (dC (.tup [(.int 0), (.int 1)])))) dNever dNext)
  (dRet (dFn c_over (lenIs 2 (dCons (dFn c_value_at (lenIs 2 (dCons (d2 fIx (dVar 0) (dC (.int 0))) (dCons (dVar 1) dNil)))) (dCons (dVar 2) dNil)))))))
theorem d_value (args : List D) (st : Stt) (Kf : Sl → Stt → Prop) (hl : args.length = 2) (q : c_value args st Kf) : b_value (ends Kf) (startD 1 args, st) := by
  obtain ⟨z, a, T, b, B, x, rfl, ok, h, q⟩ := q
  unfold b_value
  walk_at "dn"
  simp only [fIx_p0, fIx_p1]
  refine ⟨b, B, x, rfl, ok.lb, ok.b, ?_⟩
  walk_at "dn"
  rw [show D.tup [D.int 0, D.int 1] = nq 0 from rfl]
  walk_at "dn"
  refine ⟨fun z => absurd z h, fun _ => ?_⟩
  refine ⟨a, T, x, rfl, ok.lt, ok.t, ?_⟩
  walk_at "dn"
  exact ⟨h, val_sq ok.t, val_sq ok.b, q⟩
def c_l_worth : DFn := fun ds st Kf => ∃ b l x, ds = [rD b l, nq x] ∧ l.length ≤ 1000 ∧ ValOk x l ∧ Kf (.v (nq (valH x l))) st
def b_l_worth : DSv := (dSeq (dSet 2 (dTup (dCons (dC (.int 0)) (dCons (dC (.int 1)) dNil))))
  (dSeq (dFor (iSeq (dRevS (asV (dListO (dCons (dVar 0) dNil))))) (aName 3) (dSet 2 (dFn c_l_plus (lenIs 2 (dCons (dFn c_l_times (lenIs 2 (dCons (dVar 2) (dCons (dVar 1) dNil)))) (dCons (dVar 3) dNil))))))
  (dRet (dVar 2))))
theorem d_l_worth (args : List D) (st : Stt) (Kf : Sl → Stt → Prop) (hl : args.length = 2) (q : c_l_worth args st Kf) : b_l_worth (ends Kf) (startD 2 args, st) := by
  obtain ⟨b, l, x, rfl, h1, ok, q⟩ := q
  unfold b_l_worth
  walk_at "dn"
  iterate 4 (try (refine ⟨by decide, ?_⟩))
  rw [nqs_rev, show D.tup [D.int 0, D.int 1] = nq 0 from rfl]
  refine for_nqs_ix (fun i ρ => ∃ y, ρ = ([some (.v (rD b l)), some (.v (nq x)), some (.v (nq (valH x (l.drop (l.length - i))))), y], st)) ?_ ?_ _ ⟨none, by rw [Nat.sub_zero, List.drop_length]; rfl⟩
  · rintro ρ ⟨y, rfl⟩
    rw [List.length_reverse, Nat.sub_self, List.drop_zero]
    exact q
  · rintro i ρ nx hi ⟨y, rfl⟩ k
    rw [List.length_reverse] at hi
    have e : l.reverse.getD i 0 = l.getD (l.length - (i + 1)) 0 := by
      rw [List.getD_eq_getElem?_getD, List.getElem?_reverse hi, List.getD_eq_getElem?_getD]
      congr 2
      omega
    rw [e]
    have s := valH_drop (x := x) (l := l) (i := l.length - (i + 1)) (by omega)
    rw [show l.length - (i + 1) + 1 = l.length - i by omega] at s
    walk_at "dn"
    rw [← s]
    exact ⟨ok.val _, ok.sx, ok.mul _, ok.sl.at _, k _ ⟨some (.v (nq (l.getD (l.length - (i + 1)) 0))), rfl⟩⟩
def c_l_told : DFn := fun ds st Kf => ∃ z a T b B x, ds = [pD z (rD a T) (rD b B), nq x] ∧ VaOk T B x ∧ (valH x B = 0 → Kf (.v (.tup [.non, .str "pole"])) st) ∧ (valH x B ≠ 0 → Kf (.v (.tup [nq (valH x T / valH x B), .str ""])) st)
def b_l_told : DSv := (dSeq (dAsg (dTup (dCons (dC .non) (dCons (dC (.str "")) dNil))) (aTup 2 (aCons (aName 2) (aCons (aName 3) aNil))))
  (dSeq (dTryAs 4 4 (xSet 2 (dxFn cx_value (lenIs 2 (dCons (dVar 0) (dCons (dVar 1) dNil))))) (fun a => (dSeq (dSet 5 (dIsE 4 a false))
  (dSet 3 (dIf (dAnd (dB (dIsE 4 a true)) (dAnd (dB (dIsE 4 a true)) (dNot (dB (dVar 5))))) (dC (.str "pole")) (dC (.str "other")))))))
  (dRet (dTup (dCons (dVar 2) (dCons (dVar 3) dNil))))))
theorem d_l_told (args : List D) (st : Stt) (Kf : Sl → Stt → Prop) (hl : args.length = 2) (q : c_l_told args st Kf) : b_l_told (ends Kf) (startD 4 args, st) := by
  obtain ⟨z, p, T, b, B, x, rfl, ok, q1, q2⟩ := q
  unfold b_l_told
  refine seq_by (fun ρ => ρ = ([some (.v (pD z (rD p T) (rD b B))), some (.v (nq x)), some (.v .non), some (.v (.str "")), none, none], st)) (fun nx' hnx => ?_) ?_
  · walk_at "dn"
    iterate 4 (try (refine ⟨by decide, ?_⟩))
    exact hnx _ rfl
  rintro ρ rfl
  unfold dTryAs xSet dxFn
  walk_at "dn"
  refine ⟨z, p, T, b, B, x, rfl, ok, fun h => ⟨rfl, fun a => ?_⟩, fun h => ?_⟩
  · unfold offE
    refine ⟨rfl, rfl, fun _ => ⟨rfl, fun _ => ?_, fun z => nomatch z⟩, fun z => nomatch z⟩
    walk_at "dn"
    iterate 4 (try (refine ⟨by decide, ?_⟩))
    exact q1 h
  · walk_at "dn"
    iterate 4 (try (refine ⟨by decide, ?_⟩))
    exact q2 h
/-! ### a drawn quotient, its below with a root -/
theorem quo12 {T m : List Rat} (cT : CD 70 T) (cm : CD 15 m) (m0 : m.getD 0 0 ≠ 0) (lT : T.length ≤ 11) (lm : m.length ≤ 11) :
    trim m ≠ [] ∧ (qB (trim T) (trim m)).getD 0 0 ≠ 0 ∧ QuoOk (trim T) (trim m) ∧ Quo 2500000 11 11 (quoT (trim T) (trim m)) (quoB (trim T) (trim m)) := by
  have t0 : (trim m).getD 0 0 ≠ 0 := by
    have : (ps (trim m)).co 0 = (ps m).co 0 := by rw [ps_trim]
    rw [ps_co, ps_co] at this
    rw [this]; exact m0
  have tn : trim m ≠ [] := fun z => t0 (by rw [z]; rfl)
  obtain ⟨q1, q2, q3⟩ := quo_made (s := 70) (t := 15) (W := 110000) (w := 2500000) (L := 11) (M := 11) tn t0 cT cm lT lm (by decide) (by decide) (by decide) (by decide) (by decide) (by decide) (by decide)
  exact ⟨tn, q1, q2, q3⟩
theorem VaOk.of {T B : List Rat} {x : Rat} (h : Quo 2500000 11 11 T B) (hx : BQ 40 x) : VaOk T B x := by
  have lT := h.lt; have lB := h.lb
  have hT := valH_bq (X := 40) (R := 2500000) hx T h.t.all
  have hB := valH_bq (X := 40) (R := 2500000) hx B h.b.all
  refine ⟨by omega, by omega, .crude hx h.t.all (by omega), .crude hx h.b.all (by omega), ?_⟩
  by_cases e : valH x B = 0
  · rw [e]; exact Sq.of (k := 1) (by rw [Rat.div_def, Rat.inv_zero, Rat.mul_zero]; exact BQ0 (by decide)) (by decide)
  · exact Sq.of (hT.div e hB) (by omega)
theorem valH_zero : ∀ l : List Rat, valH 0 l = l.getD 0 0
  | [] => rfl
  | a :: l => by show valH 0 l * 0 + a = a; grind
def q100 : Rat := ⟨1, 100, by decide, by decide⟩
theorem b100 : BQ 8 q100 := ⟨by decide, by decide⟩
theorem seq_by2 {it : DOv} {t : DGv} {body : DSv} {B : DEnds} {ρ : En} {Z : List D → En → Prop} (h : ∀ G : List D → En → Prop, (∀ l ρ, Z l ρ → G l ρ) → it ρ G) (k : ∀ l ρ, Z l ρ → forD t body B l ρ) : dFor it t body B ρ := h _ k
def c_l_one_right : DFn := drawF 3000 (fun ds => ds = [.stt]) fun _ r => r = .v (.bl true)
def b_l_one_right : DSv := (dSeq (dSet 1 (dIf (dB (d2 fEqI (dFn c_l_take (lenIs 2 (dCons (dVar 0) (dCons (dC (.int 8)) dNil)))) (dC (.int 0)))) (dC (.int 10)) (dC (.int 6))))
  (dSeq (dAsg (dFn c_l_two_polys2 (lenIs 3 (dCons (dVar 0) (dCons (dFn c_l_take (lenIs 2 (dCons (dVar 0) (dCons (d2 fAdd (dVar 1) (dC (.int 1))) dNil)))) (dCons (dFn c_l_take (lenIs 2 (dCons (dVar 0) (dCons (dVar 1) dNil)))) dNil))))) (aTup 2 (aCons (aName 2) (aCons (aName 3) aNil))))
  (dSeq (dSet 4 (dFn c_l_small (lenIs 1 (dCons (dVar 0) dNil))))
  (dSeq (dIfS (dB (d2 fGt (dFn c_l_take (lenIs 2 (dCons (dVar 0) (dCons (dC (.int 3)) dNil)))) (dC (.int 0)))) (dSet 3 (dFn c_l_product (lenIs 2 (dCons (dVar 3) (dCons (dTup (dCons (dTup (dCons (dC (.int 1)) (dCons (dC (.int 1)) dNil))) (dCons (dFn c_l_over (lenIs 2 (dCons (dTup (dCons (dNeg (dC (.int 1))) (dCons (dC (.int 1)) dNil))) (dCons (dVar 4) dNil)))) dNil))) dNil))))) dNext)
  (dSeq (dSet 5 (dFn c_quotient_of (lenIs 2 (dCons (dVar 2) (dCons (dVar 3) dNil)))))
  (dSeq (dFor (iSeq (asV (dLst (dCons (dVar 4) (dCons (dFn c_l_number (lenIs 1 (dCons (dVar 0) dNil))) (dCons (dFn c_l_plus (lenIs 2 (dCons (dVar 4) (dCons (dTup (dCons (dC (.int 1)) (dCons (dC (.int 100)) dNil))) dNil)))) (dCons (dTup (dCons (dC (.int 0)) (dCons (dC (.int 1)) dNil))) (dCons (dFn c_l_number (lenIs 1 (dCons (dVar 0) dNil))) (dCons (dVar 4) dNil))))))))) (aName 6) (dSeq (dSet 7 (dFn c_l_worth (lenIs 2 (dCons (d2 fIx (dVar 5) (dC (.int 1))) (dCons (dVar 6) dNil)))))
  (dSeq (dAsg (dFn c_l_told (lenIs 2 (dCons (d2 fIx (asV (dLst (dCons (dVar 5) (dCons (asV (dLst (dCons (asV (dListO (dCons (d2 fIx (dVar 5) (dC (.int 0))) dNil))) (dCons (asV (dListO (dCons (d2 fIx (dVar 5) (dC (.int 1))) dNil))) dNil)))) dNil)))) (dFn c_l_take (lenIs 2 (dCons (dVar 0) (dCons (dC (.int 2)) dNil))))) (dCons (dVar 6) dNil)))) (aTup 2 (aCons (aName 8) (aCons (aName 9) aNil))))
  (dSeq (dIfS (dOr (dB (d2 fNeB (d2 fEqS (dVar 9) (dC (.str "pole"))) (d2 fEqI (d2 fIx (dVar 7) (dC (.int 0))) (dC (.int 0))))) (dB (d2 (fInS true) (dVar 9) (dTup (dCons (dC (.str "")) (dCons (dC (.str "pole")) dNil)))))) (dRet (dC (.bl false))) dNext)
  (dIfS (dAnd (dB (d2 fEqS (dVar 9) (dC (.str "")))) (dNot (dB (dFn (c_l_same 3) (lenIs 2 (dCons (dVar 8) (dCons (dFn c_l_over (lenIs 2 (dCons (dFn c_l_worth (lenIs 2 (dCons (d2 fIx (dVar 5) (dC (.int 0))) (dCons (dVar 6) dNil)))) (dCons (dVar 7) dNil)))) dNil))))))) (dRet (dC (.bl false))) dNext)))))
  (dRet (dFn (c_l_same 3) (lenIs 2 (dCons (asV (dLst (dCons (dFn c_value (lenIs 2 (dCons (dVar 5) (dCons (dTup (dCons (dC (.int 0)) (dCons (dC (.int 1)) dNil))) dNil)))) dNil))) (dCons (dFn c_row_of (lenIs 2 (dCons (dVar 5) (dCons (dC (.int 1)) dNil)))) dNil)))))))))))
theorem d_l_one_right (args : List D) (st : Stt) (Kf : Sl → Stt → Prop) (hl : args.length = 1) (q : c_l_one_right args st Kf) : b_l_one_right (ends Kf) (startD 9 args, st) := by
  obtain ⟨rfl, g, q⟩ := q
  have q : ∀ st', Left 3000 st st' → Kf (.v (.bl true)) st' := fun st' h => q _ _ rfl h
  unfold b_l_one_right c_l_number drawQ
  refine seq_by (fun ρ => ∃ (M : Nat) (s : Stt), ρ = ([some (.v .stt), some (.v (.int (M : Nat))), none, none, none, none, none, none, none, none], s) ∧ 1 ≤ M ∧ M ≤ 10 ∧ Left 1 st s) (fun nx' hnx => ?_) ?_
  · walk_at "dn"
    refine take_ok g (by omega) (by omega) (by omega) fun a s1 a0 a1 l1 g1 => ?_
    walk_at "dn"
    exact ⟨fun _ => hnx _ ⟨10, s1, rfl, by decide, by decide, l1⟩, fun _ => hnx _ ⟨6, s1, rfl, by decide, by decide, l1⟩⟩
  rintro ρ ⟨M, s1, rfl, M1, M10, l1⟩
  have g1 := g.left l1
  refine seq_by (fun ρ => ∃ (T m : List Rat) (s : Stt), ρ = ([some (.v .stt), some (.v (.int (M : Nat))), some (.v (.tup (nqs T))), some (.v (.tup (nqs m))), none, none, none, none, none, none], s) ∧ CD 70 T ∧ CD 5 m ∧ m.head? = some 1 ∧ T.length ≤ 11 ∧ m.length ≤ 10 ∧ Left 2010 st s) (fun nx' hnx => ?_) ?_
  · walk_at "dn"
    refine take_ok g1 (by omega) (by omega) (by omega) fun a s2 a0 a1 l2 g2 => ?_
    walk_at "dn"
    refine take_ok g2 (by omega) (by omega) (by omega) fun b s3 b0 b1 l3 g3 => ?_
    walk_at "dn"
    refine draw_ok ⟨a, b, rfl, a0, by omega, b0, by omega⟩ g3 (by omega) fun r s4 hr l4 g4 => ?_
    obtain ⟨T, m, rfl, _, _, cT, cm, _, hm, hlen⟩ := hr
    obtain ⟨e1, e2⟩ := hlen a b rfl
    walk_at "dn"
    exact hnx _ ⟨T, m, s4, rfl, cT, cm, hm, by omega, by omega, (((l1.trans l2).trans l3).trans l4).mono (by omega)⟩
  rintro ρ ⟨T, m, s2, rfl, cT, cm, hm, lT, lm, l2⟩
  have g2 := g.left l2
  refine seq_by (fun ρ => ∃ (y : Rat) (s : Stt), ρ = ([some (.v .stt), some (.v (.int (M : Nat))), some (.v (.tup (nqs T))), some (.v (.tup (nqs m))), some (.v (nq y)), none, none, none, none, none], s) ∧ BQ 2 y ∧ y ≠ 0 ∧ Left 2020 st s) (fun nx' hnx => ?_) ?_
  · walk_at "dn"
    refine draw_ok rfl g2 (by omega) fun r s3 hr l3 g3 => ?_
    obtain ⟨y, rfl, hy, y0⟩ := hr
    exact hnx _ ⟨y, s3, rfl, hy, y0, (l2.trans l3).mono (by omega)⟩
  rintro ρ ⟨y, s3, rfl, hy, y0, l3⟩
  have g3 := g.left l3
  refine seq_by (fun ρ => ∃ (m : List Rat) (s : Stt), ρ = ([some (.v .stt), some (.v (.int (M : Nat))), some (.v (.tup (nqs T))), some (.v (.tup (nqs m))), some (.v (nq y)), none, none, none, none, none], s) ∧ CD 15 m ∧ m.getD 0 0 ≠ 0 ∧ m.length ≤ 11 ∧ Left 2021 st s) (fun nx' hnx => ?_) ?_
  · have m0 : m.getD 0 0 = 1 := by
      cases m with
      | nil => cases hm
      | cons a l => simpa using hm
    walk_at "dn"
    refine take_ok g3 (by omega) (by omega) (by omega) fun a s4 a0 a1 l4 g4 => ?_
    walk_at "dn"
    refine ⟨fun _ => ?_, fun _ => hnx _ ⟨m, s4, rfl, cm.mono (by decide), by rw [m0]; decide, by omega, (l3.trans l4).mono (by omega)⟩⟩
    refine ⟨by decide, by decide, ?_⟩
    rw [show D.tup [D.int (-1), D.int 1] = nq (-1) from rfl]
    walk_at "dn"
    refine ⟨y0, Sq.of (k := 2) (BQ.int (i := -1) (by decide) (by decide)) (by decide), Sq.of hy (by decide), by decide, ?_⟩
    have cf : CD 5 [1, -1 / y] := by
      have b1 : BQ 1 (1 : Rat) := BQ.int (i := 1) (by decide) (by decide)
      have b2 : BQ 4 (-1 / y) := (BQ.div y0 (BQ.int (i := -1) (k := 2) (by decide) (by decide)) hy)
      exact ((CD.one b1).snoc b2).mono (by decide)
    have cp := CD.prod cm cf (c := 4) (by omega)
    refine ⟨true, m, true, [1, -1 / y], rfl, by omega, by simp, .cd cm cf (c := 4) (by omega) (by decide), ?_⟩
    refine hnx _ ⟨_, s4, rfl, cp.trim, ?_, ?_, (l3.trans l4).mono (by omega)⟩
    · have : (ps (trim (prodL m [1, -1 / y]))).co 0 = m.getD 0 0 * 1 := by
        rw [ps_trim, ps_prod, co_zero_mul, ps_co, ps_co]; rfl
      rw [ps_co, m0] at this
      rw [this, Rat.mul_one]; decide
    · have := trim_len (prodL m [1, -1 / y])
      have e : (prodL m [1, -1 / y]).length = m.length + 2 - 1 := by simp [prodL]
      omega
  rintro ρ ⟨m2, s4, rfl, cm2, m20, lm2, l4⟩
  have g4 := g.left l4
  obtain ⟨tn, q1, q2, q3⟩ := quo12 cT cm2 m20 lT lm2
  generalize hA : quoT (trim T) (trim m2) = A at *
  generalize hB : quoB (trim T) (trim m2) = B at *
  refine seq_by (fun ρ => ρ = ([some (.v .stt), some (.v (.int (M : Nat))), some (.v (.tup (nqs T))), some (.v (.tup (nqs m2))), some (.v (nq y)), some (.v (.tup [.tup (nqs A), .tup (nqs B)])), none, none, none, none], s4)) (fun nx' hnx => ?_) ?_
  · walk_at "dn"
    refine ⟨true, T, true, m2, rfl, by omega, by omega, tn, q1, q2, ?_⟩
    rw [hA, hB]
    exact hnx _ rfl
  rintro ρ rfl
  have hv : ∀ x : Rat, BQ 40 x → VaOk A B x := fun x hx => .of q3 hx
  refine seq_by (fun ρ => ∃ (x6 x7 x8 x9 : Option Sl) (s : Stt), ρ = ([some (.v .stt), some (.v (.int (M : Nat))), some (.v (.tup (nqs T))), some (.v (.tup (nqs m2))), some (.v (nq y)), some (.v (.tup [.tup (nqs A), .tup (nqs B)])), x6, x7, x8, x9], s) ∧ Left 2050 st s) (fun nx' hnx => ?_) ?_
  · refine seq_by2 (Z := fun ds ρ => (∀ d, d ∈ ds → ∃ x, d = nq x ∧ BQ 40 x) ∧ ∃ s, ρ = ([some (.v .stt), some (.v (.int (M : Nat))), some (.v (.tup (nqs T))), some (.v (.tup (nqs m2))), some (.v (nq y)), some (.v (.tup [.tup (nqs A), .tup (nqs B)])), none, none, none, none], s) ∧ ds.length = 6 ∧ Left 2040 st s) (fun G hG => ?_) ?_
    · walk_at "dn"
      refine draw_ok rfl g4 (by omega) fun r s5 hr l5 g5 => ?_
      obtain ⟨z1, rfl, hz1⟩ := hr
      refine ⟨by decide, ?_⟩
      rw [show D.tup [D.int 1, D.int 100] = nq q100 from rfl, show D.tup [D.int 0, D.int 1] = nq 0 from rfl]
      walk_at "dn"
      refine ⟨Sq.of hy (by decide), Sq.of b100 (by decide), by decide, ?_⟩
      refine draw_ok rfl g5 (by omega) fun r s6 hr l6 g6 => ?_
      obtain ⟨z2, rfl, hz2⟩ := hr
      walk_at "dn"
      refine ⟨by decide, hG _ _ ⟨fun d hd => ?_, s6, rfl, rfl, ((l4.trans l5).trans l6).mono (by omega)⟩⟩
      simp only [List.mem_cons, List.not_mem_nil, or_false] at hd
      rcases hd with rfl | rfl | rfl | rfl | rfl | rfl
      · exact ⟨_, rfl, hy.mono (by decide)⟩
      · exact ⟨_, rfl, hz1.mono (by decide)⟩
      · exact ⟨_, rfl, (hy.add b100).mono (by decide)⟩
      · exact ⟨0, rfl, BQ0 (by decide)⟩
      · exact ⟨_, rfl, hz2.mono (by decide)⟩
      · exact ⟨_, rfl, hy.mono (by decide)⟩
    rintro ds ρ ⟨hds, s5, rfl, l6, l5⟩
    refine for_list_ix (fun i ρ => ∃ (x6 x7 x8 x9 : Option Sl) (s : Stt), ρ = ([some (.v .stt), some (.v (.int (M : Nat))), some (.v (.tup (nqs T))), some (.v (.tup (nqs m2))), some (.v (nq y)), some (.v (.tup [.tup (nqs A), .tup (nqs B)])), x6, x7, x8, x9], s) ∧ Left (2040 + (i : Int)) st s ∧ i ≤ 6) ?_ ?_ _ ⟨none, none, none, none, s5, rfl, l5.mono (by omega), Nat.zero_le _⟩
    · rintro ρ ⟨x6, x7, x8, x9, s, rfl, l, _⟩
      exact hnx _ ⟨_, _, _, _, s, rfl, l.mono (by omega)⟩
    rintro i d ρ nx hd ⟨x6, x7, x8, x9, s, rfl, l, hi⟩ k
    obtain ⟨x, rfl, hx⟩ := hds d (List.mem_of_getElem? hd)
    have hi6 := (List.getElem?_eq_some_iff.mp hd).1
    have ok := hv x hx
    walk_at "d1"
    refine ⟨true, B, x, rfl, ok.lb, ok.b, ?_⟩
    refine ⟨by decide, by decide, ?_⟩
    refine take_ok (g.left l) (by omega) (by omega) (by omega) fun r s6 r0 r1 l6 g6 => ?_
    refine fIx_any (by exact r0) (by simp; omega) fun d hd => ?_
    have hd : ∃ z, d = pD z (rD z A) (rD z B) := by
      simp only [List.mem_cons, List.not_mem_nil, or_false] at hd
      rcases hd with rfl | rfl
      · exact ⟨true, rfl⟩
      · exact ⟨false, rfl⟩
    obtain ⟨z, rfl⟩ := hd
    have go : ∀ x6 x7 x8 x9, nx ([some (.v .stt), some (.v (.int (M : Nat))), some (.v (.tup (nqs T))), some (.v (.tup (nqs m2))), some (.v (nq y)), some (.v (.tup [.tup (nqs A), .tup (nqs B)])), x6, x7, x8, x9], s6) := fun x6 x7 x8 x9 => k _ ⟨x6, x7, x8, x9, s6, rfl, (l.trans l6).mono (by omega), by omega⟩
    refine ⟨z, z, A, z, B, x, rfl, ok, fun h => ?_, fun h => ?_⟩
    · walk_at "dn"
      rw [h]
      walk_at "dn"
      refine ⟨⟨by decide, ["", "pole"], rfl, fun z => absurd z (by decide +kernel), fun _ => ⟨fun z => absurd z (by decide +kernel), fun _ => go _ _ _ _⟩⟩, fun z => z.elim⟩
    · walk_at "dn"
      refine ⟨fun _ => ⟨by decide, ["", "pole"], rfl, fun z => absurd z (by decide +kernel), fun _ => ⟨?_, fun z => z.elim⟩⟩, fun z => absurd (by rw [decide_eq_false h]; decide +kernel) z⟩
      refine ⟨true, A, x, rfl, ok.lt, ok.t, ?_⟩
      walk_at "dn"
      refine ⟨h, val_sq ok.t, val_sq ok.b, ?_⟩
      exact go _ _ _ _
  rintro ρ ⟨x6, x7, x8, x9, s5, rfl, l5⟩
  have ok0 := hv 0 (BQ0 (by decide))
  walk_at "dn"
  rw [show D.tup [D.int 0, D.int 1] = nq 0 from rfl]
  refine ⟨by decide, true, true, A, true, B, 0, rfl, ok0, by rw [valH_zero, q3.b0]; decide, ?_⟩
  rw [valH_zero, valH_zero, q3.b0]
  refine ⟨by decide, true, true, A, true, B, 1, rfl, by decide, by decide, by have := q3.lb; omega, q3.row (c := 4) (by decide) (by decide), ?_⟩
  have e1 : serL A B (Int.toNat 1) = [A.getD 0 0] := by
    show [figP A B [] 0 (figN B 0)] = _
    rw [show figN B 0 = 0 by unfold figN; omega]; rfl
  rw [e1]
  have e2 : A.getD 0 0 / 1 = A.getD 0 0 := by grind
  rw [e2]
  exact ⟨_, rfl, rfl, q _ (l5.mono (by omega))⟩
def b_law : DSv := (dRet (dAndV (dCB fAll (dCons (asV (dLc (iRange1 (dCons (dC (.int 3)) dNil)) (aName 2) dYes (dFn c_l_one_right (lenIs 1 (dCons (dVar 1) dNil))) [2])) dNil)) (d2 fEqD (dFn c_value (lenIs 2 (dCons (dTup (dCons (dTup dNil) (dCons (dTup (dCons (dTup (dCons (dC (.int 1)) (dCons (dC (.int 1)) dNil))) dNil)) dNil))) (dCons (dTup (dCons (dC (.int 5)) (dCons (dC (.int 7)) dNil))) dNil)))) (dTup (dCons (dC (.int 0)) (dCons (dC (.int 1)) dNil))))))
def q57 : Rat := ⟨5, 7, by decide, by decide⟩
theorem d_law (st : Stt) (g : Good 1000000000000 st) : b_law endsL (startLaw 1, st) := by
  unfold b_law startLaw endsL
  walk_at "dn"
  refine ⟨by decide, by decide, ?_⟩
  refine lc_trues (m := 3000) (by decide) (fun i st Kd g k => ?_) 3 0 0 st (g.mono (by decide)) (by decide) fun st' l => ?_
  · walk_at "dn"
    refine ⟨rfl, g, fun r st' e l => ?_⟩
    subst e
    exact k _ l
  rw [fAll_trues]
  have ok : VaOk [] [1] q57 := ⟨by decide, by decide, .crude (X := 8) (R := 1) ⟨by decide, by decide⟩ (fun x h => nomatch h) (by decide), .crude (X := 8) (R := 1) ⟨by decide, by decide⟩ (AllBQ.one (BQ.int (i := 1) (by decide) (by decide))) (by decide), by
    have : valH q57 [] / valH q57 [1] = 0 := by show (0 : Rat) / _ = 0; rw [Rat.div_def, Rat.zero_mul]
    rw [this]; exact Sq0⟩
  have v1 : valH q57 [1] = 1 := by show 0 * q57 + 1 = 1; rw [Rat.zero_mul, Rat.zero_add]
  walk_at "dn"
  refine ⟨by decide, by decide, by decide, by decide, by decide, true, true, [], true, [1], q57, rfl, ok, by rw [v1]; decide, ?_⟩
  have e : valH q57 [] / valH q57 [1] = 0 := by show (0 : Rat) / _ = 0; rw [Rat.div_def, Rat.zero_mul]
  rw [e, show D.tup [D.int 0, D.int 1] = nq 0 from rfl]
  walk_at "dn"
  exact ⟨by decide, rfl⟩
end DL
namespace Lw
open PySem PySem.Spec PyProof.Rows L2 DL
def top (i : Nat) : Stmt := PySem.Challenge.pw_farquotient_k12_values_and_poles.main.body.getD i (.Pass ⟨0, 0, 0, 0⟩)
abbrev s_greatest_both : Stmt := top 7
theorem sc_greatest_both : FnScope ["one", "other"] ["one", "other"] (defScope s_greatest_both) := ⟨rfl, rfl, rfl, by decide +kernel, rfl, by decide +kernel, by decide +kernel⟩
abbrev s_number : Stmt := top 8
theorem sc_number : FnScope ["top", "below", "both"] ["top", "below"] (defScope s_number) := ⟨rfl, rfl, rfl, by decide +kernel, rfl, by decide +kernel, by decide +kernel⟩
abbrev s_plus : Stmt := top 9
theorem sc_plus : FnScope ["one", "other"] ["one", "other"] (defScope s_plus) := ⟨rfl, rfl, rfl, by decide +kernel, rfl, by decide +kernel, by decide +kernel⟩
abbrev s_minus : Stmt := top 11
theorem sc_minus : FnScope ["one", "other"] ["one", "other"] (defScope s_minus) := ⟨rfl, rfl, rfl, by decide +kernel, rfl, by decide +kernel, by decide +kernel⟩
abbrev s_times : Stmt := top 13
theorem sc_times : FnScope ["one", "other"] ["one", "other"] (defScope s_times) := ⟨rfl, rfl, rfl, by decide +kernel, rfl, by decide +kernel, by decide +kernel⟩
abbrev s_over : Stmt := top 15
theorem sc_over : FnScope ["one", "other"] ["one", "other"] (defScope s_over) := ⟨rfl, rfl, rfl, by decide +kernel, rfl, by decide +kernel, by decide +kernel⟩
abbrev s_trimmed : Stmt := top 19
theorem sc_trimmed : FnScope ["field", "numbers", "many", "place"] ["field", "numbers"] (defScope s_trimmed) := ⟨rfl, rfl, rfl, by decide +kernel, rfl, by decide +kernel, by decide +kernel⟩
abbrev s_parted_by : Stmt := top 20
theorem sc_parted_by : FnScope ["field", "left", "right", "rest", "many", "often", "place", "share", "k", "number"] ["field", "left", "right"] (defScope s_parted_by) := ⟨rfl, rfl, rfl, by decide +kernel, rfl, by decide +kernel, by decide +kernel⟩
abbrev s_common_by : Stmt := top 21
theorem sc_common_by : FnScope ["field", "left", "right", "one", "other", "number"] ["field", "left", "right"] (defScope s_common_by) := ⟨rfl, rfl, rfl, by decide +kernel, rfl, by decide +kernel, by decide +kernel⟩
abbrev s_value_by : Stmt := top 22
theorem sc_value_by : FnScope ["field", "left", "x", "found", "number"] ["field", "left", "x"] (defScope s_value_by) := ⟨rfl, rfl, rfl, by decide +kernel, rfl, by decide +kernel, by decide +kernel⟩
abbrev s_value_at : Stmt := top 24
theorem sc_value_at : FnScope ["one", "x"] ["one", "x"] (defScope s_value_at) := ⟨rfl, rfl, rfl, by decide +kernel, rfl, by decide +kernel, by decide +kernel⟩
abbrev s_over_all : Stmt := top 26
theorem sc_over_all : FnScope ["field", "one", "number", "part"] ["field", "one", "number"] (defScope s_over_all) := ⟨rfl, rfl, rfl, by decide +kernel, rfl, by decide +kernel, by decide +kernel⟩
abbrev s_quotient_in : Stmt := top 27
theorem sc_quotient_in : FnScope ["field", "top", "below", "above", "under", "shared"] ["field", "top", "below"] (defScope s_quotient_in) := ⟨rfl, rfl, rfl, by decide +kernel, rfl, by decide +kernel, by decide +kernel⟩
abbrev s_number_row : Stmt := top 28
theorem sc_number_row : FnScope ["field", "one", "place"] ["field", "one", "place"] (defScope s_number_row) := ⟨rfl, rfl, rfl, by decide +kernel, rfl, by decide +kernel, by decide +kernel⟩
abbrev s_weighed_at : Stmt := top 29
theorem sc_weighed_at : FnScope ["field", "below", "row", "place", "total", "k"] ["field", "below", "row", "place"] (defScope s_weighed_at) := ⟨rfl, rfl, rfl, by decide +kernel, rfl, by decide +kernel, by decide +kernel⟩
abbrev s_row_in : Stmt := top 30
theorem sc_row_in : FnScope ["field", "one", "many", "top", "below", "row", "place"] ["field", "one", "many"] (defScope s_row_in) := ⟨rfl, rfl, rfl, by decide +kernel, rfl, by decide +kernel, by decide +kernel⟩
abbrev s_quotient_of : Stmt := top 33
theorem sc_quotient_of : FnScope ["top", "below"] ["top", "below"] (defScope s_quotient_of) := ⟨rfl, rfl, rfl, by decide +kernel, rfl, by decide +kernel, by decide +kernel⟩
abbrev s_value : Stmt := top 34
theorem sc_value : FnScope ["one", "x", "under"] ["one", "x"] (defScope s_value) := ⟨rfl, rfl, rfl, by decide +kernel, rfl, by decide +kernel, by decide +kernel⟩
abbrev s_row_of : Stmt := top 35
theorem sc_row_of : FnScope ["one", "many"] ["one", "many"] (defScope s_row_of) := ⟨rfl, rfl, rfl, by decide +kernel, rfl, by decide +kernel, by decide +kernel⟩
abbrev s_l_begin : Stmt := top 37
theorem sc_l_begin : FnScope ["_law_script", "_law_cells"] ["_law_script"] (defScope s_l_begin) := ⟨rfl, rfl, rfl, by decide +kernel, rfl, by decide +kernel, by decide +kernel⟩
abbrev s_l_take : Stmt := top 38
theorem sc_l_take : FnScope ["_law_state", "_law_many", "_law_turn", "_law_place", "_law_cell", "_law_digit", "_law_mixed"] ["_law_state", "_law_many"] (defScope s_l_take) := ⟨rfl, rfl, rfl, by decide +kernel, rfl, by decide +kernel, by decide +kernel⟩
abbrev s_l_same : Stmt := top 39
theorem sc_l_same : FnScope ["_law_found", "_law_due", "_law_one", "_law_other"] ["_law_found", "_law_due"] (defScope s_l_same) := ⟨rfl, rfl, rfl, by decide +kernel, rfl, by decide +kernel, by decide +kernel⟩
abbrev s_l_part : Stmt := top 40
theorem sc_l_part : FnScope ["_law_top", "_law_below", "_law_one", "_law_other", "_law_sign"] ["_law_top", "_law_below"] (defScope s_l_part) := ⟨rfl, rfl, rfl, by decide +kernel, rfl, by decide +kernel, by decide +kernel⟩
abbrev s_l_plus : Stmt := top 41
theorem sc_l_plus : FnScope ["_law_one", "_law_other"] ["_law_one", "_law_other"] (defScope s_l_plus) := ⟨rfl, rfl, rfl, by decide +kernel, rfl, by decide +kernel, by decide +kernel⟩
abbrev s_l_times : Stmt := top 42
theorem sc_l_times : FnScope ["_law_one", "_law_other"] ["_law_one", "_law_other"] (defScope s_l_times) := ⟨rfl, rfl, rfl, by decide +kernel, rfl, by decide +kernel, by decide +kernel⟩
abbrev s_l_over : Stmt := top 43
theorem sc_l_over : FnScope ["_law_one", "_law_other"] ["_law_one", "_law_other"] (defScope s_l_over) := ⟨rfl, rfl, rfl, by decide +kernel, rfl, by decide +kernel, by decide +kernel⟩
abbrev s_l_number : Stmt := top 44
theorem sc_l_number : FnScope ["_law_state", "_law_way", "_law_top"] ["_law_state"] (defScope s_l_number) := ⟨rfl, rfl, rfl, by decide +kernel, rfl, by decide +kernel, by decide +kernel⟩
abbrev s_l_small : Stmt := top 45
theorem sc_l_small : FnScope ["_law_state"] ["_law_state"] (defScope s_l_small) := ⟨rfl, rfl, rfl, by decide +kernel, rfl, by decide +kernel, by decide +kernel⟩
abbrev s_l_trimmed : Stmt := top 46
theorem sc_l_trimmed : FnScope ["_law_numbers", "_law_found"] ["_law_numbers"] (defScope s_l_trimmed) := ⟨rfl, rfl, rfl, by decide +kernel, rfl, by decide +kernel, by decide +kernel⟩
abbrev s_l_product : Stmt := top 47
theorem sc_l_product : FnScope ["_law_one", "_law_other", "_law_found", "_law_i", "_law_left", "_law_j", "_law_right"] ["_law_one", "_law_other"] (defScope s_l_product) := ⟨rfl, rfl, rfl, by decide +kernel, rfl, by decide +kernel, by decide +kernel⟩
abbrev s_l_two_polys : Stmt := top 48
theorem sc_l_two_polys : FnScope ["_law_state", "_law_a", "_law_b", "_law_top", "_law_below", "_law_k"] ["_law_state", "_law_a", "_law_b"] (defScope s_l_two_polys) := ⟨rfl, rfl, rfl, by decide +kernel, rfl, by decide +kernel, by decide +kernel⟩
abbrev s_l_worth : Stmt := top 49
theorem sc_l_worth : FnScope ["_law_one", "_law_x", "_law_found", "_law_part_here"] ["_law_one", "_law_x"] (defScope s_l_worth) := ⟨rfl, rfl, rfl, by decide +kernel, rfl, by decide +kernel, by decide +kernel⟩
abbrev s_l_told : Stmt := top 50
theorem sc_l_told : FnScope ["_law_one", "_law_x", "_law_found", "_law_word", "error", "_law_others"] ["_law_one", "_law_x"] (defScope s_l_told) := ⟨rfl, rfl, rfl, by decide +kernel, rfl, by decide +kernel, by decide +kernel⟩
abbrev s_l_one_right : Stmt := top 51
theorem sc_l_one_right : FnScope ["_law_state", "_law_most", "_law_top", "_law_below", "_law_root", "_law_one", "_law_x", "_law_under", "_law_found", "_law_word"] ["_law_state"] (defScope s_l_one_right) := ⟨rfl, rfl, rfl, by decide +kernel, rfl, by decide +kernel, by decide +kernel⟩
abbrev s_law : Stmt := top 52
theorem sc_law : FnScope ["_law_script", "_law_state", "_law_turn"] ["_law_script"] (defScope s_law) := ⟨rfl, rfl, rfl, by decide +kernel, rfl, by decide +kernel, by decide +kernel⟩
abbrev s_Exact_nought : Stmt := inClass (top 18) 0
theorem sc_Exact_nought : FnScope ["self"] ["self"] (defScope s_Exact_nought) := ⟨rfl, rfl, rfl, by decide +kernel, rfl, by decide +kernel, by decide +kernel⟩
abbrev s_Exact_plus : Stmt := inClass (top 18) 2
theorem sc_Exact_plus : FnScope ["self", "left", "right"] ["self", "left", "right"] (defScope s_Exact_plus) := ⟨rfl, rfl, rfl, by decide +kernel, rfl, by decide +kernel, by decide +kernel⟩
abbrev s_Exact_times : Stmt := inClass (top 18) 4
theorem sc_Exact_times : FnScope ["self", "left", "right"] ["self", "left", "right"] (defScope s_Exact_times) := ⟨rfl, rfl, rfl, by decide +kernel, rfl, by decide +kernel, by decide +kernel⟩
abbrev s_Exact_is_nought : Stmt := inClass (top 18) 6
theorem sc_Exact_is_nought : FnScope ["self", "left"] ["self", "left"] (defScope s_Exact_is_nought) := ⟨rfl, rfl, rfl, by decide +kernel, rfl, by decide +kernel, by decide +kernel⟩
abbrev s_Exact_over : Stmt := inClass (top 18) 5
theorem sc_Exact_over : FnScope ["self", "left", "right"] ["self", "left", "right"] (defScope s_Exact_over) := ⟨rfl, rfl, rfl, by decide +kernel, rfl, by decide +kernel, by decide +kernel⟩
abbrev s_Exact_minus : Stmt := inClass (top 18) 3
theorem sc_Exact_minus : FnScope ["self", "left", "right"] ["self", "left", "right"] (defScope s_Exact_minus) := ⟨rfl, rfl, rfl, by decide +kernel, rfl, by decide +kernel, by decide +kernel⟩
/-- what the top has written -/
structure Txt (P : Program) (base : Heap) (K : PySem.W.Frag) (mg : Str → Option Value) (cl : Nat → Addr) (a : Nat → Addr) (fd : Nat → FuncData) : Prop where
  seer : base.NoSeer
  tree : P.given.tree = none
  f_greatest_both : Fun K "greatest_both" "greatest_both" s_greatest_both (a 0) (fd 0)
  b_greatest_both : Binds K (fd 0) ["one", "other"] []
  m_greatest_both : mg "greatest_both" = some (.ref (a 0))
  f_number : Fun K "number" "number" s_number (a 1) (fd 1)
  b_number : Binds K (fd 1) ["top", "below"] []
  m_number : mg "number" = some (.ref (a 1))
  f_plus : Fun K "plus" "plus" s_plus (a 2) (fd 2)
  b_plus : Binds K (fd 2) ["one", "other"] []
  m_plus : mg "plus" = some (.ref (a 2))
  f_minus : Fun K "minus" "minus" s_minus (a 3) (fd 3)
  b_minus : Binds K (fd 3) ["one", "other"] []
  m_minus : mg "minus" = some (.ref (a 3))
  f_times : Fun K "times" "times" s_times (a 4) (fd 4)
  b_times : Binds K (fd 4) ["one", "other"] []
  m_times : mg "times" = some (.ref (a 4))
  f_over : Fun K "over" "over" s_over (a 5) (fd 5)
  b_over : Binds K (fd 5) ["one", "other"] []
  m_over : mg "over" = some (.ref (a 5))
  f_trimmed : Fun K "trimmed" "trimmed" s_trimmed (a 6) (fd 6)
  b_trimmed : Binds K (fd 6) ["field", "numbers"] []
  m_trimmed : mg "trimmed" = some (.ref (a 6))
  f_parted_by : Fun K "parted_by" "parted_by" s_parted_by (a 7) (fd 7)
  b_parted_by : Binds K (fd 7) ["field", "left", "right"] []
  m_parted_by : mg "parted_by" = some (.ref (a 7))
  f_common_by : Fun K "common_by" "common_by" s_common_by (a 8) (fd 8)
  b_common_by : Binds K (fd 8) ["field", "left", "right"] []
  m_common_by : mg "common_by" = some (.ref (a 8))
  f_value_by : Fun K "value_by" "value_by" s_value_by (a 9) (fd 9)
  b_value_by : Binds K (fd 9) ["field", "left", "x"] []
  m_value_by : mg "value_by" = some (.ref (a 9))
  f_value_at : Fun K "value_at" "value_at" s_value_at (a 10) (fd 10)
  b_value_at : Binds K (fd 10) ["one", "x"] []
  m_value_at : mg "value_at" = some (.ref (a 10))
  f_over_all : Fun K "over_all" "over_all" s_over_all (a 11) (fd 11)
  b_over_all : Binds K (fd 11) ["field", "one", "number"] []
  m_over_all : mg "over_all" = some (.ref (a 11))
  f_quotient_in : Fun K "quotient_in" "quotient_in" s_quotient_in (a 12) (fd 12)
  b_quotient_in : Binds K (fd 12) ["field", "top", "below"] []
  m_quotient_in : mg "quotient_in" = some (.ref (a 12))
  f_number_row : Fun K "number_at" "number_at" s_number_row (a 13) (fd 13)
  b_number_row : Binds K (fd 13) ["field", "one", "place"] []
  m_number_at : mg "number_at" = some (.ref (a 13))
  f_weighed_at : Fun K "weighed_at" "weighed_at" s_weighed_at (a 14) (fd 14)
  b_weighed_at : Binds K (fd 14) ["field", "below", "row", "place"] []
  m_weighed_at : mg "weighed_at" = some (.ref (a 14))
  f_row_in : Fun K "row_in" "row_in" s_row_in (a 15) (fd 15)
  b_row_in : Binds K (fd 15) ["field", "one", "many"] []
  m_row_in : mg "row_in" = some (.ref (a 15))
  f_quotient_of : Fun K "quotient_of" "quotient_of" s_quotient_of (a 16) (fd 16)
  b_quotient_of : Binds K (fd 16) ["top", "below"] []
  m_quotient_of : mg "quotient_of" = some (.ref (a 16))
  f_value : Fun K "value" "value" s_value (a 17) (fd 17)
  b_value : Binds K (fd 17) ["one", "x"] []
  m_value : mg "value" = some (.ref (a 17))
  f_row_of : Fun K "row_of" "row_of" s_row_of (a 18) (fd 18)
  b_row_of : Binds K (fd 18) ["one", "many"] []
  m_row_of : mg "row_of" = some (.ref (a 18))
  f_l_begin : Fun K "_law_begin" "_law_begin" s_l_begin (a 19) (fd 19)
  b_l_begin : Binds K (fd 19) ["_law_script"] []
  m_l_begin : mg "_law_begin" = some (.ref (a 19))
  f_l_take : Fun K "_law_take" "_law_take" s_l_take (a 20) (fd 20)
  b_l_take : Binds K (fd 20) ["_law_state", "_law_many"] []
  m_l_take : mg "_law_take" = some (.ref (a 20))
  f_l_same : Fun K "_law_same" "_law_same" s_l_same (a 21) (fd 21)
  b_l_same : Binds K (fd 21) ["_law_found", "_law_due"] []
  m_l_same : mg "_law_same" = some (.ref (a 21))
  f_l_part : Fun K "_law_part" "_law_part" s_l_part (a 22) (fd 22)
  b_l_part : Binds K (fd 22) ["_law_top", "_law_below"] []
  m_l_part : mg "_law_part" = some (.ref (a 22))
  f_l_plus : Fun K "_law_plus" "_law_plus" s_l_plus (a 23) (fd 23)
  b_l_plus : Binds K (fd 23) ["_law_one", "_law_other"] []
  m_l_plus : mg "_law_plus" = some (.ref (a 23))
  f_l_times : Fun K "_law_times" "_law_times" s_l_times (a 24) (fd 24)
  b_l_times : Binds K (fd 24) ["_law_one", "_law_other"] []
  m_l_times : mg "_law_times" = some (.ref (a 24))
  f_l_over : Fun K "_law_over" "_law_over" s_l_over (a 25) (fd 25)
  b_l_over : Binds K (fd 25) ["_law_one", "_law_other"] []
  m_l_over : mg "_law_over" = some (.ref (a 25))
  f_l_number : Fun K "_law_number" "_law_number" s_l_number (a 26) (fd 26)
  b_l_number : Binds K (fd 26) ["_law_state"] []
  m_l_number : mg "_law_number" = some (.ref (a 26))
  f_l_small : Fun K "_law_small" "_law_small" s_l_small (a 27) (fd 27)
  b_l_small : Binds K (fd 27) ["_law_state"] []
  m_l_small : mg "_law_small" = some (.ref (a 27))
  f_l_trimmed : Fun K "_law_trimmed" "_law_trimmed" s_l_trimmed (a 28) (fd 28)
  b_l_trimmed : Binds K (fd 28) ["_law_numbers"] []
  m_l_trimmed : mg "_law_trimmed" = some (.ref (a 28))
  f_l_product : Fun K "_law_product" "_law_product" s_l_product (a 29) (fd 29)
  b_l_product : Binds K (fd 29) ["_law_one", "_law_other"] []
  m_l_product : mg "_law_product" = some (.ref (a 29))
  f_l_two_polys : Fun K "_law_two_polys" "_law_two_polys" s_l_two_polys (a 30) (fd 30)
  b_l_two_polys : Binds K (fd 30) ["_law_state", "_law_a", "_law_b"] []
  m_l_two_polys : mg "_law_two_polys" = some (.ref (a 30))
  f_l_worth : Fun K "_law_worth" "_law_worth" s_l_worth (a 31) (fd 31)
  b_l_worth : Binds K (fd 31) ["_law_one", "_law_x"] []
  m_l_worth : mg "_law_worth" = some (.ref (a 31))
  f_l_told : Fun K "_law_told" "_law_told" s_l_told (a 32) (fd 32)
  b_l_told : Binds K (fd 32) ["_law_one", "_law_x"] []
  m_l_told : mg "_law_told" = some (.ref (a 32))
  f_l_one_right : Fun K "_law_one_right" "_law_one_right" s_l_one_right (a 33) (fd 33)
  b_l_one_right : Binds K (fd 33) ["_law_state"] []
  m_l_one_right : mg "_law_one_right" = some (.ref (a 33))
  f_law : Fun K "law" "law" s_law (a 34) (fd 34)
  b_law : Binds K (fd 34) ["_law_script"] []
  m_law : mg "law" = some (.ref (a 34))
  f_Exact_nought : Fun K "nought" "Exact.nought" s_Exact_nought (a 35) (fd 35)
  b_Exact_nought : Binds K (fd 35) ["self"] []
  me_Exact_nought : Meth K (cl 0) "nought" (a 35)
  f_Exact_plus : Fun K "plus" "Exact.plus" s_Exact_plus (a 36) (fd 36)
  b_Exact_plus : Binds K (fd 36) ["self", "left", "right"] []
  me_Exact_plus : Meth K (cl 0) "plus" (a 36)
  f_Exact_times : Fun K "times" "Exact.times" s_Exact_times (a 37) (fd 37)
  b_Exact_times : Binds K (fd 37) ["self", "left", "right"] []
  me_Exact_times : Meth K (cl 0) "times" (a 37)
  f_Exact_is_nought : Fun K "is_nought" "Exact.is_nought" s_Exact_is_nought (a 38) (fd 38)
  b_Exact_is_nought : Binds K (fd 38) ["self", "left"] []
  me_Exact_is_nought : Meth K (cl 0) "is_nought" (a 38)
  f_Exact_over : Fun K "over" "Exact.over" s_Exact_over (a 39) (fd 39)
  b_Exact_over : Binds K (fd 39) ["self", "left", "right"] []
  me_Exact_over : Meth K (cl 0) "over" (a 39)
  f_Exact_minus : Fun K "minus" "Exact.minus" s_Exact_minus (a 40) (fd 40)
  b_Exact_minus : Binds K (fd 40) ["self", "left", "right"] []
  me_Exact_minus : Meth K (cl 0) "minus" (a 40)
  c_Exact : Bare0 K mg "Exact" (cl 0)
  k_NOUGHT : KCst K mg "NOUGHT" (.tup [(.int 0), (.int 1)])
  m_plus_numbers : mg "plus_numbers" = some (.ref (a 2))
  m_minus_numbers : mg "minus_numbers" = some (.ref (a 3))
  m_times_numbers : mg "times_numbers" = some (.ref (a 4))
  m_over_numbers : mg "over_numbers" = some (.ref (a 5))
  n_ValueError : mg "ValueError" = none
  n_abs : mg "abs" = none
  n_all : mg "all" = none
  n_bool : mg "bool" = none
  n_divmod : mg "divmod" = none
  n_enumerate : mg "enumerate" = none
  n_int : mg "int" = none
  n_isinstance : mg "isinstance" = none
  n_len : mg "len" = none
  n_list : mg "list" = none
  n_max : mg "max" = none
  n_range : mg "range" = none
  n_reversed : mg "reversed" = none
  n_str : mg "str" = none
  n_tuple : mg "tuple" = none
  n_zip : mg "zip" = none
  g_FarError : mg "FarError" = some (.ref (cl 2))
  g_NoQuotient : mg "NoQuotient" = some (.ref (cl 3))
  g_Pole : mg "Pole" = some (.ref (cl 4))
  g_TooShort : mg "TooShort" = some (.ref (cl 5))
  g_BadRow : mg "BadRow" = some (.ref (cl 6))
  e_Pole : ExcT K mg "Pole" (cl 4)
  ec_Pole : ExcC K (cl 4)
  em_Pole_FarError : PySem.W.exmOne K (.ref (cl 4)) (.ref (cl 2)) = some true
  x_Pole_NoQuotient : PySem.W.kitOne K (.ref (cl 4)) (.ref (cl 3)) = some false
  x_Pole_TooShort : PySem.W.kitOne K (.ref (cl 4)) (.ref (cl 5)) = some false
  x_Pole_BadRow : PySem.W.kitOne K (.ref (cl 4)) (.ref (cl 6)) = some false
  x_Pole_Pole : PySem.W.kitOne K (.ref (cl 4)) (.ref (cl 4)) = some true
  x_Pole_ValueError : PySem.W.kitOne K (.ref (cl 4)) (.type "ValueError") = some true
section
variable {P : Program} {w : World} {K : PySem.W.Frag} {mg : Str → Option Value} {base : Heap} {a : Nat → Addr} {fd : Nat → FuncData} {cl : Nat → Addr}
theorem pa_v {X : Cx} {e : Expr} {es : List Expr} {v : V} {vs : List V} (h : PE X e (tC v)) (hr : PA X es (fun σ H Q => Q vs H)) (hs : starEach (e :: es) X.env = (false, eval e X.env) :: starEach es X.env := by rfl) : PA X (e :: es) (fun σ H Q => Q (v :: vs) H) := pa_cons h hr hs
theorem pa_v0 {X : Cx} : PA X [] (fun σ H Q => Q [] H) := pa_nil
theorem ok_l_same (T : Txt P base K mg cl a fd) : ∀ n : Nat, FnOk P w K mg base CX0 (n + 1) (a 21) (fd 21) ["_law_found", "_law_due"] (spD 2 K cl (c_l_same n))
  | 0 => fn_okD T.f_l_same sc_l_same rfl rfl (fun sd Hs H0s cdv A outer s H E hr => by
    have ih : FnOk P w K mg base CX0 0 (a 21) (fd 21) ["_law_found", "_law_due"] (spD 2 K cl (cPrev c_l_same 0)) := fn_no
    exact (dss_cons (ds_if (dt_cmp op_isN r2_isN (de_var (pv 1)) de_non (nomark _)) (dss_one (ds_ret (de_cmp op_isN r2_isN (de_var (pv 0)) de_non (nomark _)))) dss_nil)
    (dss_cons (ds_if (PW.pt (dw_or (dt_val (de_isi (T := "list") (by decide +kernel) rfl T.n_isinstance (by decide +kernel) (de_var (pv 1)) rfl T.n_list (by decide +kernel))) (dw_or1 (dt_val (de_isi (T := "tuple") (by decide +kernel) rfl T.n_isinstance (by decide +kernel) (de_var (pv 1)) rfl T.n_tuple (by decide +kernel)))))) (dss_cons (ds_if (dt_cmp op_ne r2_neB (de_isi (T := "list") (by decide +kernel) rfl T.n_isinstance (by decide +kernel) (de_var (pv 0)) rfl T.n_list (by decide +kernel)) (de_isi (T := "list") (by decide +kernel) rfl T.n_isinstance (by decide +kernel) (de_var (pv 1)) rfl T.n_list (by decide +kernel)) (nomark _)) (dss_one (ds_ret de_bl)) dss_nil)
    (dss_cons (ds_if (PW.pt (dw_or (dt_cmp op_ne r2_neB (de_isi (T := "tuple") (by decide +kernel) rfl T.n_isinstance (by decide +kernel) (de_var (pv 0)) rfl T.n_tuple (by decide +kernel)) (de_isi (T := "tuple") (by decide +kernel) rfl T.n_isinstance (by decide +kernel) (de_var (pv 1)) rfl T.n_tuple (by decide +kernel)) (nomark _)) (dw_or1 (dt_cmp op_ne r2_neI (de_callB call_len cr_len rfl T.n_len (by decide +kernel) (da_cons (de_var (pv 0)) da_nil)) (de_callB call_len cr_len rfl T.n_len (by decide +kernel) (da_cons (de_var (pv 1)) da_nil)) (nomark _))))) (dss_one (ds_ret de_bl)) dss_nil)
    (dss_one (ds_ret (de_callB (cr_all rfl) cr_allD rfl T.n_all (by decide +kernel) (da_cons (DO.val (do_lc (own := [("_law_one", 2), ("_law_other", 3)]) rfl sc_l_same.nd (di_zip rfl T.n_zip (da_cons (de_var (pv 0)) (da_cons (de_var (pv 1)) da_nil))) (blkOk_by (N := ["_law_found", "_law_due", "_law_one", "_law_other"]) (sc := defScope s_l_same) (by decide +kernel)) (fun _ _ _ _ _ _ _ => (dg_tup rfl (dgs_cons (dg_name (vs := [2, 3]) (pg_name (i := 2) sc_l_same.nd rfl (.inl rfl)) (by decide)) (dgs_cons (dg_name (vs := [2, 3]) (pg_name (i := 3) sc_l_same.nd rfl (.inl rfl)) (by decide)) dgs_nil)))) (fun _ _ _ _ _ _ _ => dts_nil) (fun _ _ _ _ _ _ _ => (de_fn ih hr rfl T.m_l_same T.f_l_same.kp T.b_l_same (da_cons (de_var (pv 2)) (da_cons (de_var (pv 3)) da_nil)))))) da_nil)))))) dss_nil)
    (dss_cons (ds_if (dt_val (de_isi (T := "str") (by decide +kernel) rfl T.n_isinstance (by decide +kernel) (de_var (pv 1)) rfl T.n_str (by decide +kernel))) (dss_one (ds_ret (de_and (de_isi (T := "str") (by decide +kernel) rfl T.n_isinstance (by decide +kernel) (de_var (pv 0)) rfl T.n_str (by decide +kernel)) (de_one (de_cmp op_eq r2_eqS (de_var (pv 0)) (de_var (pv 1)) (nomark _)))))) dss_nil)
    (dss_one (ds_ret (de_and (de_isi (T := "int") (by decide +kernel) rfl T.n_isinstance (by decide +kernel) (de_var (pv 0)) rfl T.n_int (by decide +kernel)) (de_and (de_not (de_isi (T := "bool") (by decide +kernel) rfl T.n_isinstance (by decide +kernel) (de_var (pv 0)) rfl T.n_bool (by decide +kernel))) (de_one (de_cmp op_eq r2_eqI (de_var (pv 0)) (de_var (pv 1)) (nomark _))))))))))) (d_l_same 0)
  | n + 1 => fn_okD T.f_l_same sc_l_same rfl rfl (fun sd Hs H0s cdv A outer s H E hr => by
    have ih : FnOk P w K mg base CX0 (n + 1) (a 21) (fd 21) ["_law_found", "_law_due"] (spD 2 K cl (cPrev c_l_same (n + 1))) := ok_l_same T n
    exact (dss_cons (ds_if (dt_cmp op_isN r2_isN (de_var (pv 1)) de_non (nomark _)) (dss_one (ds_ret (de_cmp op_isN r2_isN (de_var (pv 0)) de_non (nomark _)))) dss_nil)
    (dss_cons (ds_if (PW.pt (dw_or (dt_val (de_isi (T := "list") (by decide +kernel) rfl T.n_isinstance (by decide +kernel) (de_var (pv 1)) rfl T.n_list (by decide +kernel))) (dw_or1 (dt_val (de_isi (T := "tuple") (by decide +kernel) rfl T.n_isinstance (by decide +kernel) (de_var (pv 1)) rfl T.n_tuple (by decide +kernel)))))) (dss_cons (ds_if (dt_cmp op_ne r2_neB (de_isi (T := "list") (by decide +kernel) rfl T.n_isinstance (by decide +kernel) (de_var (pv 0)) rfl T.n_list (by decide +kernel)) (de_isi (T := "list") (by decide +kernel) rfl T.n_isinstance (by decide +kernel) (de_var (pv 1)) rfl T.n_list (by decide +kernel)) (nomark _)) (dss_one (ds_ret de_bl)) dss_nil)
    (dss_cons (ds_if (PW.pt (dw_or (dt_cmp op_ne r2_neB (de_isi (T := "tuple") (by decide +kernel) rfl T.n_isinstance (by decide +kernel) (de_var (pv 0)) rfl T.n_tuple (by decide +kernel)) (de_isi (T := "tuple") (by decide +kernel) rfl T.n_isinstance (by decide +kernel) (de_var (pv 1)) rfl T.n_tuple (by decide +kernel)) (nomark _)) (dw_or1 (dt_cmp op_ne r2_neI (de_callB call_len cr_len rfl T.n_len (by decide +kernel) (da_cons (de_var (pv 0)) da_nil)) (de_callB call_len cr_len rfl T.n_len (by decide +kernel) (da_cons (de_var (pv 1)) da_nil)) (nomark _))))) (dss_one (ds_ret de_bl)) dss_nil)
    (dss_one (ds_ret (de_callB (cr_all rfl) cr_allD rfl T.n_all (by decide +kernel) (da_cons (DO.val (do_lc (own := [("_law_one", 2), ("_law_other", 3)]) rfl sc_l_same.nd (di_zip rfl T.n_zip (da_cons (de_var (pv 0)) (da_cons (de_var (pv 1)) da_nil))) (blkOk_by (N := ["_law_found", "_law_due", "_law_one", "_law_other"]) (sc := defScope s_l_same) (by decide +kernel)) (fun _ _ _ _ _ _ _ => (dg_tup rfl (dgs_cons (dg_name (vs := [2, 3]) (pg_name (i := 2) sc_l_same.nd rfl (.inl rfl)) (by decide)) (dgs_cons (dg_name (vs := [2, 3]) (pg_name (i := 3) sc_l_same.nd rfl (.inl rfl)) (by decide)) dgs_nil)))) (fun _ _ _ _ _ _ _ => dts_nil) (fun _ _ _ _ _ _ _ => (de_fn ih hr rfl T.m_l_same T.f_l_same.kp T.b_l_same (da_cons (de_var (pv 2)) (da_cons (de_var (pv 3)) da_nil)))))) da_nil)))))) dss_nil)
    (dss_cons (ds_if (dt_val (de_isi (T := "str") (by decide +kernel) rfl T.n_isinstance (by decide +kernel) (de_var (pv 1)) rfl T.n_str (by decide +kernel))) (dss_one (ds_ret (de_and (de_isi (T := "str") (by decide +kernel) rfl T.n_isinstance (by decide +kernel) (de_var (pv 0)) rfl T.n_str (by decide +kernel)) (de_one (de_cmp op_eq r2_eqS (de_var (pv 0)) (de_var (pv 1)) (nomark _)))))) dss_nil)
    (dss_one (ds_ret (de_and (de_isi (T := "int") (by decide +kernel) rfl T.n_isinstance (by decide +kernel) (de_var (pv 0)) rfl T.n_int (by decide +kernel)) (de_and (de_not (de_isi (T := "bool") (by decide +kernel) rfl T.n_isinstance (by decide +kernel) (de_var (pv 0)) rfl T.n_bool (by decide +kernel))) (de_one (de_cmp op_eq r2_eqI (de_var (pv 0)) (de_var (pv 1)) (nomark _))))))))))) (d_l_same (n + 1))
theorem ok_greatest_both (T : Txt P base K mg cl a fd) : FnOk P w K mg base CX0 33 (a 0) (fd 0) ["one", "other"] (spD 2 K cl c_greatest_both) :=
  fn_okD T.f_greatest_both sc_greatest_both rfl rfl (fun sd Hs H0s cdv A outer s H E hr =>
    (dss_cons (ds_set (i := 0) sc_greatest_both.nd rfl (.inl rfl) (de_callB call_abs cr_abs rfl T.n_abs (by decide +kernel) (da_cons (de_var (pv 0)) da_nil)))
    (dss_cons (ds_set (i := 1) sc_greatest_both.nd rfl (.inl rfl) (de_callB call_abs cr_abs rfl T.n_abs (by decide +kernel) (da_cons (de_var (pv 1)) da_nil)))
    (dss_cons (ds_while PassesOwn.never (dt_cmp op_ne r2_neI (de_var (pv 1)) de_int (nomark _)) (dss_one (ds_par (i := 0) (j := 1) rfl sc_greatest_both.nd rfl rfl (by decide) rfl rfl (da_cons (de_var (pv 1)) (da_cons (de_mod (de_var (pv 0)) (de_var (pv 1))) da_nil)) rfl)))
    (dss_one (ds_ret (de_var (pv 0)))))))) d_greatest_both
theorem ok_Exact_nought (T : Txt P base K mg cl a fd) : FnOk P w K mg base CX0 33 (a 35) (fd 35) ["self"] (spD 1 K cl c_Exact_nought) :=
  fn_okD T.f_Exact_nought sc_Exact_nought rfl rfl (fun sd Hs H0s cdv A outer s H E hr =>
    (dss_one (ds_ret (de_tup (da_cons de_int (da_cons de_int da_nil)))))) d_Exact_nought
theorem ok_Exact_is_nought (T : Txt P base K mg cl a fd) : FnOk P w K mg base CX0 33 (a 38) (fd 38) ["self", "left"] (spD 2 K cl c_Exact_is_nought) :=
  fn_okD T.f_Exact_is_nought sc_Exact_is_nought rfl rfl (fun sd Hs H0s cdv A outer s H E hr =>
    (dss_one (ds_ret (de_cmp op_eq r2_eqI (de_ix (de_var (pv 1)) de_int (fun _ _ => rfl)) de_int (nomark _))))) d_Exact_is_nought
theorem ok_l_begin (T : Txt P base K mg cl a fd) : FnOk P w K mg base CX0 33 (a 19) (fd 19) ["_law_script"] (spBegin K) := by
  refine T.f_l_begin.ok sc_l_begin (fun vs H Q E h => ?_) (fun cdv A outer s H vs Q E hr h => ?_)
  · obtain ⟨a, ns, rfl, _⟩ := h
    rfl
  obtain ⟨x, ns, rfl, hS, hl, k⟩ := h
  refine ⟨_, pss_cons (ps_set (i := 1) sc_l_begin.nd rfl (.inl rfl) (pe_callTy call_list_of (by rfl) T.n_list (by decide +kernel) (pa_cons (pe_slice sl_list (pv 0) po_none (po_some pe_int)) pa_nil)))
    (pss_cons (ps_if (pt_cmpR (op_eqD hr.units) (pv 1) (pe_lst pa_nil) (nomark _)) (pss_one (ps_set (i := 1) sc_l_begin.nd rfl (.inl rfl) (pe_lst (pa_cons pe_int pa_nil)))) pss_nil)
    (pss_one (ps_ret (pe_disp (pps_cons pe_str (pv 1) (pps_cons pe_str pe_int pps_nil)) (by rfl) (by rfl) (fun z => by cases z) (by decide))))), ?_⟩
  refine ⟨_, rfl, _, rfl, x, _, rfl, hS, fun p1 n1 => ⟨p1, _, rfl, .inl (SqL.of upd_same), fun p2 n2 => ?_⟩⟩
  obtain ⟨ms, hms⟩ : ∃ ms : List Int, cutV (ns.map V.int) none (some 63) = ms.map V.int := ⟨_, by unfold cutV; rw [← List.map_drop, ← List.map_take]⟩
  rw [hms]
  have nH1 : H p1 = none := n1
  have n12 : p2 ≠ p1 := fun z => by rw [z, upd_same] at n2; cases n2
  have nH2 : H p2 = none := by rw [upd_ne n12] at n2; exact n2
  refine ⟨_, rfl, Nat.zero_le _, fun p3 n3 => ?_⟩
  have n32 : p3 ≠ p2 := fun z => by rw [z, upd_same] at n3; cases n3
  have n31 : p3 ≠ p1 := fun z => by rw [z, upd_ne n12.symm, upd_same] at n3; cases n3
  have nH3 : H p3 = none := by rw [upd_ne n32, upd_ne n31] at n3; exact n3
  have dpi : ∀ (H : Hp) (l : List Int), DpAll K H (l.map V.int) (l.map PyData.int) := fun H l => by
    induction l with
    | nil => exact .nil
    | cons a l ih => exact .cons (.int a) ih
  have sh : ∀ l : List Int, SeqAt.shaped (.list (l.map PyData.int)) = true := fun l => by
    have q1 : ∀ l : List Int, PyData.canLayAll0 (l.map PyData.int) = true := fun l => by
      induction l with
      | nil => simp [PyData.canLayAll0]
      | cons a l ih => simp [PyData.canLayAll0, PyData.canLay0, ih]
    have q2 : ∀ l : List Int, PyData.depthAll (l.map PyData.int) = 0 := fun l => by
      induction l with
      | nil => simp [PyData.depthAll]
      | cons a l ih => simp [PyData.depthAll, PyData.depth, ih]
    simp [SeqAt.shaped, PyData.canLay0, PyData.depth, q1, q2]
  refine ⟨.list (ms.map PyData.int), .list [], .lst (SqL.of (by rw [upd_ne n32.symm]; exact upd_same)) (dpi _ ms), .lst (SqL.of upd_same) .nil, sh ms, sh [], _, rfl, ?_⟩
  have done : ∀ (q : Addr) (cells : List Int) (H1 : Hp), cells ≠ [] → Same H H1 → H q = none → H1 q = some (.lst (cells.map V.int)) → (∀ d, H1 d = none → Q (.ref d) (upd (upd H1 d (.dK [])) d (.dK (sttF (d, q) 0)))) := fun q cells H1 hc sm nq hq d nd => by
    have ndq : q ≠ d := fun z => by rw [z, nd] at hq; cases hq
    exact k (d, q) cells _ (fun b o e => by
      have nb : b ≠ d := fun z => by rw [← z, sm b o e] at nd; cases nd
      rw [upd_ne nb, upd_ne nb]; exact sm b o e) (sm.free nd) nq (fun z => ndq z.symm) hc upd_same (by rw [upd_ne ndq, upd_ne ndq]; exact hq)
  have e3 : ∀ (q d : Addr) (H1 : Hp), upd (upd H1 d (.dK [])) d (.dK (mergeK [] [(Sum.inr ("cells" : Str), V.ref q), (Sum.inr ("turn" : Str), V.int 0)])) = upd (upd H1 d (.dK [])) d (.dK (sttF (d, q) 0)) := fun q d H1 => by
    have n : ¬ ((Sum.inr ("cells" : Str) : Key) = Sum.inr ("turn" : Str)) := by intro h; injection h with h; exact ck_ne h
    have m : mergeK [] [(Sum.inr ("cells" : Str), V.ref q), (Sum.inr ("turn" : Str), V.int 0)] = sttF (d, q) 0 := by simp [mergeK, putK, sttF, n]
    rw [m]
  refine ite2 (fun _ => ?_) (fun he => ?_)
  · refine ⟨Nat.le_of_lt (by decide : 1 < sizeLine), fun p4 n4 => ?_⟩
    have n42 : p4 ≠ p2 := fun z => by rw [z, upd_ne n32.symm, upd_same] at n4; cases n4
    have n43 : p4 ≠ p3 := fun z => by rw [z, upd_same] at n4; cases n4
    have n41 : p4 ≠ p1 := fun z => by rw [z, upd_ne n31.symm, upd_ne n12.symm, upd_same] at n4; cases n4
    have nH4 : H p4 = none := by rw [upd_ne n43, upd_ne n42, upd_ne n41] at n4; exact n4
    refine fun d nd => ⟨_, rfl, upd_same, [(Sum.inr ("cells" : Str), V.ref p4), (Sum.inr ("turn" : Str), V.int 0)], rfl, (by show 2 ≤ 15; decide), ?_⟩
    rw [e3]
    refine done p4 [7] _ (by decide) (fun b o e => ?_) nH4 upd_same d nd
    rw [upd_ne (fun z => by rw [z, nH4] at e; cases e), upd_ne (fun z => by rw [z, nH3] at e; cases e), upd_ne (fun z => by rw [z, nH2] at e; cases e), upd_ne (fun z => by rw [z, nH1] at e; cases e)]
    exact e
  · refine fun d nd => ⟨_, rfl, upd_same, [(Sum.inr ("cells" : Str), V.ref p2), (Sum.inr ("turn" : Str), V.int 0)], rfl, (by show 2 ≤ 15; decide), ?_⟩
    rw [e3]
    refine done p2 ms _ (fun z => he (by rw [z]; decide +kernel)) (fun b o e => ?_) nH2 (by rw [upd_ne n32.symm]; exact upd_same) d nd
    rw [upd_ne (fun z => by rw [z, nH3] at e; cases e), upd_ne (fun z => by rw [z, nH2] at e; cases e), upd_ne (fun z => by rw [z, nH1] at e; cases e)]
    exact e

theorem ok_l_take (T : Txt P base K mg cl a fd) : FnOk P w K mg base CX0 33 (a 20) (fd 20) ["_law_state", "_law_many"] (spD 2 K cl c_l_take) := by
  refine T.f_l_take.ok sc_l_take (fun vs H Q E h => ?_) (fun cdv A outer s H vs Q E hr h => ?_)
  · obtain ⟨sd, ds, st, H0, Kf, R, hl, Dn, _⟩ := h
    rw [Dn.len, hl]; rfl
  obtain ⟨sd, ds, st, H0, Kf, R, hl, Dn, ⟨n, rfl, n0, n1, g, q⟩, k1, _⟩ := h
  unfold DenL DenL DenL at Dn
  obtain ⟨v, r, rfl, dv, w', r', rfl, dw, rfl⟩ := Dn
  unfold Den at dv dw
  subst dw
  obtain ⟨p, rfl, rfl⟩ := dv
  obtain ⟨a1, ⟨a2, a2'⟩, ⟨a3, a3'⟩, a4, a5⟩ := R.stt p rfl
  have hu := hu_of hr
  have tl := g.lo
  have th := g.hi
  refine ⟨_, pss_cons (ps_set (i := 2) sc_l_take.nd rfl (.inl rfl) (pe_op op_add (pe_dget hu (pv 0) pe_str (fun _ _ => rfl)) pe_int))
    (pss_cons (ps_dput hu (pv 0) pe_str (pv 2) rfl)
    (pss_cons (ps_set (i := 3) sc_l_take.nd rfl (.inl rfl) (pe_op op_modN (pv 2) (pe_callB call_len_seq (by rfl) T.n_len PySem.boot_len (pa_cons (pe_dget hu (pv 0) pe_str (fun _ _ => rfl)) pa_nil))))
    (pss_cons (ps_set (i := 4) sc_l_take.nd rfl (.inl rfl) (pe_ix ix_list (pe_dget hu (pv 0) pe_str (fun _ _ => rfl)) (pv 3) (fun _ _ => rfl)))
    (pss_cons (ps_if (pt_cmpR op_ge (pv 4) (pe_op op_powA pe_int pe_int) (nomark _)) (pss_cons (ps_asg (pe_callB call_divmodW (by rfl) T.n_divmod (by decide +kernel) (pa_cons (pv 4) (pa_cons (pv 1) pa_nil)))
        (pg_tup rfl (pgs_cons (pg_sub (pe_dget hu (pv 0) pe_str (fun _ _ => rfl)) (pv 3) set_list) (pgs_cons (pg_name (i := 5) sc_l_take.nd rfl (.inl rfl)) pgs_nil)))) (pss_one (ps_ret (pv 5)))) pss_nil)
    (pss_cons (ps_set (i := 6) sc_l_take.nd rfl (.inl rfl) (pe_op op_modN (pe_op op_mulA (pe_op op_add (pe_op op_add (pe_op op_modN (pv 4) pe_int) (pe_op op_mulA (pe_op op_mulA (pv 2) (pv 2)) pe_int)) pe_int) pe_int) pe_int))
    (pss_cons (ps_set (i := 6) sc_l_take.nd rfl (.inl rfl) (pe_op op_modN (pe_op op_mulA (pv 6) (pv 6)) pe_int))
    (pss_one (ps_ret (pe_op op_modN (pe_op op_divA (pe_op op_modN (pe_op op_mulA (pe_op op_add (pv 6) (pe_op op_mulA (pv 2) pe_int)) pe_int) pe_int) pe_int) (pv 1)))))))))), ?_⟩
  have np : p.2 ≠ p.1 := fun z => a1 z.symm
  have nn : n ≠ 0 := by omega
  refine ⟨_, rfl, p.1, _, rfl, by rw [← stt_turn p st.2]; exact DGet.k (k := Sum.inr ("turn" : Str)) a4, _, _, rfl, rfl, ?_⟩
  refine ⟨_, rfl, _, rfl, p.1, _, rfl, DPut.k (k := Sum.inr ("turn" : Str)) a4 (by show 2 < sizeLine; decide), ?_⟩
  rw [stt_put]
  -- the turn is one more from here on
  have b4 : upd H p.1 (.dK (sttF p (st.2 + 1))) p.1 = some (.dK (sttF p (st.2 + 1))) := upd_same
  have b5 : upd H p.1 (.dK (sttF p (st.2 + 1))) p.2 = some (.lst (st.1.map V.int)) := by rw [upd_ne np]; exact a5
  have old : ∀ b o, b ≠ p.1 → b ≠ p.2 → H b = some o → upd H p.1 (.dK (sttF p (st.2 + 1))) b = some o := fun b o h1 _ e => by rw [upd_ne h1]; exact e
  have fin : ∀ (cells : List Int) (x : Int) (H' : Hp), cells ≠ [] → 0 ≤ x → x < n → (∀ b o, b ≠ p.1 → b ≠ p.2 → H b = some o → H' b = some o) → H' p.1 = some (.dK (sttF p (st.2 + 1))) → H' p.2 = some (.lst (cells.map V.int)) → Q (.int x) H' :=
    fun cells x H' hc x0 x1 hk h1 h2 => k1 (.int x) (cells, st.2 + 1) (.int x) H' H0 (q x (cells, st.2 + 1) x0 x1 ⟨hc, by show st.2 ≤ st.2 + 1; omega, by show st.2 + 1 ≤ st.2 + 1; omega⟩) (R.turn hk h1 h2) den_int
  revert b4 b5 old
  generalize upd H p.1 (.dK (sttF p (st.2 + 1))) = H1
  intro b4 b5 old
  have len0 : 0 < st.1.length := by
    cases e : st.1 with
    | nil => exact absurd e g.ne
    | cons _ _ => exact Nat.succ_pos _
  have tb : (st.2 + 1).natAbs < 2 ^ 60 := by
    have : (2 : Nat) ^ 60 = 1152921504606846976 := by decide +kernel
    omega
  refine ⟨_, rfl, _, rfl, p.1, _, rfl, by rw [← stt_cells p (st.2 + 1)]; exact DGet.k (k := Sum.inr ("cells" : Str)) b4, p.2, _, rfl, .inl (SqL.of b5), _, _, rfl, rfl, by simp only [List.length_map]; omega, ?_⟩
  obtain ⟨j, hj, ej⟩ : ∃ j : Nat, j < st.1.length ∧ (st.2 + 1).fmod (((st.1.map V.int).length : Nat) : Int) = (j : Int) := by
    rw [List.length_map, Int.fmod_eq_emod_of_nonneg _ (by omega)]
    have h1 := Int.emod_nonneg (st.2 + 1) (show ((st.1.length : Nat) : Int) ≠ 0 by omega)
    have h2 := Int.emod_lt_of_pos (st.2 + 1) (show 0 < ((st.1.length : Nat) : Int) by omega)
    exact ⟨((st.2 + 1) % ((st.1.length : Nat) : Int)).toNat, by omega, by omega⟩
  have hat : (st.1.map V.int)[j]? = some (.int st.1[j]) := by simp [hj]
  refine ⟨_, rfl, p.1, _, rfl, by rw [← stt_cells p (st.2 + 1)]; exact DGet.k (k := Sum.inr ("cells" : Str)) b4, _, rfl, p.2, _, _, _, rfl, rfl, SqL.of b5, (by rw [ej]; exact atI_nat hat), ?_⟩
  refine ⟨_, rfl, _, _, rfl, rfl, ⟨⟨by decide, by decide, by decide⟩⟩, _, _, rfl, rfl, _, rfl, ?_⟩
  refine ite2 (fun _ => ?_) (fun _ => ?_)
  · -- a great cell gives a digit
    refine ⟨_, rfl, _, rfl, _, _, rfl, ⟨n0, PyProof.noPylong_of_log2 (sz9000 n0 n1)⟩, fun t ht => ?_⟩
    have nt1 : p.1 ≠ t := fun z => by rw [← z, b4] at ht; cases ht
    have nt2 : p.2 ≠ t := fun z => by rw [← z, b5] at ht; cases ht
    refine ⟨t, _, rfl, SqT.of upd_same, rfl, _, _, rfl, _, rfl, p.1, _, rfl, by rw [← stt_cells p (st.2 + 1)]; exact DGet.k (k := Sum.inr ("cells" : Str)) (by rw [upd_ne nt1]; exact b4), _, rfl, p.2, _, _, j, rfl, rfl, by rw [upd_ne nt2]; exact b5, ?_, ?_⟩
    · rw [ej]
      unfold ixN
      rw [if_pos (by omega), if_pos (by simp only [List.length_map]; omega)]; rfl
    refine ⟨_, _, rfl, rfl, _, rfl, ?_⟩
    refine fin (st.1.set j (st.1[j] / n)) _ _ (fun z => g.ne (List.eq_nil_of_length_eq_zero (by have := congrArg List.length z; rw [List.length_set] at this; exact this))) (Int.emod_nonneg _ nn) (Int.emod_lt_of_pos _ n0) (fun b o h1 h2 e => ?_) ?_ ?_
    · have o1 := old b o h1 h2 e
      rw [upd_ne h2, upd_ne (ne_of_none o1 ht)]; exact o1
    · rw [upd_ne a1, upd_ne nt1]; exact b4
    · rw [upd_same, List.map_set]
  · -- a lesser one is mixed
    refine ⟨_, rfl, _, _, rfl, rfl, nz (by decide), ?_⟩
    refine ⟨_, rfl, _, rfl, _, _, rfl, rfl, MulOk.sl tb, _, _, rfl, rfl, MulOk.sr (by decide), _, _, rfl, rfl, _, _, rfl, rfl, _, _, rfl, rfl, MulOk.sr (by decide), _, _, rfl, rfl, nz (by decide), ?_⟩
    refine ⟨_, rfl, _, rfl, _, _, rfl, rfl, MulOk.sl (small_mod _), _, _, rfl, rfl, nz (by decide), ?_⟩
    refine ⟨_, rfl, _, rfl, _, _, rfl, rfl, MulOk.sr (by decide), _, _, rfl, rfl, _, _, rfl, rfl, MulOk.sr (by decide), _, _, rfl, rfl, nz (by decide), _, _, rfl, rfl, ⟨by decide, by decide +kernel⟩, _, rfl, _, _, rfl, rfl, nz nn, ?_⟩
    exact fin st.1 _ _ g.ne (fmod_lt n0).1 (fmod_lt n0).2 old b4 b5

theorem ok_l_part (T : Txt P base K mg cl a fd) : FnOk P w K mg base CX0 33 (a 22) (fd 22) ["_law_top", "_law_below"] (spD 2 K cl c_l_part) :=
  fn_okD T.f_l_part sc_l_part rfl rfl (fun sd Hs H0s cdv A outer s H E hr =>
    (dss_cons (ds_par (i := 2) (j := 3) rfl sc_l_part.nd rfl rfl (by decide) rfl rfl (da_cons (de_callB call_abs cr_abs rfl T.n_abs (by decide +kernel) (da_cons (de_var (pv 0)) da_nil)) (da_cons (de_callB call_abs cr_abs rfl T.n_abs (by decide +kernel) (da_cons (de_var (pv 1)) da_nil)) da_nil)) rfl)
    (dss_cons (ds_while PassesOwn.never (dt_cmp op_gt r2_gt (de_var (pv 3)) de_int (nomark _)) (dss_one (ds_par (i := 2) (j := 3) rfl sc_l_part.nd rfl rfl (by decide) rfl rfl (da_cons (de_var (pv 3)) (da_cons (de_mod (de_var (pv 2)) (de_var (pv 3))) da_nil)) rfl)))
    (dss_cons (ds_set (i := 4) sc_l_part.nd rfl (.inl rfl) (de_sub de_int (de_mul de_int (de_callTy call_int1 cr_int rfl T.n_int (by decide +kernel) (da_cons (de_cmp op_lt r2_lt (de_var (pv 1)) de_int (nomark _)) da_nil)))))
    (dss_one (ds_ret (de_tup (da_cons (de_divE (Big.body T.seer T.tree hr (by decide) rfl rfl) (de_mul (de_var (pv 4)) (de_var (pv 0))) (de_var (pv 2))) (da_cons (de_divE (Big.body T.seer T.tree hr (by decide) rfl rfl) (de_mul (de_var (pv 4)) (de_var (pv 1))) (de_var (pv 2))) da_nil))))))))) d_l_part
theorem ok_l_trimmed (T : Txt P base K mg cl a fd) : FnOk P w K mg base CX0 33 (a 28) (fd 28) ["_law_numbers"] (spD 1 K cl c_l_trimmed) :=
  fn_okD T.f_l_trimmed sc_l_trimmed rfl rfl (fun sd Hs H0s cdv A outer s H E hr =>
    (dss_cons (ds_setO (i := 1) sc_l_trimmed.nd rfl (.inl rfl) (do_list rfl T.n_list (by decide +kernel) (da_cons (de_var (pv 0)) da_nil)))
    (dss_cons (ds_while PassesOwn.never (PW.pt (dw_and (dt_neO (op_neD hr.units) (pv 1) (DO.val (do_lst da_nil)) (nomark _)) (dw_and1 (dt_cmp op_eq r2_eqI (de_ix (de_ixO (pv 1) (de_neg de_int) (fun _ _ => rfl)) de_int (fun _ _ => rfl)) de_int (nomark _))))) (dss_one (ds_pop (pv 1))))
    (dss_one (ds_ret (de_tupO rfl T.n_tuple (by decide +kernel) (pv 1))))))) d_l_trimmed
theorem ok_number (T : Txt P base K mg cl a fd) : FnOk P w K mg base CX0 34 (a 1) (fd 1) ["top", "below"] (spD 2 K cl c_number) :=
  fn_okD T.f_number sc_number rfl rfl (fun sd Hs H0s cdv A outer s H E hr =>
    (dss_cons (ds_if (dt_cmp op_lt r2_lt (de_var (pv 1)) de_int (nomark _)) (dss_cons (ds_set (i := 0) sc_number.nd rfl (.inl rfl) (de_neg (de_var (pv 0))))
    (dss_one (ds_set (i := 1) sc_number.nd rfl (.inl rfl) (de_neg (de_var (pv 1)))))) dss_nil)
    (dss_cons (ds_set (i := 2) sc_number.nd rfl (.inl rfl) (de_fn (ok_greatest_both T) (hr.mono (by decide)) rfl T.m_greatest_both T.f_greatest_both.kp T.b_greatest_both (da_cons (de_var (pv 0)) (da_cons (de_var (pv 1)) da_nil))))
    (dss_one (ds_ret (de_tup (da_cons (de_divE (Big.body T.seer T.tree hr (by decide) rfl rfl) (de_var (pv 0)) (de_var (pv 2))) (da_cons (de_divE (Big.body T.seer T.tree hr (by decide) rfl rfl) (de_var (pv 1)) (de_var (pv 2))) da_nil)))))))) d_number
theorem ok_trimmed (T : Txt P base K mg cl a fd) : FnOk P w K mg base CX0 34 (a 6) (fd 6) ["field", "numbers"] (spD 2 K cl c_trimmed) :=
  fn_okD T.f_trimmed sc_trimmed rfl rfl (fun sd Hs H0s cdv A outer s H E hr =>
    (dss_cons (ds_set (i := 2) sc_trimmed.nd rfl (.inl rfl) (de_callB call_len cr_len rfl T.n_len (by decide +kernel) (da_cons (de_var (pv 1)) da_nil)))
    (dss_cons (ds_while PassesOwn.never (PW.pt (dw_and (dt_cmp op_gt r2_gt (de_var (pv 2)) de_int (nomark _)) (dw_and1 (dt_val (de_meth (t := 0) (n := 1) (de_var (pv 0)) T.c_Exact.cls T.me_Exact_is_nought (ok_Exact_is_nought T) (hr.mono (by decide)) T.b_Exact_is_nought (da_cons (de_ix (de_var (pv 1)) (de_sub (de_var (pv 2)) de_int) (fun _ _ => rfl)) da_nil)))))) (dss_one (ds_augI (i := 2) ip_sub sc_trimmed.nd rfl (.inl rfl) de_int)))
    (dss_one (ds_ret (de_callTy call_tuple_of cr_tuple rfl T.n_tuple (by decide +kernel) (da_cons (DO.val (do_lc (own := [("place", 3)]) rfl sc_trimmed.nd (di_range1 rfl T.n_range (da_cons (de_var (pv 2)) da_nil)) (blkOk_by (N := ["field", "numbers", "many", "place"]) (sc := defScope s_trimmed) (by decide +kernel)) (fun _ _ _ _ _ _ _ => (dg_name (vs := [3]) (pg_name (i := 3) sc_trimmed.nd rfl (.inl rfl)) (by decide))) (fun _ _ _ _ _ _ _ => dts_nil) (fun _ _ _ _ _ _ _ => (de_ix (de_var (pv 1)) (de_var (pv 3)) (fun _ _ => rfl))))) da_nil))))))) d_trimmed
theorem ok_number_row (T : Txt P base K mg cl a fd) : FnOk P w K mg base CX0 34 (a 13) (fd 13) ["field", "one", "place"] (spD 3 K cl c_number_row) :=
  fn_okD T.f_number_row sc_number_row rfl rfl (fun sd Hs H0s cdv A outer s H E hr =>
    (dss_one (ds_ret (de_if (dt_chain op_le r2_le op_lt r2_lt de_int (de_var (pv 2)) (de_callB call_len cr_len rfl T.n_len (by decide +kernel) (da_cons (de_var (pv 1)) da_nil))) (de_ix (de_var (pv 1)) (de_var (pv 2)) (fun _ _ => rfl)) (de_meth0 (t := 0) (de_var (pv 0)) T.c_Exact.cls T.me_Exact_nought (ok_Exact_nought T) (hr.mono (by decide)) T.b_Exact_nought))))) d_number_row
theorem ok_l_plus (T : Txt P base K mg cl a fd) : FnOk P w K mg base CX0 34 (a 23) (fd 23) ["_law_one", "_law_other"] (spD 2 K cl c_l_plus) :=
  fn_okD T.f_l_plus sc_l_plus rfl rfl (fun sd Hs H0s cdv A outer s H E hr =>
    (dss_one (ds_ret (de_fn (ok_l_part T) (hr.mono (by decide)) rfl T.m_l_part T.f_l_part.kp T.b_l_part (da_cons (de_add (de_mul (de_ix (de_var (pv 0)) de_int (fun _ _ => rfl)) (de_ix (de_var (pv 1)) de_int (fun _ _ => rfl))) (de_mul (de_ix (de_var (pv 1)) de_int (fun _ _ => rfl)) (de_ix (de_var (pv 0)) de_int (fun _ _ => rfl)))) (da_cons (de_mul (de_ix (de_var (pv 0)) de_int (fun _ _ => rfl)) (de_ix (de_var (pv 1)) de_int (fun _ _ => rfl))) da_nil)))))) d_l_plus
theorem ok_l_times (T : Txt P base K mg cl a fd) : FnOk P w K mg base CX0 34 (a 24) (fd 24) ["_law_one", "_law_other"] (spD 2 K cl c_l_times) :=
  fn_okD T.f_l_times sc_l_times rfl rfl (fun sd Hs H0s cdv A outer s H E hr =>
    (dss_one (ds_ret (de_fn (ok_l_part T) (hr.mono (by decide)) rfl T.m_l_part T.f_l_part.kp T.b_l_part (da_cons (de_mul (de_ix (de_var (pv 0)) de_int (fun _ _ => rfl)) (de_ix (de_var (pv 1)) de_int (fun _ _ => rfl))) (da_cons (de_mul (de_ix (de_var (pv 0)) de_int (fun _ _ => rfl)) (de_ix (de_var (pv 1)) de_int (fun _ _ => rfl))) da_nil)))))) d_l_times
theorem ok_l_over (T : Txt P base K mg cl a fd) : FnOk P w K mg base CX0 34 (a 25) (fd 25) ["_law_one", "_law_other"] (spD 2 K cl c_l_over) :=
  fn_okD T.f_l_over sc_l_over rfl rfl (fun sd Hs H0s cdv A outer s H E hr =>
    (dss_one (ds_ret (de_fn (ok_l_part T) (hr.mono (by decide)) rfl T.m_l_part T.f_l_part.kp T.b_l_part (da_cons (de_mul (de_ix (de_var (pv 0)) de_int (fun _ _ => rfl)) (de_ix (de_var (pv 1)) de_int (fun _ _ => rfl))) (da_cons (de_mul (de_ix (de_var (pv 0)) de_int (fun _ _ => rfl)) (de_ix (de_var (pv 1)) de_int (fun _ _ => rfl))) da_nil)))))) d_l_over
theorem ok_l_number (T : Txt P base K mg cl a fd) : FnOk P w K mg base CX0 34 (a 26) (fd 26) ["_law_state"] (spD 1 K cl c_l_number) :=
  fn_okD T.f_l_number sc_l_number rfl rfl (fun sd Hs H0s cdv A outer s H E hr =>
    (dss_cons (ds_set (i := 1) sc_l_number.nd rfl (.inl rfl) (de_fn (ok_l_take T) (hr.mono (by decide)) rfl T.m_l_take T.f_l_take.kp T.b_l_take (da_cons (de_var (pv 0)) (da_cons de_int da_nil))))
    (dss_cons (ds_if (dt_cmp op_lt r2_lt (de_var (pv 1)) de_int (nomark _)) (dss_one (ds_ret (de_tup (da_cons (de_sub (de_fn (ok_l_take T) (hr.mono (by decide)) rfl T.m_l_take T.f_l_take.kp T.b_l_take (da_cons (de_var (pv 0)) (da_cons de_int da_nil))) de_int) (da_cons de_int da_nil))))) dss_nil)
    (dss_cons (ds_if (dt_cmp op_lt r2_lt (de_var (pv 1)) de_int (nomark _)) (dss_one (ds_ret (de_fn (ok_l_part T) (hr.mono (by decide)) rfl T.m_l_part T.f_l_part.kp T.b_l_part (da_cons (de_sub (de_fn (ok_l_take T) (hr.mono (by decide)) rfl T.m_l_take T.f_l_take.kp T.b_l_take (da_cons (de_var (pv 0)) (da_cons de_int da_nil))) de_int) (da_cons (de_add de_int (de_fn (ok_l_take T) (hr.mono (by decide)) rfl T.m_l_take T.f_l_take.kp T.b_l_take (da_cons (de_var (pv 0)) (da_cons de_int da_nil)))) da_nil))))) dss_nil)
    (dss_cons (ds_set (i := 2) sc_l_number.nd rfl (.inl rfl) (de_add (de_mul (de_fn (ok_l_take T) (hr.mono (by decide)) rfl T.m_l_take T.f_l_take.kp T.b_l_take (da_cons (de_var (pv 0)) (da_cons de_int da_nil))) (de_pow de_int de_int)) (de_fn (ok_l_take T) (hr.mono (by decide)) rfl T.m_l_take T.f_l_take.kp T.b_l_take (da_cons (de_var (pv 0)) (da_cons (de_pow de_int de_int) da_nil)))))
    (dss_one (ds_ret (de_fn (ok_l_part T) (hr.mono (by decide)) rfl T.m_l_part T.f_l_part.kp T.b_l_part (da_cons (de_mul (de_var (pv 2)) (de_sub de_int (de_mul de_int (de_fn (ok_l_take T) (hr.mono (by decide)) rfl T.m_l_take T.f_l_take.kp T.b_l_take (da_cons (de_var (pv 0)) (da_cons de_int da_nil)))))) (da_cons (de_add de_int (de_fn (ok_l_take T) (hr.mono (by decide)) rfl T.m_l_take T.f_l_take.kp T.b_l_take (da_cons (de_var (pv 0)) (da_cons de_int da_nil)))) da_nil)))))))))) d_l_number
theorem ok_l_small (T : Txt P base K mg cl a fd) : FnOk P w K mg base CX0 34 (a 27) (fd 27) ["_law_state"] (spD 1 K cl c_l_small) :=
  fn_okD T.f_l_small sc_l_small rfl rfl (fun sd Hs H0s cdv A outer s H E hr =>
    (dss_one (ds_ret (de_fn (ok_l_part T) (hr.mono (by decide)) rfl T.m_l_part T.f_l_part.kp T.b_l_part (da_cons (de_ix (de_lstL (da_lit de_int (da_lit (de_negC de_int) (da_lit de_int (da_lit (de_negC de_int) (da_lit de_int (da_lit (de_negC de_int) (da_lit de_int (da_lit (de_negC de_int) da_lit0))))))))) (de_fn (ok_l_take T) (hr.mono (by decide)) rfl T.m_l_take T.f_l_take.kp T.b_l_take (da_cons (de_var (pv 0)) (da_cons de_int da_nil))) (fun _ _ => rfl)) (da_cons (de_add de_int (de_divE (Big.body T.seer T.tree hr (by decide) rfl rfl) (de_fn (ok_l_take T) (hr.mono (by decide)) rfl T.m_l_take T.f_l_take.kp T.b_l_take (da_cons (de_var (pv 0)) (da_cons de_int da_nil))) de_int)) da_nil)))))) d_l_small
theorem ok_plus (T : Txt P base K mg cl a fd) : FnOk P w K mg base CX0 35 (a 2) (fd 2) ["one", "other"] (spD 2 K cl c_plus) :=
  fn_okD T.f_plus sc_plus rfl rfl (fun sd Hs H0s cdv A outer s H E hr =>
    (dss_one (ds_ret (de_fn (ok_number T) (hr.mono (by decide)) rfl T.m_number T.f_number.kp T.b_number (da_cons (de_add (de_mul (de_ix (de_var (pv 0)) de_int (fun _ _ => rfl)) (de_ix (de_var (pv 1)) de_int (fun _ _ => rfl))) (de_mul (de_ix (de_var (pv 1)) de_int (fun _ _ => rfl)) (de_ix (de_var (pv 0)) de_int (fun _ _ => rfl)))) (da_cons (de_mul (de_ix (de_var (pv 0)) de_int (fun _ _ => rfl)) (de_ix (de_var (pv 1)) de_int (fun _ _ => rfl))) da_nil)))))) d_plus
theorem ok_minus (T : Txt P base K mg cl a fd) : FnOk P w K mg base CX0 35 (a 3) (fd 3) ["one", "other"] (spD 2 K cl c_minus) :=
  fn_okD T.f_minus sc_minus rfl rfl (fun sd Hs H0s cdv A outer s H E hr =>
    (dss_one (ds_ret (de_fn (ok_number T) (hr.mono (by decide)) rfl T.m_number T.f_number.kp T.b_number (da_cons (de_sub (de_mul (de_ix (de_var (pv 0)) de_int (fun _ _ => rfl)) (de_ix (de_var (pv 1)) de_int (fun _ _ => rfl))) (de_mul (de_ix (de_var (pv 1)) de_int (fun _ _ => rfl)) (de_ix (de_var (pv 0)) de_int (fun _ _ => rfl)))) (da_cons (de_mul (de_ix (de_var (pv 0)) de_int (fun _ _ => rfl)) (de_ix (de_var (pv 1)) de_int (fun _ _ => rfl))) da_nil)))))) d_minus
theorem ok_times (T : Txt P base K mg cl a fd) : FnOk P w K mg base CX0 35 (a 4) (fd 4) ["one", "other"] (spD 2 K cl c_times) :=
  fn_okD T.f_times sc_times rfl rfl (fun sd Hs H0s cdv A outer s H E hr =>
    (dss_one (ds_ret (de_fn (ok_number T) (hr.mono (by decide)) rfl T.m_number T.f_number.kp T.b_number (da_cons (de_mul (de_ix (de_var (pv 0)) de_int (fun _ _ => rfl)) (de_ix (de_var (pv 1)) de_int (fun _ _ => rfl))) (da_cons (de_mul (de_ix (de_var (pv 0)) de_int (fun _ _ => rfl)) (de_ix (de_var (pv 1)) de_int (fun _ _ => rfl))) da_nil)))))) d_times
theorem ok_over (T : Txt P base K mg cl a fd) : FnOk P w K mg base CX0 35 (a 5) (fd 5) ["one", "other"] (spD 2 K cl c_over) :=
  fn_okD T.f_over sc_over rfl rfl (fun sd Hs H0s cdv A outer s H E hr =>
    (dss_one (ds_ret (de_fn (ok_number T) (hr.mono (by decide)) rfl T.m_number T.f_number.kp T.b_number (da_cons (de_mul (de_ix (de_var (pv 0)) de_int (fun _ _ => rfl)) (de_ix (de_var (pv 1)) de_int (fun _ _ => rfl))) (da_cons (de_mul (de_ix (de_var (pv 0)) de_int (fun _ _ => rfl)) (de_ix (de_var (pv 1)) de_int (fun _ _ => rfl))) da_nil)))))) d_over
theorem ok_l_product (T : Txt P base K mg cl a fd) : FnOk P w K mg base CX0 35 (a 29) (fd 29) ["_law_one", "_law_other"] (spD 2 K cl c_l_product) :=
  fn_okD T.f_l_product sc_l_product rfl rfl (fun sd Hs H0s cdv A outer s H E hr =>
    (dss_cons (ds_setO (i := 2) sc_l_product.nd rfl (.inl rfl) (do_rep (DO.val (do_lst (da_cons (de_tup (da_cons de_int (da_cons de_int da_nil))) da_nil))) (de_callB (call_max2 rfl) cr_max2 rfl T.n_max (by decide +kernel) (da_cons de_int (da_cons (de_sub (de_add (de_callB call_len cr_len rfl T.n_len (by decide +kernel) (da_cons (de_var (pv 0)) da_nil)) (de_callB call_len cr_len rfl T.n_len (by decide +kernel) (da_cons (de_var (pv 1)) da_nil))) de_int) da_nil)))))
    (dss_cons (ds_for PassesOwn.never rfl (di_enum rfl T.n_enumerate (da_cons (de_var (pv 0)) da_nil)) (dg_tup rfl (dgs_cons (dg_name (vs := [3, 4]) (pg_name (i := 3) sc_l_product.nd rfl (.inl rfl)) (by decide)) (dgs_cons (dg_name (vs := [3, 4]) (pg_name (i := 4) sc_l_product.nd rfl (.inl rfl)) (by decide)) dgs_nil))) (dss_one (ds_for PassesOwn.never rfl (di_enum rfl T.n_enumerate (da_cons (de_var (pv 1)) da_nil)) (dg_tup rfl (dgs_cons (dg_name (vs := [5, 6]) (pg_name (i := 5) sc_l_product.nd rfl (.inl rfl)) (by decide)) (dgs_cons (dg_name (vs := [5, 6]) (pg_name (i := 6) sc_l_product.nd rfl (.inl rfl)) (by decide)) dgs_nil))) (dss_one (ds_sub (pv 2) (de_add (de_var (pv 3)) (de_var (pv 5))) (de_fn (ok_l_plus T) (hr.mono (by decide)) rfl T.m_l_plus T.f_l_plus.kp T.b_l_plus (da_cons (de_ixO (pv 2) (de_add (de_var (pv 3)) (de_var (pv 5))) (fun _ _ => rfl)) (da_cons (de_fn (ok_l_times T) (hr.mono (by decide)) rfl T.m_l_times T.f_l_times.kp T.b_l_times (da_cons (de_var (pv 4)) (da_cons (de_var (pv 6)) da_nil))) da_nil))))))))
    (dss_one (ds_ret (de_fn (ok_l_trimmed T) (hr.mono (by decide)) rfl T.m_l_trimmed T.f_l_trimmed.kp T.b_l_trimmed (da_cons (de_frz (pv 2)) da_nil))))))) d_l_product
theorem ok_l_two_polys (T : Txt P base K mg cl a fd) : FnOk P w K mg base CX0 35 (a 30) (fd 30) ["_law_state", "_law_a", "_law_b"] (spD 3 K cl c_l_two_polys2) :=
  fn_okD T.f_l_two_polys sc_l_two_polys rfl rfl (fun sd Hs H0s cdv A outer s H E hr =>
    (dss_cons (ds_set (i := 3) sc_l_two_polys.nd rfl (.inl rfl) (de_add (DO.val (do_lc (own := [("_law_k", 5)]) rfl sc_l_two_polys.nd (di_range1 rfl T.n_range (da_cons (de_var (pv 1)) da_nil)) (blkOk_by (N := ["_law_state", "_law_a", "_law_b", "_law_top", "_law_below", "_law_k"]) (sc := defScope s_l_two_polys) (by decide +kernel)) (fun _ _ _ _ _ _ _ => (dg_name (vs := [5]) (pg_name (i := 5) sc_l_two_polys.nd rfl (.inl rfl)) (by decide))) (fun _ _ _ _ _ _ _ => dts_nil) (fun _ _ _ _ _ _ _ => (de_if (dt_cmp op_lt r2_lt (de_var (pv 5)) de_int (nomark _)) (de_fn (ok_l_number T) (hr.mono (by decide)) rfl T.m_l_number T.f_l_number.kp T.b_l_number (da_cons (de_var (pv 0)) da_nil)) (de_tup (da_cons (de_sub (de_fn (ok_l_take T) (hr.mono (by decide)) rfl T.m_l_take T.f_l_take.kp T.b_l_take (da_cons (de_var (pv 0)) (da_cons de_int da_nil))) de_int) (da_cons de_int da_nil))))))) (DO.val (do_lst (da_cons (de_fn (ok_l_small T) (hr.mono (by decide)) rfl T.m_l_small T.f_l_small.kp T.b_l_small (da_cons (de_var (pv 0)) da_nil)) da_nil)))))
    (dss_cons (ds_set (i := 4) sc_l_two_polys.nd rfl (.inl rfl) (de_add (DO.val (do_lst (da_cons (de_tup (da_cons de_int (da_cons de_int da_nil))) da_nil))) (DO.val (do_lc (own := [("_law_k", 5)]) rfl sc_l_two_polys.nd (di_range1 rfl T.n_range (da_cons (de_sub (de_var (pv 2)) de_int) da_nil)) (blkOk_by (N := ["_law_state", "_law_a", "_law_b", "_law_top", "_law_below", "_law_k"]) (sc := defScope s_l_two_polys) (by decide +kernel)) (fun _ _ _ _ _ _ _ => (dg_name (vs := [5]) (pg_name (i := 5) sc_l_two_polys.nd rfl (.inl rfl)) (by decide))) (fun _ _ _ _ _ _ _ => dts_nil) (fun _ _ _ _ _ _ _ => (de_tup (da_cons (de_sub (de_fn (ok_l_take T) (hr.mono (by decide)) rfl T.m_l_take T.f_l_take.kp T.b_l_take (da_cons (de_var (pv 0)) (da_cons de_int da_nil))) de_int) (da_cons de_int da_nil))))))))
    (dss_one (ds_ret (de_tup (da_cons (de_fn (ok_l_trimmed T) (hr.mono (by decide)) rfl T.m_l_trimmed T.f_l_trimmed.kp T.b_l_trimmed (da_cons (de_var (pv 3)) da_nil)) (da_cons (de_callTy call_tuple_of cr_tuple rfl T.n_tuple (by decide +kernel) (da_cons (de_add (de_var (pv 4)) (DO.val (do_rep (DO.val (do_lst (da_cons (de_fn (ok_l_small T) (hr.mono (by decide)) rfl T.m_l_small T.f_l_small.kp T.b_l_small (da_cons (de_var (pv 0)) da_nil)) da_nil))) (de_callTy call_int1 cr_int rfl T.n_int (by decide +kernel) (da_cons (de_cmp op_gt r2_gt (de_var (pv 2)) de_int (nomark _)) da_nil))))) da_nil)) da_nil)))))))) d_l_two_polys2
theorem ok_l_worth (T : Txt P base K mg cl a fd) : FnOk P w K mg base CX0 35 (a 31) (fd 31) ["_law_one", "_law_x"] (spD 2 K cl c_l_worth) :=
  fn_okD T.f_l_worth sc_l_worth rfl rfl (fun sd Hs H0s cdv A outer s H E hr =>
    (dss_cons (ds_set (i := 2) sc_l_worth.nd rfl (.inl rfl) (de_tup (da_cons de_int (da_cons de_int da_nil))))
    (dss_cons (ds_for PassesOwn.never rfl (di_seq (de_revS (DO.val (do_list rfl T.n_list (by decide +kernel) (da_cons (de_var (pv 0)) da_nil))))) (dg_name (vs := [3]) (pg_name (i := 3) sc_l_worth.nd rfl (.inl rfl)) (by decide)) (dss_one (ds_set (i := 2) sc_l_worth.nd rfl (.inl rfl) (de_fn (ok_l_plus T) (hr.mono (by decide)) rfl T.m_l_plus T.f_l_plus.kp T.b_l_plus (da_cons (de_fn (ok_l_times T) (hr.mono (by decide)) rfl T.m_l_times T.f_l_times.kp T.b_l_times (da_cons (de_var (pv 2)) (da_cons (de_var (pv 1)) da_nil))) (da_cons (de_var (pv 3)) da_nil))))))
    (dss_one (ds_ret (de_var (pv 2))))))) d_l_worth
theorem ok_Exact_plus (T : Txt P base K mg cl a fd) : FnOk P w K mg base CX0 36 (a 36) (fd 36) ["self", "left", "right"] (spD 3 K cl c_Exact_plus) :=
  fn_okD T.f_Exact_plus sc_Exact_plus rfl rfl (fun sd Hs H0s cdv A outer s H E hr =>
    (dss_one (ds_ret (de_fn (ok_plus T) (hr.mono (by decide)) rfl T.m_plus_numbers T.f_plus.kp T.b_plus (da_cons (de_var (pv 1)) (da_cons (de_var (pv 2)) da_nil)))))) d_Exact_plus
theorem ok_Exact_times (T : Txt P base K mg cl a fd) : FnOk P w K mg base CX0 36 (a 37) (fd 37) ["self", "left", "right"] (spD 3 K cl c_Exact_times) :=
  fn_okD T.f_Exact_times sc_Exact_times rfl rfl (fun sd Hs H0s cdv A outer s H E hr =>
    (dss_one (ds_ret (de_fn (ok_times T) (hr.mono (by decide)) rfl T.m_times_numbers T.f_times.kp T.b_times (da_cons (de_var (pv 1)) (da_cons (de_var (pv 2)) da_nil)))))) d_Exact_times
theorem ok_Exact_over (T : Txt P base K mg cl a fd) : FnOk P w K mg base CX0 36 (a 39) (fd 39) ["self", "left", "right"] (spD 3 K cl c_Exact_over) :=
  fn_okD T.f_Exact_over sc_Exact_over rfl rfl (fun sd Hs H0s cdv A outer s H E hr =>
    (dss_one (ds_ret (de_fn (ok_over T) (hr.mono (by decide)) rfl T.m_over_numbers T.f_over.kp T.b_over (da_cons (de_var (pv 1)) (da_cons (de_var (pv 2)) da_nil)))))) d_Exact_over
theorem ok_Exact_minus (T : Txt P base K mg cl a fd) : FnOk P w K mg base CX0 36 (a 40) (fd 40) ["self", "left", "right"] (spD 3 K cl c_Exact_minus) :=
  fn_okD T.f_Exact_minus sc_Exact_minus rfl rfl (fun sd Hs H0s cdv A outer s H E hr =>
    (dss_one (ds_ret (de_fn (ok_minus T) (hr.mono (by decide)) rfl T.m_minus_numbers T.f_minus.kp T.b_minus (da_cons (de_var (pv 1)) (da_cons (de_var (pv 2)) da_nil)))))) d_Exact_minus
theorem ok_parted_by (T : Txt P base K mg cl a fd) : FnOk P w K mg base CX0 37 (a 7) (fd 7) ["field", "left", "right"] (spD 3 K cl c_parted_by) :=
  fn_okD T.f_parted_by sc_parted_by rfl rfl (fun sd Hs H0s cdv A outer s H E hr =>
    (dss_cons (ds_setO (i := 3) sc_parted_by.nd rfl (.inl rfl) (do_list rfl T.n_list (by decide +kernel) (da_cons (de_var (pv 1)) da_nil)))
    (dss_cons (ds_set (i := 4) sc_parted_by.nd rfl (.inl rfl) (de_add (de_sub (de_callB call_len cr_len rfl T.n_len (by decide +kernel) (da_cons (de_var (pv 1)) da_nil)) (de_callB call_len cr_len rfl T.n_len (by decide +kernel) (da_cons (de_var (pv 2)) da_nil))) de_int))
    (dss_cons (ds_setO (i := 5) sc_parted_by.nd rfl (.inl rfl) (do_rep (DO.val (do_lst (da_cons (de_meth0 (t := 0) (de_var (pv 0)) T.c_Exact.cls T.me_Exact_nought (ok_Exact_nought T) (hr.mono (by decide)) T.b_Exact_nought) da_nil))) (de_callB (call_max2 rfl) cr_max2 rfl T.n_max (by decide +kernel) (da_cons de_int (da_cons (de_var (pv 4)) da_nil)))))
    (dss_cons (ds_for PassesOwn.never rfl (di_range3 rfl T.n_range (da_cons (de_sub (de_var (pv 4)) de_int) (da_cons (de_neg de_int) (da_cons (de_neg de_int) da_nil)))) (dg_name (vs := [6]) (pg_name (i := 6) sc_parted_by.nd rfl (.inl rfl)) (by decide)) (dss_cons (ds_set (i := 7) sc_parted_by.nd rfl (.inl rfl) (de_meth (t := 0) (n := 2) (de_var (pv 0)) T.c_Exact.cls T.me_Exact_over (ok_Exact_over T) (hr.mono (by decide)) T.b_Exact_over (da_cons (de_ixO (pv 3) (de_sub (de_add (de_var (pv 6)) (de_callB call_len cr_len rfl T.n_len (by decide +kernel) (da_cons (de_var (pv 2)) da_nil))) de_int) (fun _ _ => rfl)) (da_cons (de_ix (de_var (pv 2)) (de_neg de_int) (fun _ _ => rfl)) da_nil))))
    (dss_cons (ds_sub (pv 5) (de_var (pv 6)) (de_var (pv 7)))
    (dss_one (ds_for PassesOwn.never rfl (di_enum rfl T.n_enumerate (da_cons (de_var (pv 2)) da_nil)) (dg_tup rfl (dgs_cons (dg_name (vs := [8, 9]) (pg_name (i := 8) sc_parted_by.nd rfl (.inl rfl)) (by decide)) (dgs_cons (dg_name (vs := [8, 9]) (pg_name (i := 9) sc_parted_by.nd rfl (.inl rfl)) (by decide)) dgs_nil))) (dss_one (ds_sub (pv 3) (de_add (de_var (pv 6)) (de_var (pv 8))) (de_meth (t := 0) (n := 2) (de_var (pv 0)) T.c_Exact.cls T.me_Exact_minus (ok_Exact_minus T) (hr.mono (by decide)) T.b_Exact_minus (da_cons (de_ixO (pv 3) (de_add (de_var (pv 6)) (de_var (pv 8))) (fun _ _ => rfl)) (da_cons (de_meth (t := 0) (n := 2) (de_var (pv 0)) T.c_Exact.cls T.me_Exact_times (ok_Exact_times T) (hr.mono (by decide)) T.b_Exact_times (da_cons (de_var (pv 7)) (da_cons (de_var (pv 9)) da_nil))) da_nil))))))))))
    (dss_one (ds_ret (de_tup (da_cons (de_fn (ok_trimmed T) (hr.mono (by decide)) rfl T.m_trimmed T.f_trimmed.kp T.b_trimmed (da_cons (de_var (pv 0)) (da_cons (de_frz (pv 5)) da_nil))) (da_cons (de_fn (ok_trimmed T) (hr.mono (by decide)) rfl T.m_trimmed T.f_trimmed.kp T.b_trimmed (da_cons (de_var (pv 0)) (da_cons (de_sl (de_frz (pv 3)) dp_n (dp_s (de_sub (de_callB call_len cr_len rfl T.n_len (by decide +kernel) (da_cons (de_var (pv 2)) da_nil)) de_int))) da_nil))) da_nil)))))))))) d_parted_by
theorem ok_value_by (T : Txt P base K mg cl a fd) : FnOk P w K mg base CX0 37 (a 9) (fd 9) ["field", "left", "x"] (spD 3 K cl c_value_by) :=
  fn_okD T.f_value_by sc_value_by rfl rfl (fun sd Hs H0s cdv A outer s H E hr =>
    (dss_cons (ds_set (i := 3) sc_value_by.nd rfl (.inl rfl) (de_meth0 (t := 0) (de_var (pv 0)) T.c_Exact.cls T.me_Exact_nought (ok_Exact_nought T) (hr.mono (by decide)) T.b_Exact_nought))
    (dss_cons (ds_for PassesOwn.never rfl (di_rev rfl T.n_reversed (de_var (pv 1))) (dg_name (vs := [4]) (pg_name (i := 4) sc_value_by.nd rfl (.inl rfl)) (by decide)) (dss_one (ds_set (i := 3) sc_value_by.nd rfl (.inl rfl) (de_meth (t := 0) (n := 2) (de_var (pv 0)) T.c_Exact.cls T.me_Exact_plus (ok_Exact_plus T) (hr.mono (by decide)) T.b_Exact_plus (da_cons (de_meth (t := 0) (n := 2) (de_var (pv 0)) T.c_Exact.cls T.me_Exact_times (ok_Exact_times T) (hr.mono (by decide)) T.b_Exact_times (da_cons (de_var (pv 3)) (da_cons (de_var (pv 2)) da_nil))) (da_cons (de_var (pv 4)) da_nil))))))
    (dss_one (ds_ret (de_var (pv 3))))))) d_value_by
theorem ok_over_all (T : Txt P base K mg cl a fd) : FnOk P w K mg base CX0 37 (a 11) (fd 11) ["field", "one", "number"] (spD 3 K cl c_over_all) :=
  fn_okD T.f_over_all sc_over_all rfl rfl (fun sd Hs H0s cdv A outer s H E hr =>
    (dss_one (ds_ret (de_callTy call_tuple_of cr_tuple rfl T.n_tuple (by decide +kernel) (da_cons (DO.val (do_lc (own := [("part", 3)]) rfl sc_over_all.nd (di_seq (de_var (pv 1))) (blkOk_by (N := ["field", "one", "number", "part"]) (sc := defScope s_over_all) (by decide +kernel)) (fun _ _ _ _ _ _ _ => (dg_name (vs := [3]) (pg_name (i := 3) sc_over_all.nd rfl (.inl rfl)) (by decide))) (fun _ _ _ _ _ _ _ => dts_nil) (fun _ _ _ _ _ _ _ => (de_meth (t := 0) (n := 2) (de_var (pv 0)) T.c_Exact.cls T.me_Exact_over (ok_Exact_over T) (hr.mono (by decide)) T.b_Exact_over (da_cons (de_var (pv 3)) (da_cons (de_var (pv 2)) da_nil)))))) da_nil))))) d_over_all
theorem ok_weighed_at (T : Txt P base K mg cl a fd) : FnOk P w K mg base CX0 37 (a 14) (fd 14) ["field", "below", "row", "place"] (spD 4 K cl c_weighed_at) :=
  fn_okD T.f_weighed_at sc_weighed_at rfl rfl (fun sd Hs H0s cdv A outer s H E hr =>
    (dss_cons (ds_set (i := 4) sc_weighed_at.nd rfl (.inl rfl) (de_meth0 (t := 0) (de_var (pv 0)) T.c_Exact.cls T.me_Exact_nought (ok_Exact_nought T) (hr.mono (by decide)) T.b_Exact_nought))
    (dss_cons (ds_for PassesOwn.never rfl (di_range2 rfl T.n_range (da_cons de_int (da_cons (de_callB call_len cr_len rfl T.n_len (by decide +kernel) (da_cons (de_var (pv 1)) da_nil)) da_nil))) (dg_name (vs := [5]) (pg_name (i := 5) sc_weighed_at.nd rfl (.inl rfl)) (by decide)) (dss_one (ds_set (i := 4) sc_weighed_at.nd rfl (.inl rfl) (de_meth (t := 0) (n := 2) (de_var (pv 0)) T.c_Exact.cls T.me_Exact_plus (ok_Exact_plus T) (hr.mono (by decide)) T.b_Exact_plus (da_cons (de_var (pv 4)) (da_cons (de_meth (t := 0) (n := 2) (de_var (pv 0)) T.c_Exact.cls T.me_Exact_times (ok_Exact_times T) (hr.mono (by decide)) T.b_Exact_times (da_cons (de_ix (de_var (pv 1)) (de_var (pv 5)) (fun _ _ => rfl)) (da_cons (de_fn (ok_number_row T) (hr.mono (by decide)) rfl T.m_number_at T.f_number_row.kp T.b_number_row (da_cons (de_var (pv 0)) (da_cons (de_var (pv 2)) (da_cons (de_sub (de_var (pv 3)) (de_var (pv 5))) da_nil)))) da_nil))) da_nil))))))
    (dss_one (ds_ret (de_var (pv 4))))))) d_weighed_at
theorem ok_common_by (T : Txt P base K mg cl a fd) : FnOk P w K mg base CX0 38 (a 8) (fd 8) ["field", "left", "right"] (spD 3 K cl c_common_by) :=
  fn_okD T.f_common_by sc_common_by rfl rfl (fun sd Hs H0s cdv A outer s H E hr =>
    (dss_cons (ds_set (i := 3) sc_common_by.nd rfl (.inr rfl) (de_fn (ok_trimmed T) (hr.mono (by decide)) rfl T.m_trimmed T.f_trimmed.kp T.b_trimmed (da_cons (de_var (pv 0)) (da_cons (de_var (pv 1)) da_nil))))
    (dss_cons (ds_set (i := 4) sc_common_by.nd rfl (.inl rfl) (de_fn (ok_trimmed T) (hr.mono (by decide)) rfl T.m_trimmed T.f_trimmed.kp T.b_trimmed (da_cons (de_var (pv 0)) (da_cons (de_var (pv 2)) da_nil))))
    (dss_cons (ds_while PassesOwn.never (dt_cmp op_gt r2_gt (de_callB call_len cr_len rfl T.n_len (by decide +kernel) (da_cons (de_var (pv 4)) da_nil)) de_int (nomark _)) (dss_one (ds_asg (de_tup (da_cons (de_var (pv 4)) (da_cons (de_ix (de_fn (ok_parted_by T) (hr.mono (by decide)) rfl T.m_parted_by T.f_parted_by.kp T.b_parted_by (da_cons (de_var (pv 0)) (da_cons (de_var (pv 3)) (da_cons (de_var (pv 4)) da_nil)))) de_int (fun _ _ => rfl)) da_nil))) (dg_tup rfl (dgs_cons (dg_name (vs := [3, 4]) (pg_name (i := 3) sc_common_by.nd rfl (.inr rfl)) (by decide)) (dgs_cons (dg_name (vs := [3, 4]) (pg_name (i := 4) sc_common_by.nd rfl (.inl rfl)) (by decide)) dgs_nil))))))
    (dss_one (ds_ret (de_callTy call_tuple_of cr_tuple rfl T.n_tuple (by decide +kernel) (da_cons (DO.val (do_lc (own := [("number", 5)]) rfl sc_common_by.nd (di_seq (de_var (pv 3))) (blkOk_by (N := ["field", "left", "right", "one", "other", "number"]) (sc := defScope s_common_by) (by decide +kernel)) (fun _ _ _ _ _ _ _ => (dg_name (vs := [5]) (pg_name (i := 5) sc_common_by.nd rfl (.inl rfl)) (by decide))) (fun _ _ _ _ _ _ _ => dts_nil) (fun _ _ _ _ _ _ _ => (de_meth (t := 0) (n := 2) (de_var (pv 0)) T.c_Exact.cls T.me_Exact_over (ok_Exact_over T) (hr.mono (by decide)) T.b_Exact_over (da_cons (de_var (pv 5)) (da_cons (de_ix (de_var (pv 3)) (de_neg de_int) (fun _ _ => rfl)) da_nil)))))) da_nil)))))))) d_common_by
theorem ok_value_at (T : Txt P base K mg cl a fd) : FnOk P w K mg base CX0 38 (a 10) (fd 10) ["one", "x"] (spD 2 K cl c_value_at) :=
  fn_okD T.f_value_at sc_value_at rfl rfl (fun sd Hs H0s cdv A outer s H E hr =>
    (dss_one (ds_ret (de_fn (ok_value_by T) (hr.mono (by decide)) rfl T.m_value_by T.f_value_by.kp T.b_value_by (da_cons (de_bare (t := 0) T.c_Exact rfl) (da_cons (de_var (pv 0)) (da_cons (de_var (pv 1)) da_nil))))))) d_value_at
theorem ok_row_in (T : Txt P base K mg cl a fd) : FnOk P w K mg base CX0 38 (a 15) (fd 15) ["field", "one", "many"] (spD 3 K cl c_row_in) :=
  fn_okD T.f_row_in sc_row_in rfl rfl (fun sd Hs H0s cdv A outer s H E hr =>
    (dss_cons (ds_asg (de_var (pv 1)) (dg_tupQ rfl (dgs_cons (dg_name (vs := [3, 4]) (pg_name (i := 3) sc_row_in.nd rfl (.inl rfl)) (by decide)) (dgs_cons (dg_name (vs := [3, 4]) (pg_name (i := 4) sc_row_in.nd rfl (.inl rfl)) (by decide)) dgs_nil))))
    (dss_cons (ds_setO (i := 5) sc_row_in.nd rfl (.inl rfl) (do_lst da_nil))
    (dss_cons (ds_for PassesOwn.never rfl (di_range1 rfl T.n_range (da_cons (de_var (pv 2)) da_nil)) (dg_name (vs := [6]) (pg_name (i := 6) sc_row_in.nd rfl (.inl rfl)) (by decide)) (dss_one (ds_app (pv 5) (de_meth (t := 0) (n := 2) (de_var (pv 0)) T.c_Exact.cls T.me_Exact_minus (ok_Exact_minus T) (hr.mono (by decide)) T.b_Exact_minus (da_cons (de_fn (ok_number_row T) (hr.mono (by decide)) rfl T.m_number_at T.f_number_row.kp T.b_number_row (da_cons (de_var (pv 0)) (da_cons (de_var (pv 3)) (da_cons (de_var (pv 6)) da_nil)))) (da_cons (de_borT (i := 5) (fun _ _ => (de_fn (ok_weighed_at T) (hr.mono (by decide)) rfl T.m_weighed_at T.f_weighed_at.kp T.b_weighed_at (da_cons (de_var (pv 0)) (da_cons (de_var (pv 4)) (da_cons (de_var (pv 5)) (da_cons (de_var (pv 6)) da_nil))))))) da_nil))))))
    (dss_one (ds_retV (pv 5))))))) d_row_in
theorem ok_quotient_in (T : Txt P base K mg cl a fd) : FnOk P w K mg base CX0 39 (a 12) (fd 12) ["field", "top", "below"] (spD 3 K cl c_quotient_in) :=
  fn_okD T.f_quotient_in sc_quotient_in rfl rfl (fun sd Hs H0s cdv A outer s H E hr =>
    (dss_cons (ds_par (i := 3) (j := 4) rfl sc_quotient_in.nd rfl rfl (by decide) rfl rfl (da_cons (de_fn (ok_trimmed T) (hr.mono (by decide)) rfl T.m_trimmed T.f_trimmed.kp T.b_trimmed (da_cons (de_var (pv 0)) (da_cons (de_var (pv 1)) da_nil))) (da_cons (de_fn (ok_trimmed T) (hr.mono (by decide)) rfl T.m_trimmed T.f_trimmed.kp T.b_trimmed (da_cons (de_var (pv 0)) (da_cons (de_var (pv 2)) da_nil))) da_nil)) rfl)
    (dss_cons (ds_if (dt_cmp op_eq r2_eqI (de_callB call_len cr_len rfl T.n_len (by decide +kernel) (da_cons (de_var (pv 4)) da_nil)) de_int (nomark _)) (dss_one ds_never) dss_nil)
    (dss_cons (ds_set (i := 5) sc_quotient_in.nd rfl (.inl rfl) (de_fn (ok_common_by T) (hr.mono (by decide)) rfl T.m_common_by T.f_common_by.kp T.b_common_by (da_cons (de_var (pv 0)) (da_cons (de_var (pv 3)) (da_cons (de_var (pv 4)) da_nil)))))
    (dss_cons (ds_par (i := 3) (j := 4) rfl sc_quotient_in.nd rfl rfl (by decide) rfl rfl (da_cons (de_ix (de_fn (ok_parted_by T) (hr.mono (by decide)) rfl T.m_parted_by T.f_parted_by.kp T.b_parted_by (da_cons (de_var (pv 0)) (da_cons (de_var (pv 3)) (da_cons (de_var (pv 5)) da_nil)))) de_int (fun _ _ => rfl)) (da_cons (de_ix (de_fn (ok_parted_by T) (hr.mono (by decide)) rfl T.m_parted_by T.f_parted_by.kp T.b_parted_by (da_cons (de_var (pv 0)) (da_cons (de_var (pv 4)) (da_cons (de_var (pv 5)) da_nil)))) de_int (fun _ _ => rfl)) da_nil)) rfl)
    (dss_cons (ds_if (dt_val (de_meth (t := 0) (n := 1) (de_var (pv 0)) T.c_Exact.cls T.me_Exact_is_nought (ok_Exact_is_nought T) (hr.mono (by decide)) T.b_Exact_is_nought (da_cons (de_ix (de_var (pv 4)) de_int (fun _ _ => rfl)) da_nil))) (dss_one ds_never) dss_nil)
    (dss_one (ds_ret (de_tup (da_cons (de_fn (ok_over_all T) (hr.mono (by decide)) rfl T.m_over_all T.f_over_all.kp T.b_over_all (da_cons (de_var (pv 0)) (da_cons (de_var (pv 3)) (da_cons (de_ix (de_var (pv 4)) de_int (fun _ _ => rfl)) da_nil)))) (da_cons (de_fn (ok_over_all T) (hr.mono (by decide)) rfl T.m_over_all T.f_over_all.kp T.b_over_all (da_cons (de_var (pv 0)) (da_cons (de_var (pv 4)) (da_cons (de_ix (de_var (pv 4)) de_int (fun _ _ => rfl)) da_nil)))) da_nil))))))))))) d_quotient_in
theorem okx_value (T : Txt P base K mg cl a fd) : FnOk P w K mg base (L2.CX P w) 39 (a 17) (fd 17) ["one", "x"] (spX 2 K cl cx_value) :=
  fn_okX T.f_value sc_value rfl rfl (fun sd Hs H0s cdv A outer s H E hr =>
    (dxs_cons (dx_of (ds_set (i := 2) sc_value.nd rfl (.inl rfl) (de_fn (ok_value_at T) (hr.mono (by decide)) rfl T.m_value_at T.f_value_at.kp T.b_value_at (da_cons (de_ix (de_var (pv 0)) de_int (fun _ _ => rfl)) (da_cons (de_var (pv 1)) da_nil)))))
    (dxs_cons (dx_if (dt_cmp (op_eqD hr.units) r2_eqD (de_var (pv 2)) (de_k T.k_NOUGHT rfl) (nomark _)) (dxs_one (dx_raise (t := 4) rfl (takes_of rfl rfl rfl rfl) T.e_Pole rfl)) (dxs_of (PSs.nox dss_nil)))
    (dxs_of (PSs.nox (dss_one (ds_ret (de_fn (ok_over T) (hr.mono (by decide)) rfl T.m_over_numbers T.f_over.kp T.b_over (da_cons (de_fn (ok_value_at T) (hr.mono (by decide)) rfl T.m_value_at T.f_value_at.kp T.b_value_at (da_cons (de_ix (de_var (pv 0)) de_int (fun _ _ => rfl)) (da_cons (de_var (pv 1)) da_nil))) (da_cons (de_var (pv 2)) da_nil)))))))))) dx_value
theorem ok_value (T : Txt P base K mg cl a fd) : FnOk P w K mg base CX0 39 (a 17) (fd 17) ["one", "x"] (spD 2 K cl c_value) :=
  fn_okD T.f_value sc_value rfl rfl (fun sd Hs H0s cdv A outer s H E hr =>
    (dss_cons (ds_set (i := 2) sc_value.nd rfl (.inl rfl) (de_fn (ok_value_at T) (hr.mono (by decide)) rfl T.m_value_at T.f_value_at.kp T.b_value_at (da_cons (de_ix (de_var (pv 0)) de_int (fun _ _ => rfl)) (da_cons (de_var (pv 1)) da_nil))))
    (dss_cons (ds_if (dt_cmp (op_eqD hr.units) r2_eqD (de_var (pv 2)) (de_k T.k_NOUGHT rfl) (nomark _)) (dss_one ds_never) dss_nil)
    (dss_one (ds_ret (de_fn (ok_over T) (hr.mono (by decide)) rfl T.m_over_numbers T.f_over.kp T.b_over (da_cons (de_fn (ok_value_at T) (hr.mono (by decide)) rfl T.m_value_at T.f_value_at.kp T.b_value_at (da_cons (de_ix (de_var (pv 0)) de_int (fun _ _ => rfl)) (da_cons (de_var (pv 1)) da_nil))) (da_cons (de_var (pv 2)) da_nil)))))))) d_value
theorem ok_row_of (T : Txt P base K mg cl a fd) : FnOk P w K mg base CX0 39 (a 18) (fd 18) ["one", "many"] (spD 2 K cl c_row_of) :=
  fn_okD T.f_row_of sc_row_of rfl rfl (fun sd Hs H0s cdv A outer s H E hr =>
    (dss_one (ds_retO (do_fn (ok_row_in T) (hr.mono (by decide)) rfl T.m_row_in T.f_row_in.kp T.b_row_in (da_cons (de_bare (t := 0) T.c_Exact rfl) (da_cons (de_var (pv 0)) (da_cons (de_var (pv 1)) da_nil))))))) d_row_of
theorem ok_quotient_of (T : Txt P base K mg cl a fd) : FnOk P w K mg base CX0 40 (a 16) (fd 16) ["top", "below"] (spD 2 K cl c_quotient_of) :=
  fn_okD T.f_quotient_of sc_quotient_of rfl rfl (fun sd Hs H0s cdv A outer s H E hr =>
    (dss_one (ds_ret (de_fn (ok_quotient_in T) (hr.mono (by decide)) rfl T.m_quotient_in T.f_quotient_in.kp T.b_quotient_in (da_cons (de_bare (t := 0) T.c_Exact rfl) (da_cons (de_var (pv 0)) (da_cons (de_var (pv 1)) da_nil))))))) d_quotient_of
theorem ok_l_told (T : Txt P base K mg cl a fd) : FnOk P w K mg base CX0 40 (a 32) (fd 32) ["_law_one", "_law_x"] (spD 2 K cl c_l_told) :=
  fn_okD T.f_l_told sc_l_told rfl rfl (fun sd Hs H0s cdv A outer s H E hr =>
    (dss_cons (ds_asg (de_tup (da_cons de_non (da_cons de_str da_nil))) (dg_tup rfl (dgs_cons (dg_name (vs := [2, 3]) (pg_name (i := 2) sc_l_told.nd rfl (.inl rfl)) (by decide)) (dgs_cons (dg_name (vs := [2, 3]) (pg_name (i := 3) sc_l_told.nd rfl (.inl rfl)) (by decide)) dgs_nil))))
    (dss_cons (ds_tryas (i := 4) (t0 := 4) rfl rfl sc_l_told.nd rfl rfl ⟨rfl, by decide, .inl T.g_FarError⟩ T.em_Pole_FarError (fun W pn xe tk => (dxs_one (dx_set (i := 2) sc_l_told.nd rfl (.inl rfl) (dxe_fn (okx_value T) tk (hr.mono (by decide)) rfl T.m_value T.f_value.kp T.b_value (da_cons (de_var (pv 0)) (da_cons (de_var (pv 1)) da_nil)))))) (fun a oe pn hz hf => (dss_cons (ds_set (i := 5) sc_l_told.nd rfl (.inl rfl) (de_isET (i := 4) (cs := [.ref (cl 3), .ref (cl 5), .ref (cl 6)]) T.ec_Pole hz hf rfl T.n_isinstance (pv 4) (pa_v (by exact (pe_glob (v := .ref (cl 3)) rfl T.g_NoQuotient rfl)) (pa_v (by exact (pe_glob (v := .ref (cl 5)) rfl T.g_TooShort rfl)) (pa_v (by exact (pe_glob (v := .ref (cl 6)) rfl T.g_BadRow rfl)) pa_v0))) (show (3 : Nat) ≤ 1000 by decide) (.cons (.own _) (.cons (.own _) (.cons (.own _) .nil))) (kitAny_cons T.x_Pole_NoQuotient (fun _ => (kitAny_cons T.x_Pole_TooShort (fun _ => (kitAny_cons T.x_Pole_BadRow (fun _ => rfl) (fun z => nomatch z))) (fun z => nomatch z))) (fun z => nomatch z))))
    (dss_one (ds_set (i := 3) sc_l_told.nd rfl (.inl rfl) (de_if (PW.pt (dw_and (dt_val (de_isE (i := 4) (v := .ref (cl 4)) T.ec_Pole hz hf rfl T.n_isinstance (pv 4) (by exact (pe_glob (v := .ref (cl 4)) rfl T.g_Pole rfl)) (fun u r => r) T.x_Pole_Pole)) (dw_and (dt_val (de_isE (i := 4) (v := .ty "ValueError") T.ec_Pole hz hf rfl T.n_isinstance (pv 4) (by exact (pe_bltn (v := .ty "ValueError") rfl T.n_ValueError (by decide +kernel) rfl)) (fun u r => r) T.x_Pole_ValueError)) (dw_and1 (dt_not (dt_val (de_var (pv 5)))))))) de_str de_str))))))
    (dss_one (ds_ret (de_tup (da_cons (de_var (pv 2)) (da_cons (de_var (pv 3)) da_nil)))))))) d_l_told
theorem ok_l_one_right (T : Txt P base K mg cl a fd) : FnOk P w K mg base CX0 41 (a 33) (fd 33) ["_law_state"] (spD 1 K cl c_l_one_right) :=
  fn_okD T.f_l_one_right sc_l_one_right rfl rfl (fun sd Hs H0s cdv A outer s H E hr =>
    (dss_cons (ds_set (i := 1) sc_l_one_right.nd rfl (.inl rfl) (de_if (dt_cmp op_eq r2_eqI (de_fn (ok_l_take T) (hr.mono (by decide)) rfl T.m_l_take T.f_l_take.kp T.b_l_take (da_cons (de_var (pv 0)) (da_cons de_int da_nil))) de_int (nomark _)) de_int de_int))
    (dss_cons (ds_asg (de_fn (ok_l_two_polys T) (hr.mono (by decide)) rfl T.m_l_two_polys T.f_l_two_polys.kp T.b_l_two_polys (da_cons (de_var (pv 0)) (da_cons (de_fn (ok_l_take T) (hr.mono (by decide)) rfl T.m_l_take T.f_l_take.kp T.b_l_take (da_cons (de_var (pv 0)) (da_cons (de_add (de_var (pv 1)) de_int) da_nil))) (da_cons (de_fn (ok_l_take T) (hr.mono (by decide)) rfl T.m_l_take T.f_l_take.kp T.b_l_take (da_cons (de_var (pv 0)) (da_cons (de_var (pv 1)) da_nil))) da_nil)))) (dg_tup rfl (dgs_cons (dg_name (vs := [2, 3]) (pg_name (i := 2) sc_l_one_right.nd rfl (.inl rfl)) (by decide)) (dgs_cons (dg_name (vs := [2, 3]) (pg_name (i := 3) sc_l_one_right.nd rfl (.inl rfl)) (by decide)) dgs_nil))))
    (dss_cons (ds_set (i := 4) sc_l_one_right.nd rfl (.inl rfl) (de_fn (ok_l_small T) (hr.mono (by decide)) rfl T.m_l_small T.f_l_small.kp T.b_l_small (da_cons (de_var (pv 0)) da_nil)))
    (dss_cons (ds_if (dt_cmp op_gt r2_gt (de_fn (ok_l_take T) (hr.mono (by decide)) rfl T.m_l_take T.f_l_take.kp T.b_l_take (da_cons (de_var (pv 0)) (da_cons de_int da_nil))) de_int (nomark _)) (dss_one (ds_set (i := 3) sc_l_one_right.nd rfl (.inl rfl) (de_fn (ok_l_product T) (hr.mono (by decide)) rfl T.m_l_product T.f_l_product.kp T.b_l_product (da_cons (de_var (pv 3)) (da_cons (de_tup (da_cons (de_tup (da_cons de_int (da_cons de_int da_nil))) (da_cons (de_fn (ok_l_over T) (hr.mono (by decide)) rfl T.m_l_over T.f_l_over.kp T.b_l_over (da_cons (de_tup (da_cons (de_neg de_int) (da_cons de_int da_nil))) (da_cons (de_var (pv 4)) da_nil))) da_nil))) da_nil))))) dss_nil)
    (dss_cons (ds_set (i := 5) sc_l_one_right.nd rfl (.inl rfl) (de_fn (ok_quotient_of T) (hr.mono (by decide)) rfl T.m_quotient_of T.f_quotient_of.kp T.b_quotient_of (da_cons (de_var (pv 2)) (da_cons (de_var (pv 3)) da_nil))))
    (dss_cons (ds_for PassesOwn.never rfl (di_seq (DO.val (do_lst (da_cons (de_var (pv 4)) (da_cons (de_fn (ok_l_number T) (hr.mono (by decide)) rfl T.m_l_number T.f_l_number.kp T.b_l_number (da_cons (de_var (pv 0)) da_nil)) (da_cons (de_fn (ok_l_plus T) (hr.mono (by decide)) rfl T.m_l_plus T.f_l_plus.kp T.b_l_plus (da_cons (de_var (pv 4)) (da_cons (de_tup (da_cons de_int (da_cons de_int da_nil))) da_nil))) (da_cons (de_tup (da_cons de_int (da_cons de_int da_nil))) (da_cons (de_fn (ok_l_number T) (hr.mono (by decide)) rfl T.m_l_number T.f_l_number.kp T.b_l_number (da_cons (de_var (pv 0)) da_nil)) (da_cons (de_var (pv 4)) da_nil))))))))) (dg_name (vs := [6]) (pg_name (i := 6) sc_l_one_right.nd rfl (.inl rfl)) (by decide)) (dss_cons (ds_set (i := 7) sc_l_one_right.nd rfl (.inl rfl) (de_fn (ok_l_worth T) (hr.mono (by decide)) rfl T.m_l_worth T.f_l_worth.kp T.b_l_worth (da_cons (de_ix (de_var (pv 5)) de_int (fun _ _ => rfl)) (da_cons (de_var (pv 6)) da_nil))))
    (dss_cons (ds_asg (de_fn (ok_l_told T) (hr.mono (by decide)) rfl T.m_l_told T.f_l_told.kp T.b_l_told (da_cons (de_ix (DO.val (do_lst (da_cons (de_var (pv 5)) (da_cons (DO.val (do_lst (da_cons (DO.val (do_list rfl T.n_list (by decide +kernel) (da_cons (de_ix (de_var (pv 5)) de_int (fun _ _ => rfl)) da_nil))) (da_cons (DO.val (do_list rfl T.n_list (by decide +kernel) (da_cons (de_ix (de_var (pv 5)) de_int (fun _ _ => rfl)) da_nil))) da_nil)))) da_nil)))) (de_fn (ok_l_take T) (hr.mono (by decide)) rfl T.m_l_take T.f_l_take.kp T.b_l_take (da_cons (de_var (pv 0)) (da_cons de_int da_nil))) (fun _ _ => rfl)) (da_cons (de_var (pv 6)) da_nil))) (dg_tup rfl (dgs_cons (dg_name (vs := [8, 9]) (pg_name (i := 8) sc_l_one_right.nd rfl (.inl rfl)) (by decide)) (dgs_cons (dg_name (vs := [8, 9]) (pg_name (i := 9) sc_l_one_right.nd rfl (.inl rfl)) (by decide)) dgs_nil))))
    (dss_cons (ds_if (PW.pt (dw_or (dt_cmp op_ne r2_neB (de_cmp op_eq r2_eqS (de_var (pv 9)) de_str (nomark _)) (de_cmp op_eq r2_eqI (de_ix (de_var (pv 7)) de_int (fun _ _ => rfl)) de_int (nomark _)) (nomark _)) (dw_or1 (dt_cmp op_notIn_seq (r2_inS (neg := true)) (de_var (pv 9)) (de_tup (da_cons de_str (da_cons de_str da_nil))) (by with_unfolding_all rfl))))) (dss_one (ds_ret de_bl)) dss_nil)
    (dss_one (ds_if (PW.pt (dw_and (dt_cmp op_eq r2_eqS (de_var (pv 9)) de_str (nomark _)) (dw_and1 (dt_not (dt_val (de_fn (ok_l_same T 3) (hr.mono (by decide)) rfl T.m_l_same T.f_l_same.kp T.b_l_same (da_cons (de_var (pv 8)) (da_cons (de_fn (ok_l_over T) (hr.mono (by decide)) rfl T.m_l_over T.f_l_over.kp T.b_l_over (da_cons (de_fn (ok_l_worth T) (hr.mono (by decide)) rfl T.m_l_worth T.f_l_worth.kp T.b_l_worth (da_cons (de_ix (de_var (pv 5)) de_int (fun _ _ => rfl)) (da_cons (de_var (pv 6)) da_nil))) (da_cons (de_var (pv 7)) da_nil))) da_nil)))))))) (dss_one (ds_ret de_bl)) dss_nil))))))
    (dss_one (ds_ret (de_fn (ok_l_same T 3) (hr.mono (by decide)) rfl T.m_l_same T.f_l_same.kp T.b_l_same (da_cons (DO.val (do_lst (da_cons (de_fn (ok_value T) (hr.mono (by decide)) rfl T.m_value T.f_value.kp T.b_value (da_cons (de_var (pv 5)) (da_cons (de_tup (da_cons de_int (da_cons de_int da_nil))) da_nil))) da_nil))) (da_cons (de_fn (ok_row_of T) (hr.mono (by decide)) rfl T.m_row_of T.f_row_of.kp T.b_row_of (da_cons (de_var (pv 5)) (da_cons de_int da_nil))) da_nil)))))))))))) d_l_one_right
theorem ok_law (T : Txt P base K mg cl a fd) : FnOk P w K mg base CX0 42 (a 34) (fd 34) ["_law_script"] (spLaw K) := by
  refine T.f_law.ok sc_law (fun vs H Q E h => ?_) (fun cdv A outer s H vs Q E hr h => ?_)
  · obtain ⟨a, ns, rfl, _⟩ := h
    rfl
  obtain ⟨x, ns, rfl, hS, hl, k⟩ := h
  refine ⟨_, pss_cons (ps_set (i := 1) sc_law.nd rfl (.inr rfl) (pe_call (ok_l_begin T) (hr.mono (by decide)) rfl T.m_l_begin T.f_l_begin.kp T.b_l_begin .nil pass0 (pa_cons (pv 0) pa_nil))) (xs_of (cl := cl) (ds := b_law) fun sd Hs H0s => (dss_one (ds_ret (de_and (de_callB (cr_all rfl) cr_allD rfl T.n_all (by decide +kernel) (da_cons (DO.val (do_lc (own := [("_law_turn", 2)]) rfl sc_law.nd (di_range1 rfl T.n_range (da_cons de_int da_nil)) (blkOk_by (N := ["_law_script", "_law_state", "_law_turn"]) (sc := defScope s_law) (by decide +kernel)) (fun _ _ _ _ _ _ _ => (dg_name (vs := [2]) (pg_name (i := 2) sc_law.nd rfl (.inl rfl)) (by decide))) (fun _ _ _ _ _ _ _ => dts_nil) (fun _ _ _ _ _ _ _ => (de_fn (ok_l_one_right T) (hr.mono (by decide)) rfl T.m_l_one_right T.f_l_one_right.kp T.b_l_one_right (da_cons (de_var (pv 1)) da_nil))))) da_nil)) (de_one (de_cmp (op_eqD hr.units) r2_eqD (de_fn (ok_value T) (hr.mono (by decide)) rfl T.m_value T.f_value.kp T.b_value (da_cons (de_tup (da_cons (de_tup da_nil) (da_cons (de_tup (da_cons (de_tup (da_cons de_int (da_cons de_int da_nil))) da_nil)) da_nil))) (da_cons (de_tup (da_cons de_int (da_cons de_int da_nil))) da_nil))) (de_tup (da_cons de_int (da_cons de_int da_nil))) (nomark _))))))), ?_⟩
  exact ⟨_, rfl, x, ns, rfl, hS, hl, fun p cells H' _ _ _ ne hc h1 h2 => law_start (n := 1) ne hc h1 h2 k d_law⟩
end
def addrs (l : List Addr) (i : Nat) : Addr := l.getD i 0
theorem all_mk {l : PySem.W.OpenLaw} {w : World} {K : PySem.W.Frag} {h : Heap} {mg : Str → Option Value} {fa f0 f1 f2 f3 f4 f5 f6 f7 f8 f9 f10 f11 f12 f13 f14 f15 f16 f17 f18 f19 f20 f21 f22 f23 f24 f25 f26 f27 f28 f29 f30 f31 f32 f33 f34 f35 f36 f37 f38 f39 f40 C0 C2 C3 C4 C5 C6 : Addr} (X : K.In h) (G : h.Ns mainGlobals mg) (hfa : mg "law" = some (.ref fa)) (tree : l.prog.given.tree = none)
    {oc0 kV0 dc0 pm0 cd0 ct0 : Value} {od0 an0 : Option Addr} {sl0 : Array (Option Value)}
    {oc1 kV1 dc1 pm1 cd1 ct1 : Value} {od1 an1 : Option Addr} {sl1 : Array (Option Value)}
    {oc2 kV2 dc2 pm2 cd2 ct2 : Value} {od2 an2 : Option Addr} {sl2 : Array (Option Value)}
    {oc3 kV3 dc3 pm3 cd3 ct3 : Value} {od3 an3 : Option Addr} {sl3 : Array (Option Value)}
    {oc4 kV4 dc4 pm4 cd4 ct4 : Value} {od4 an4 : Option Addr} {sl4 : Array (Option Value)}
    {oc5 kV5 dc5 pm5 cd5 ct5 : Value} {od5 an5 : Option Addr} {sl5 : Array (Option Value)}
    {oc6 kV6 dc6 pm6 cd6 ct6 : Value} {od6 an6 : Option Addr} {sl6 : Array (Option Value)}
    {oc7 kV7 dc7 pm7 cd7 ct7 : Value} {od7 an7 : Option Addr} {sl7 : Array (Option Value)}
    {oc8 kV8 dc8 pm8 cd8 ct8 : Value} {od8 an8 : Option Addr} {sl8 : Array (Option Value)}
    {oc9 kV9 dc9 pm9 cd9 ct9 : Value} {od9 an9 : Option Addr} {sl9 : Array (Option Value)}
    {oc10 kV10 dc10 pm10 cd10 ct10 : Value} {od10 an10 : Option Addr} {sl10 : Array (Option Value)}
    {oc11 kV11 dc11 pm11 cd11 ct11 : Value} {od11 an11 : Option Addr} {sl11 : Array (Option Value)}
    {oc12 kV12 dc12 pm12 cd12 ct12 : Value} {od12 an12 : Option Addr} {sl12 : Array (Option Value)}
    {oc13 kV13 dc13 pm13 cd13 ct13 : Value} {od13 an13 : Option Addr} {sl13 : Array (Option Value)}
    {oc14 kV14 dc14 pm14 cd14 ct14 : Value} {od14 an14 : Option Addr} {sl14 : Array (Option Value)}
    {oc15 kV15 dc15 pm15 cd15 ct15 : Value} {od15 an15 : Option Addr} {sl15 : Array (Option Value)}
    {oc16 kV16 dc16 pm16 cd16 ct16 : Value} {od16 an16 : Option Addr} {sl16 : Array (Option Value)}
    {oc17 kV17 dc17 pm17 cd17 ct17 : Value} {od17 an17 : Option Addr} {sl17 : Array (Option Value)}
    {oc18 kV18 dc18 pm18 cd18 ct18 : Value} {od18 an18 : Option Addr} {sl18 : Array (Option Value)}
    {oc19 kV19 dc19 pm19 cd19 ct19 : Value} {od19 an19 : Option Addr} {sl19 : Array (Option Value)}
    {oc20 kV20 dc20 pm20 cd20 ct20 : Value} {od20 an20 : Option Addr} {sl20 : Array (Option Value)}
    {oc21 kV21 dc21 pm21 cd21 ct21 : Value} {od21 an21 : Option Addr} {sl21 : Array (Option Value)}
    {oc22 kV22 dc22 pm22 cd22 ct22 : Value} {od22 an22 : Option Addr} {sl22 : Array (Option Value)}
    {oc23 kV23 dc23 pm23 cd23 ct23 : Value} {od23 an23 : Option Addr} {sl23 : Array (Option Value)}
    {oc24 kV24 dc24 pm24 cd24 ct24 : Value} {od24 an24 : Option Addr} {sl24 : Array (Option Value)}
    {oc25 kV25 dc25 pm25 cd25 ct25 : Value} {od25 an25 : Option Addr} {sl25 : Array (Option Value)}
    {oc26 kV26 dc26 pm26 cd26 ct26 : Value} {od26 an26 : Option Addr} {sl26 : Array (Option Value)}
    {oc27 kV27 dc27 pm27 cd27 ct27 : Value} {od27 an27 : Option Addr} {sl27 : Array (Option Value)}
    {oc28 kV28 dc28 pm28 cd28 ct28 : Value} {od28 an28 : Option Addr} {sl28 : Array (Option Value)}
    {oc29 kV29 dc29 pm29 cd29 ct29 : Value} {od29 an29 : Option Addr} {sl29 : Array (Option Value)}
    {oc30 kV30 dc30 pm30 cd30 ct30 : Value} {od30 an30 : Option Addr} {sl30 : Array (Option Value)}
    {oc31 kV31 dc31 pm31 cd31 ct31 : Value} {od31 an31 : Option Addr} {sl31 : Array (Option Value)}
    {oc32 kV32 dc32 pm32 cd32 ct32 : Value} {od32 an32 : Option Addr} {sl32 : Array (Option Value)}
    {oc33 kV33 dc33 pm33 cd33 ct33 : Value} {od33 an33 : Option Addr} {sl33 : Array (Option Value)}
    {oc34 kV34 dc34 pm34 cd34 ct34 : Value} {od34 an34 : Option Addr} {sl34 : Array (Option Value)}
    {oc35 kV35 dc35 pm35 cd35 ct35 : Value} {od35 an35 : Option Addr} {sl35 : Array (Option Value)}
    {oc36 kV36 dc36 pm36 cd36 ct36 : Value} {od36 an36 : Option Addr} {sl36 : Array (Option Value)}
    {oc37 kV37 dc37 pm37 cd37 ct37 : Value} {od37 an37 : Option Addr} {sl37 : Array (Option Value)}
    {oc38 kV38 dc38 pm38 cd38 ct38 : Value} {od38 an38 : Option Addr} {sl38 : Array (Option Value)}
    {oc39 kV39 dc39 pm39 cd39 ct39 : Value} {od39 an39 : Option Addr} {sl39 : Array (Option Value)}
    {oc40 kV40 dc40 pm40 cd40 ct40 : Value} {od40 an40 : Option Addr} {sl40 : Array (Option Value)}
    {n0 : Addr} {nk0 : Nat} {nt0_0 : Tok} {nt0_1 : Tok}
    (m0 : PySem.W.nsIn K mainGlobals "greatest_both" = some (some (.ref f0)))
    (l0 : K.lookup f0 = some ⟨oc0, od0, .func (PySem.W.fnOf "greatest_both" "greatest_both" (defArgs s_greatest_both) (defBody s_greatest_both) (defScope s_greatest_both) .none kV0 dc0 pm0 an0 cd0 ct0), sl0⟩)
    (c0 : PySem.W.codeIn K cd0 "greatest_both" = true)
    (k0 : PySem.W.keepIn K (.ref f0) = true)
    (m1 : PySem.W.nsIn K mainGlobals "number" = some (some (.ref f1)))
    (l1 : K.lookup f1 = some ⟨oc1, od1, .func (PySem.W.fnOf "number" "number" (defArgs s_number) (defBody s_number) (defScope s_number) .none kV1 dc1 pm1 an1 cd1 ct1), sl1⟩)
    (c1 : PySem.W.codeIn K cd1 "number" = true)
    (k1 : PySem.W.keepIn K (.ref f1) = true)
    (m2 : PySem.W.nsIn K mainGlobals "plus" = some (some (.ref f2)))
    (l2 : K.lookup f2 = some ⟨oc2, od2, .func (PySem.W.fnOf "plus" "plus" (defArgs s_plus) (defBody s_plus) (defScope s_plus) .none kV2 dc2 pm2 an2 cd2 ct2), sl2⟩)
    (c2 : PySem.W.codeIn K cd2 "plus" = true)
    (k2 : PySem.W.keepIn K (.ref f2) = true)
    (m3 : PySem.W.nsIn K mainGlobals "minus" = some (some (.ref f3)))
    (l3 : K.lookup f3 = some ⟨oc3, od3, .func (PySem.W.fnOf "minus" "minus" (defArgs s_minus) (defBody s_minus) (defScope s_minus) .none kV3 dc3 pm3 an3 cd3 ct3), sl3⟩)
    (c3 : PySem.W.codeIn K cd3 "minus" = true)
    (k3 : PySem.W.keepIn K (.ref f3) = true)
    (m4 : PySem.W.nsIn K mainGlobals "times" = some (some (.ref f4)))
    (l4 : K.lookup f4 = some ⟨oc4, od4, .func (PySem.W.fnOf "times" "times" (defArgs s_times) (defBody s_times) (defScope s_times) .none kV4 dc4 pm4 an4 cd4 ct4), sl4⟩)
    (c4 : PySem.W.codeIn K cd4 "times" = true)
    (k4 : PySem.W.keepIn K (.ref f4) = true)
    (m5 : PySem.W.nsIn K mainGlobals "over" = some (some (.ref f5)))
    (l5 : K.lookup f5 = some ⟨oc5, od5, .func (PySem.W.fnOf "over" "over" (defArgs s_over) (defBody s_over) (defScope s_over) .none kV5 dc5 pm5 an5 cd5 ct5), sl5⟩)
    (c5 : PySem.W.codeIn K cd5 "over" = true)
    (k5 : PySem.W.keepIn K (.ref f5) = true)
    (m6 : PySem.W.nsIn K mainGlobals "trimmed" = some (some (.ref f6)))
    (l6 : K.lookup f6 = some ⟨oc6, od6, .func (PySem.W.fnOf "trimmed" "trimmed" (defArgs s_trimmed) (defBody s_trimmed) (defScope s_trimmed) .none kV6 dc6 pm6 an6 cd6 ct6), sl6⟩)
    (c6 : PySem.W.codeIn K cd6 "trimmed" = true)
    (k6 : PySem.W.keepIn K (.ref f6) = true)
    (m7 : PySem.W.nsIn K mainGlobals "parted_by" = some (some (.ref f7)))
    (l7 : K.lookup f7 = some ⟨oc7, od7, .func (PySem.W.fnOf "parted_by" "parted_by" (defArgs s_parted_by) (defBody s_parted_by) (defScope s_parted_by) .none kV7 dc7 pm7 an7 cd7 ct7), sl7⟩)
    (c7 : PySem.W.codeIn K cd7 "parted_by" = true)
    (k7 : PySem.W.keepIn K (.ref f7) = true)
    (m8 : PySem.W.nsIn K mainGlobals "common_by" = some (some (.ref f8)))
    (l8 : K.lookup f8 = some ⟨oc8, od8, .func (PySem.W.fnOf "common_by" "common_by" (defArgs s_common_by) (defBody s_common_by) (defScope s_common_by) .none kV8 dc8 pm8 an8 cd8 ct8), sl8⟩)
    (c8 : PySem.W.codeIn K cd8 "common_by" = true)
    (k8 : PySem.W.keepIn K (.ref f8) = true)
    (m9 : PySem.W.nsIn K mainGlobals "value_by" = some (some (.ref f9)))
    (l9 : K.lookup f9 = some ⟨oc9, od9, .func (PySem.W.fnOf "value_by" "value_by" (defArgs s_value_by) (defBody s_value_by) (defScope s_value_by) .none kV9 dc9 pm9 an9 cd9 ct9), sl9⟩)
    (c9 : PySem.W.codeIn K cd9 "value_by" = true)
    (k9 : PySem.W.keepIn K (.ref f9) = true)
    (m10 : PySem.W.nsIn K mainGlobals "value_at" = some (some (.ref f10)))
    (l10 : K.lookup f10 = some ⟨oc10, od10, .func (PySem.W.fnOf "value_at" "value_at" (defArgs s_value_at) (defBody s_value_at) (defScope s_value_at) .none kV10 dc10 pm10 an10 cd10 ct10), sl10⟩)
    (c10 : PySem.W.codeIn K cd10 "value_at" = true)
    (k10 : PySem.W.keepIn K (.ref f10) = true)
    (m11 : PySem.W.nsIn K mainGlobals "over_all" = some (some (.ref f11)))
    (l11 : K.lookup f11 = some ⟨oc11, od11, .func (PySem.W.fnOf "over_all" "over_all" (defArgs s_over_all) (defBody s_over_all) (defScope s_over_all) .none kV11 dc11 pm11 an11 cd11 ct11), sl11⟩)
    (c11 : PySem.W.codeIn K cd11 "over_all" = true)
    (k11 : PySem.W.keepIn K (.ref f11) = true)
    (m12 : PySem.W.nsIn K mainGlobals "quotient_in" = some (some (.ref f12)))
    (l12 : K.lookup f12 = some ⟨oc12, od12, .func (PySem.W.fnOf "quotient_in" "quotient_in" (defArgs s_quotient_in) (defBody s_quotient_in) (defScope s_quotient_in) .none kV12 dc12 pm12 an12 cd12 ct12), sl12⟩)
    (c12 : PySem.W.codeIn K cd12 "quotient_in" = true)
    (k12 : PySem.W.keepIn K (.ref f12) = true)
    (m13 : PySem.W.nsIn K mainGlobals "number_at" = some (some (.ref f13)))
    (l13 : K.lookup f13 = some ⟨oc13, od13, .func (PySem.W.fnOf "number_at" "number_at" (defArgs s_number_row) (defBody s_number_row) (defScope s_number_row) .none kV13 dc13 pm13 an13 cd13 ct13), sl13⟩)
    (c13 : PySem.W.codeIn K cd13 "number_at" = true)
    (k13 : PySem.W.keepIn K (.ref f13) = true)
    (m14 : PySem.W.nsIn K mainGlobals "weighed_at" = some (some (.ref f14)))
    (l14 : K.lookup f14 = some ⟨oc14, od14, .func (PySem.W.fnOf "weighed_at" "weighed_at" (defArgs s_weighed_at) (defBody s_weighed_at) (defScope s_weighed_at) .none kV14 dc14 pm14 an14 cd14 ct14), sl14⟩)
    (c14 : PySem.W.codeIn K cd14 "weighed_at" = true)
    (k14 : PySem.W.keepIn K (.ref f14) = true)
    (m15 : PySem.W.nsIn K mainGlobals "row_in" = some (some (.ref f15)))
    (l15 : K.lookup f15 = some ⟨oc15, od15, .func (PySem.W.fnOf "row_in" "row_in" (defArgs s_row_in) (defBody s_row_in) (defScope s_row_in) .none kV15 dc15 pm15 an15 cd15 ct15), sl15⟩)
    (c15 : PySem.W.codeIn K cd15 "row_in" = true)
    (k15 : PySem.W.keepIn K (.ref f15) = true)
    (m16 : PySem.W.nsIn K mainGlobals "quotient_of" = some (some (.ref f16)))
    (l16 : K.lookup f16 = some ⟨oc16, od16, .func (PySem.W.fnOf "quotient_of" "quotient_of" (defArgs s_quotient_of) (defBody s_quotient_of) (defScope s_quotient_of) .none kV16 dc16 pm16 an16 cd16 ct16), sl16⟩)
    (c16 : PySem.W.codeIn K cd16 "quotient_of" = true)
    (k16 : PySem.W.keepIn K (.ref f16) = true)
    (m17 : PySem.W.nsIn K mainGlobals "value" = some (some (.ref f17)))
    (l17 : K.lookup f17 = some ⟨oc17, od17, .func (PySem.W.fnOf "value" "value" (defArgs s_value) (defBody s_value) (defScope s_value) .none kV17 dc17 pm17 an17 cd17 ct17), sl17⟩)
    (c17 : PySem.W.codeIn K cd17 "value" = true)
    (k17 : PySem.W.keepIn K (.ref f17) = true)
    (m18 : PySem.W.nsIn K mainGlobals "row_of" = some (some (.ref f18)))
    (l18 : K.lookup f18 = some ⟨oc18, od18, .func (PySem.W.fnOf "row_of" "row_of" (defArgs s_row_of) (defBody s_row_of) (defScope s_row_of) .none kV18 dc18 pm18 an18 cd18 ct18), sl18⟩)
    (c18 : PySem.W.codeIn K cd18 "row_of" = true)
    (k18 : PySem.W.keepIn K (.ref f18) = true)
    (m19 : PySem.W.nsIn K mainGlobals "_law_begin" = some (some (.ref f19)))
    (l19 : K.lookup f19 = some ⟨oc19, od19, .func (PySem.W.fnOf "_law_begin" "_law_begin" (defArgs s_l_begin) (defBody s_l_begin) (defScope s_l_begin) .none kV19 dc19 pm19 an19 cd19 ct19), sl19⟩)
    (c19 : PySem.W.codeIn K cd19 "_law_begin" = true)
    (k19 : PySem.W.keepIn K (.ref f19) = true)
    (m20 : PySem.W.nsIn K mainGlobals "_law_take" = some (some (.ref f20)))
    (l20 : K.lookup f20 = some ⟨oc20, od20, .func (PySem.W.fnOf "_law_take" "_law_take" (defArgs s_l_take) (defBody s_l_take) (defScope s_l_take) .none kV20 dc20 pm20 an20 cd20 ct20), sl20⟩)
    (c20 : PySem.W.codeIn K cd20 "_law_take" = true)
    (k20 : PySem.W.keepIn K (.ref f20) = true)
    (m21 : PySem.W.nsIn K mainGlobals "_law_same" = some (some (.ref f21)))
    (l21 : K.lookup f21 = some ⟨oc21, od21, .func (PySem.W.fnOf "_law_same" "_law_same" (defArgs s_l_same) (defBody s_l_same) (defScope s_l_same) .none kV21 dc21 pm21 an21 cd21 ct21), sl21⟩)
    (c21 : PySem.W.codeIn K cd21 "_law_same" = true)
    (k21 : PySem.W.keepIn K (.ref f21) = true)
    (m22 : PySem.W.nsIn K mainGlobals "_law_part" = some (some (.ref f22)))
    (l22 : K.lookup f22 = some ⟨oc22, od22, .func (PySem.W.fnOf "_law_part" "_law_part" (defArgs s_l_part) (defBody s_l_part) (defScope s_l_part) .none kV22 dc22 pm22 an22 cd22 ct22), sl22⟩)
    (c22 : PySem.W.codeIn K cd22 "_law_part" = true)
    (k22 : PySem.W.keepIn K (.ref f22) = true)
    (m23 : PySem.W.nsIn K mainGlobals "_law_plus" = some (some (.ref f23)))
    (l23 : K.lookup f23 = some ⟨oc23, od23, .func (PySem.W.fnOf "_law_plus" "_law_plus" (defArgs s_l_plus) (defBody s_l_plus) (defScope s_l_plus) .none kV23 dc23 pm23 an23 cd23 ct23), sl23⟩)
    (c23 : PySem.W.codeIn K cd23 "_law_plus" = true)
    (k23 : PySem.W.keepIn K (.ref f23) = true)
    (m24 : PySem.W.nsIn K mainGlobals "_law_times" = some (some (.ref f24)))
    (l24 : K.lookup f24 = some ⟨oc24, od24, .func (PySem.W.fnOf "_law_times" "_law_times" (defArgs s_l_times) (defBody s_l_times) (defScope s_l_times) .none kV24 dc24 pm24 an24 cd24 ct24), sl24⟩)
    (c24 : PySem.W.codeIn K cd24 "_law_times" = true)
    (k24 : PySem.W.keepIn K (.ref f24) = true)
    (m25 : PySem.W.nsIn K mainGlobals "_law_over" = some (some (.ref f25)))
    (l25 : K.lookup f25 = some ⟨oc25, od25, .func (PySem.W.fnOf "_law_over" "_law_over" (defArgs s_l_over) (defBody s_l_over) (defScope s_l_over) .none kV25 dc25 pm25 an25 cd25 ct25), sl25⟩)
    (c25 : PySem.W.codeIn K cd25 "_law_over" = true)
    (k25 : PySem.W.keepIn K (.ref f25) = true)
    (m26 : PySem.W.nsIn K mainGlobals "_law_number" = some (some (.ref f26)))
    (l26 : K.lookup f26 = some ⟨oc26, od26, .func (PySem.W.fnOf "_law_number" "_law_number" (defArgs s_l_number) (defBody s_l_number) (defScope s_l_number) .none kV26 dc26 pm26 an26 cd26 ct26), sl26⟩)
    (c26 : PySem.W.codeIn K cd26 "_law_number" = true)
    (k26 : PySem.W.keepIn K (.ref f26) = true)
    (m27 : PySem.W.nsIn K mainGlobals "_law_small" = some (some (.ref f27)))
    (l27 : K.lookup f27 = some ⟨oc27, od27, .func (PySem.W.fnOf "_law_small" "_law_small" (defArgs s_l_small) (defBody s_l_small) (defScope s_l_small) .none kV27 dc27 pm27 an27 cd27 ct27), sl27⟩)
    (c27 : PySem.W.codeIn K cd27 "_law_small" = true)
    (k27 : PySem.W.keepIn K (.ref f27) = true)
    (m28 : PySem.W.nsIn K mainGlobals "_law_trimmed" = some (some (.ref f28)))
    (l28 : K.lookup f28 = some ⟨oc28, od28, .func (PySem.W.fnOf "_law_trimmed" "_law_trimmed" (defArgs s_l_trimmed) (defBody s_l_trimmed) (defScope s_l_trimmed) .none kV28 dc28 pm28 an28 cd28 ct28), sl28⟩)
    (c28 : PySem.W.codeIn K cd28 "_law_trimmed" = true)
    (k28 : PySem.W.keepIn K (.ref f28) = true)
    (m29 : PySem.W.nsIn K mainGlobals "_law_product" = some (some (.ref f29)))
    (l29 : K.lookup f29 = some ⟨oc29, od29, .func (PySem.W.fnOf "_law_product" "_law_product" (defArgs s_l_product) (defBody s_l_product) (defScope s_l_product) .none kV29 dc29 pm29 an29 cd29 ct29), sl29⟩)
    (c29 : PySem.W.codeIn K cd29 "_law_product" = true)
    (k29 : PySem.W.keepIn K (.ref f29) = true)
    (m30 : PySem.W.nsIn K mainGlobals "_law_two_polys" = some (some (.ref f30)))
    (l30 : K.lookup f30 = some ⟨oc30, od30, .func (PySem.W.fnOf "_law_two_polys" "_law_two_polys" (defArgs s_l_two_polys) (defBody s_l_two_polys) (defScope s_l_two_polys) .none kV30 dc30 pm30 an30 cd30 ct30), sl30⟩)
    (c30 : PySem.W.codeIn K cd30 "_law_two_polys" = true)
    (k30 : PySem.W.keepIn K (.ref f30) = true)
    (m31 : PySem.W.nsIn K mainGlobals "_law_worth" = some (some (.ref f31)))
    (l31 : K.lookup f31 = some ⟨oc31, od31, .func (PySem.W.fnOf "_law_worth" "_law_worth" (defArgs s_l_worth) (defBody s_l_worth) (defScope s_l_worth) .none kV31 dc31 pm31 an31 cd31 ct31), sl31⟩)
    (c31 : PySem.W.codeIn K cd31 "_law_worth" = true)
    (k31 : PySem.W.keepIn K (.ref f31) = true)
    (m32 : PySem.W.nsIn K mainGlobals "_law_told" = some (some (.ref f32)))
    (l32 : K.lookup f32 = some ⟨oc32, od32, .func (PySem.W.fnOf "_law_told" "_law_told" (defArgs s_l_told) (defBody s_l_told) (defScope s_l_told) .none kV32 dc32 pm32 an32 cd32 ct32), sl32⟩)
    (c32 : PySem.W.codeIn K cd32 "_law_told" = true)
    (k32 : PySem.W.keepIn K (.ref f32) = true)
    (m33 : PySem.W.nsIn K mainGlobals "_law_one_right" = some (some (.ref f33)))
    (l33 : K.lookup f33 = some ⟨oc33, od33, .func (PySem.W.fnOf "_law_one_right" "_law_one_right" (defArgs s_l_one_right) (defBody s_l_one_right) (defScope s_l_one_right) .none kV33 dc33 pm33 an33 cd33 ct33), sl33⟩)
    (c33 : PySem.W.codeIn K cd33 "_law_one_right" = true)
    (k33 : PySem.W.keepIn K (.ref f33) = true)
    (m34 : PySem.W.nsIn K mainGlobals "law" = some (some (.ref f34)))
    (l34 : K.lookup f34 = some ⟨oc34, od34, .func (PySem.W.fnOf "law" "law" (defArgs s_law) (defBody s_law) (defScope s_law) .none kV34 dc34 pm34 an34 cd34 ct34), sl34⟩)
    (c34 : PySem.W.codeIn K cd34 "law" = true)
    (k34 : PySem.W.keepIn K (.ref f34) = true)
    (m35 : PySem.W.findIn K (.ref C0) "nought" = some (some (.ref f35)))
    (i35 : PySem.W.isFn K (.ref f35) = true)
    (l35 : K.lookup f35 = some ⟨oc35, od35, .func (PySem.W.fnOf "nought" "Exact.nought" (defArgs s_Exact_nought) (defBody s_Exact_nought) (defScope s_Exact_nought) .none kV35 dc35 pm35 an35 cd35 ct35), sl35⟩)
    (c35 : PySem.W.codeIn K cd35 "Exact.nought" = true)
    (k35 : PySem.W.keepIn K (.ref f35) = true)
    (m36 : PySem.W.findIn K (.ref C0) "plus" = some (some (.ref f36)))
    (i36 : PySem.W.isFn K (.ref f36) = true)
    (l36 : K.lookup f36 = some ⟨oc36, od36, .func (PySem.W.fnOf "plus" "Exact.plus" (defArgs s_Exact_plus) (defBody s_Exact_plus) (defScope s_Exact_plus) .none kV36 dc36 pm36 an36 cd36 ct36), sl36⟩)
    (c36 : PySem.W.codeIn K cd36 "Exact.plus" = true)
    (k36 : PySem.W.keepIn K (.ref f36) = true)
    (m37 : PySem.W.findIn K (.ref C0) "times" = some (some (.ref f37)))
    (i37 : PySem.W.isFn K (.ref f37) = true)
    (l37 : K.lookup f37 = some ⟨oc37, od37, .func (PySem.W.fnOf "times" "Exact.times" (defArgs s_Exact_times) (defBody s_Exact_times) (defScope s_Exact_times) .none kV37 dc37 pm37 an37 cd37 ct37), sl37⟩)
    (c37 : PySem.W.codeIn K cd37 "Exact.times" = true)
    (k37 : PySem.W.keepIn K (.ref f37) = true)
    (m38 : PySem.W.findIn K (.ref C0) "is_nought" = some (some (.ref f38)))
    (i38 : PySem.W.isFn K (.ref f38) = true)
    (l38 : K.lookup f38 = some ⟨oc38, od38, .func (PySem.W.fnOf "is_nought" "Exact.is_nought" (defArgs s_Exact_is_nought) (defBody s_Exact_is_nought) (defScope s_Exact_is_nought) .none kV38 dc38 pm38 an38 cd38 ct38), sl38⟩)
    (c38 : PySem.W.codeIn K cd38 "Exact.is_nought" = true)
    (k38 : PySem.W.keepIn K (.ref f38) = true)
    (m39 : PySem.W.findIn K (.ref C0) "over" = some (some (.ref f39)))
    (i39 : PySem.W.isFn K (.ref f39) = true)
    (l39 : K.lookup f39 = some ⟨oc39, od39, .func (PySem.W.fnOf "over" "Exact.over" (defArgs s_Exact_over) (defBody s_Exact_over) (defScope s_Exact_over) .none kV39 dc39 pm39 an39 cd39 ct39), sl39⟩)
    (c39 : PySem.W.codeIn K cd39 "Exact.over" = true)
    (k39 : PySem.W.keepIn K (.ref f39) = true)
    (m40 : PySem.W.findIn K (.ref C0) "minus" = some (some (.ref f40)))
    (i40 : PySem.W.isFn K (.ref f40) = true)
    (l40 : K.lookup f40 = some ⟨oc40, od40, .func (PySem.W.fnOf "minus" "Exact.minus" (defArgs s_Exact_minus) (defBody s_Exact_minus) (defScope s_Exact_minus) .none kV40 dc40 pm40 an40 cd40 ct40), sl40⟩)
    (c40 : PySem.W.codeIn K cd40 "Exact.minus" = true)
    (k40 : PySem.W.keepIn K (.ref f40) = true)
    (ma_plus_numbers : PySem.W.nsIn K mainGlobals "plus_numbers" = some (some (.ref f2)))
    (ma_minus_numbers : PySem.W.nsIn K mainGlobals "minus_numbers" = some (some (.ref f3)))
    (ma_times_numbers : PySem.W.nsIn K mainGlobals "times_numbers" = some (some (.ref f4)))
    (ma_over_numbers : PySem.W.nsIn K mainGlobals "over_numbers" = some (some (.ref f5)))
    (q1_0 : PySem.W.nsIn K mainGlobals "Exact" = some (some (.ref C0)))
    (q2_0 : PySem.W.makesIn K C0 = true)
    (q3_0 : PySem.W.findIn K (.ref C0) "__init__" = some (some (.builtin "object.__init__")))
    (q4_0 : PySem.W.keepIn K (.ref C0) = true)
    (q5_0 : PySem.W.plainGet K C0 Str.empty = true)
    (q6_0 : PySem.W.hasDictIn K C0 = true)
    (q7_0 : PySem.W.plainOver K C0 = true)
    (q8_0 : PySem.W.findIn K (.ref C0) "__setattr__" = some (some (.builtin "object.__setattr__")))
    (ge_2 : PySem.W.nsIn K mainGlobals "FarError" = some (some (.ref C2)))
    (ge_3 : PySem.W.nsIn K mainGlobals "NoQuotient" = some (some (.ref C3)))
    (ge_4 : PySem.W.nsIn K mainGlobals "Pole" = some (some (.ref C4)))
    (ge_5 : PySem.W.nsIn K mainGlobals "TooShort" = some (some (.ref C5)))
    (ge_6 : PySem.W.nsIn K mainGlobals "BadRow" = some (some (.ref C6)))
    (ea_4 : PySem.W.excIn K C4 [.type "ValueError", .type "Exception", .type "BaseException", .type "object"] "ValueError.__new__" = true)
    (eb_4 : PySem.W.keepIn K (.ref C4) = true)
    (ec_4 : PySem.W.subIn K (.ref C4) (.type "BaseException") = some true)
    (ed_4 : PySem.W.typeIn K (.ref C4) = some (.type "type"))
    (ef_4 : PySem.W.findIn K (.ref C4) "__getattribute__" = some (some (.builtin "BaseException.__getattribute__")))
    (eg_4 : PySem.W.findIn K (.ref C4) "__getattr__" = some none)
    (eh_4 : PySem.W.hasDictIn K C4 = true)
    (ei_4 : PySem.W.findIn K (.ref C4) "__class__" = some (some (.builtin "object.__class__")))
    (ej_4 : PySem.W.specialIn K (.builtin "object.__class__") "__get__" = some (some (.builtin "getset_descriptor.__get__")))
    (ek_4 : PySem.W.takesIn K (.builtin "object.__class__") = some true)
    (el_4 : PySem.W.mroIn K C4 (.type "object") = some true)
    (ma_4_2 : PySem.W.subIn K (.ref C2) (.type "BaseException") = some true)
    (mb_4_2 : PySem.W.hasDictIn K C2 = true)
    (mc_4_2 : PySem.W.typeIn K (.ref C2) = some (.type "type"))
    (md_4_2 : PySem.W.subIn K (.ref C4) (.ref C2) = some true)
    (xk_4_NoQuotient : PySem.W.kitOne K (.ref C4) (.ref C3) = some false)
    (xk_4_TooShort : PySem.W.kitOne K (.ref C4) (.ref C5) = some false)
    (xk_4_BadRow : PySem.W.kitOne K (.ref C4) (.ref C6) = some false)
    (xk_4_Pole : PySem.W.kitOne K (.ref C4) (.ref C4) = some true)
    (xk_4_ValueError : PySem.W.kitOne K (.ref C4) (.type "ValueError") = some true)
    (kg0 : PySem.W.nsIn K mainGlobals "NOUGHT" = some (some (.ref n0)))
    (kh0 : K.lookup n0 = some ⟨.type "tuple", none, .seq #[.int 0 nt0_0, .int 1 nt0_1] nk0, #[]⟩)
    (z_ValueError : PySem.W.nsIn K mainGlobals "ValueError" = some none)
    (z_abs : PySem.W.nsIn K mainGlobals "abs" = some none)
    (z_all : PySem.W.nsIn K mainGlobals "all" = some none)
    (z_bool : PySem.W.nsIn K mainGlobals "bool" = some none)
    (z_divmod : PySem.W.nsIn K mainGlobals "divmod" = some none)
    (z_enumerate : PySem.W.nsIn K mainGlobals "enumerate" = some none)
    (z_int : PySem.W.nsIn K mainGlobals "int" = some none)
    (z_isinstance : PySem.W.nsIn K mainGlobals "isinstance" = some none)
    (z_len : PySem.W.nsIn K mainGlobals "len" = some none)
    (z_list : PySem.W.nsIn K mainGlobals "list" = some none)
    (z_max : PySem.W.nsIn K mainGlobals "max" = some none)
    (z_range : PySem.W.nsIn K mainGlobals "range" = some none)
    (z_reversed : PySem.W.nsIn K mainGlobals "reversed" = some none)
    (z_str : PySem.W.nsIn K mainGlobals "str" = some none)
    (z_tuple : PySem.W.nsIn K mainGlobals "tuple" = some none)
    (z_zip : PySem.W.nsIn K mainGlobals "zip" = some none)
    : ∃ fd : FuncData, (∀ (s : Shared) (v : Value), BindsTo s fd ⟨[v], []⟩ [("_law_script", v)]) ∧ ∀ base : Heap, K.In base → base.Ns mainGlobals mg → base.NoSeer → FnOk l.prog w K mg base CX0 42 fa fd ["_law_script"] (spLaw K) := by
  have e := hfa.symm.trans (PySem.W.mg_of X G m34)
  cases e
  let fds : List FuncData := [PySem.W.fnOf "greatest_both" "greatest_both" (defArgs s_greatest_both) (defBody s_greatest_both) (defScope s_greatest_both) .none kV0 dc0 pm0 an0 cd0 ct0, PySem.W.fnOf "number" "number" (defArgs s_number) (defBody s_number) (defScope s_number) .none kV1 dc1 pm1 an1 cd1 ct1, PySem.W.fnOf "plus" "plus" (defArgs s_plus) (defBody s_plus) (defScope s_plus) .none kV2 dc2 pm2 an2 cd2 ct2, PySem.W.fnOf "minus" "minus" (defArgs s_minus) (defBody s_minus) (defScope s_minus) .none kV3 dc3 pm3 an3 cd3 ct3, PySem.W.fnOf "times" "times" (defArgs s_times) (defBody s_times) (defScope s_times) .none kV4 dc4 pm4 an4 cd4 ct4, PySem.W.fnOf "over" "over" (defArgs s_over) (defBody s_over) (defScope s_over) .none kV5 dc5 pm5 an5 cd5 ct5, PySem.W.fnOf "trimmed" "trimmed" (defArgs s_trimmed) (defBody s_trimmed) (defScope s_trimmed) .none kV6 dc6 pm6 an6 cd6 ct6, PySem.W.fnOf "parted_by" "parted_by" (defArgs s_parted_by) (defBody s_parted_by) (defScope s_parted_by) .none kV7 dc7 pm7 an7 cd7 ct7, PySem.W.fnOf "common_by" "common_by" (defArgs s_common_by) (defBody s_common_by) (defScope s_common_by) .none kV8 dc8 pm8 an8 cd8 ct8, PySem.W.fnOf "value_by" "value_by" (defArgs s_value_by) (defBody s_value_by) (defScope s_value_by) .none kV9 dc9 pm9 an9 cd9 ct9, PySem.W.fnOf "value_at" "value_at" (defArgs s_value_at) (defBody s_value_at) (defScope s_value_at) .none kV10 dc10 pm10 an10 cd10 ct10, PySem.W.fnOf "over_all" "over_all" (defArgs s_over_all) (defBody s_over_all) (defScope s_over_all) .none kV11 dc11 pm11 an11 cd11 ct11, PySem.W.fnOf "quotient_in" "quotient_in" (defArgs s_quotient_in) (defBody s_quotient_in) (defScope s_quotient_in) .none kV12 dc12 pm12 an12 cd12 ct12, PySem.W.fnOf "number_at" "number_at" (defArgs s_number_row) (defBody s_number_row) (defScope s_number_row) .none kV13 dc13 pm13 an13 cd13 ct13, PySem.W.fnOf "weighed_at" "weighed_at" (defArgs s_weighed_at) (defBody s_weighed_at) (defScope s_weighed_at) .none kV14 dc14 pm14 an14 cd14 ct14, PySem.W.fnOf "row_in" "row_in" (defArgs s_row_in) (defBody s_row_in) (defScope s_row_in) .none kV15 dc15 pm15 an15 cd15 ct15, PySem.W.fnOf "quotient_of" "quotient_of" (defArgs s_quotient_of) (defBody s_quotient_of) (defScope s_quotient_of) .none kV16 dc16 pm16 an16 cd16 ct16, PySem.W.fnOf "value" "value" (defArgs s_value) (defBody s_value) (defScope s_value) .none kV17 dc17 pm17 an17 cd17 ct17, PySem.W.fnOf "row_of" "row_of" (defArgs s_row_of) (defBody s_row_of) (defScope s_row_of) .none kV18 dc18 pm18 an18 cd18 ct18, PySem.W.fnOf "_law_begin" "_law_begin" (defArgs s_l_begin) (defBody s_l_begin) (defScope s_l_begin) .none kV19 dc19 pm19 an19 cd19 ct19, PySem.W.fnOf "_law_take" "_law_take" (defArgs s_l_take) (defBody s_l_take) (defScope s_l_take) .none kV20 dc20 pm20 an20 cd20 ct20, PySem.W.fnOf "_law_same" "_law_same" (defArgs s_l_same) (defBody s_l_same) (defScope s_l_same) .none kV21 dc21 pm21 an21 cd21 ct21, PySem.W.fnOf "_law_part" "_law_part" (defArgs s_l_part) (defBody s_l_part) (defScope s_l_part) .none kV22 dc22 pm22 an22 cd22 ct22, PySem.W.fnOf "_law_plus" "_law_plus" (defArgs s_l_plus) (defBody s_l_plus) (defScope s_l_plus) .none kV23 dc23 pm23 an23 cd23 ct23, PySem.W.fnOf "_law_times" "_law_times" (defArgs s_l_times) (defBody s_l_times) (defScope s_l_times) .none kV24 dc24 pm24 an24 cd24 ct24, PySem.W.fnOf "_law_over" "_law_over" (defArgs s_l_over) (defBody s_l_over) (defScope s_l_over) .none kV25 dc25 pm25 an25 cd25 ct25, PySem.W.fnOf "_law_number" "_law_number" (defArgs s_l_number) (defBody s_l_number) (defScope s_l_number) .none kV26 dc26 pm26 an26 cd26 ct26, PySem.W.fnOf "_law_small" "_law_small" (defArgs s_l_small) (defBody s_l_small) (defScope s_l_small) .none kV27 dc27 pm27 an27 cd27 ct27, PySem.W.fnOf "_law_trimmed" "_law_trimmed" (defArgs s_l_trimmed) (defBody s_l_trimmed) (defScope s_l_trimmed) .none kV28 dc28 pm28 an28 cd28 ct28, PySem.W.fnOf "_law_product" "_law_product" (defArgs s_l_product) (defBody s_l_product) (defScope s_l_product) .none kV29 dc29 pm29 an29 cd29 ct29, PySem.W.fnOf "_law_two_polys" "_law_two_polys" (defArgs s_l_two_polys) (defBody s_l_two_polys) (defScope s_l_two_polys) .none kV30 dc30 pm30 an30 cd30 ct30, PySem.W.fnOf "_law_worth" "_law_worth" (defArgs s_l_worth) (defBody s_l_worth) (defScope s_l_worth) .none kV31 dc31 pm31 an31 cd31 ct31, PySem.W.fnOf "_law_told" "_law_told" (defArgs s_l_told) (defBody s_l_told) (defScope s_l_told) .none kV32 dc32 pm32 an32 cd32 ct32, PySem.W.fnOf "_law_one_right" "_law_one_right" (defArgs s_l_one_right) (defBody s_l_one_right) (defScope s_l_one_right) .none kV33 dc33 pm33 an33 cd33 ct33, PySem.W.fnOf "law" "law" (defArgs s_law) (defBody s_law) (defScope s_law) .none kV34 dc34 pm34 an34 cd34 ct34, PySem.W.fnOf "nought" "Exact.nought" (defArgs s_Exact_nought) (defBody s_Exact_nought) (defScope s_Exact_nought) .none kV35 dc35 pm35 an35 cd35 ct35, PySem.W.fnOf "plus" "Exact.plus" (defArgs s_Exact_plus) (defBody s_Exact_plus) (defScope s_Exact_plus) .none kV36 dc36 pm36 an36 cd36 ct36, PySem.W.fnOf "times" "Exact.times" (defArgs s_Exact_times) (defBody s_Exact_times) (defScope s_Exact_times) .none kV37 dc37 pm37 an37 cd37 ct37, PySem.W.fnOf "is_nought" "Exact.is_nought" (defArgs s_Exact_is_nought) (defBody s_Exact_is_nought) (defScope s_Exact_is_nought) .none kV38 dc38 pm38 an38 cd38 ct38, PySem.W.fnOf "over" "Exact.over" (defArgs s_Exact_over) (defBody s_Exact_over) (defScope s_Exact_over) .none kV39 dc39 pm39 an39 cd39 ct39, PySem.W.fnOf "minus" "Exact.minus" (defArgs s_Exact_minus) (defBody s_Exact_minus) (defScope s_Exact_minus) .none kV40 dc40 pm40 an40 cd40 ct40]
  have T : ∀ base : Heap, base.NoSeer → Txt l.prog base K mg (addrs [C0, 0, C2, C3, C4, C5, C6]) (addrs [f0, f1, f2, f3, f4, f5, f6, f7, f8, f9, f10, f11, f12, f13, f14, f15, f16, f17, f18, f19, f20, f21, f22, f23, f24, f25, f26, f27, f28, f29, f30, f31, f32, f33, fa, f35, f36, f37, f38, f39, f40]) (fun i => fds.getD i (PySem.W.fnOf "law" "law" (defArgs s_law) (defBody s_law) (defScope s_law) .none kV34 dc34 pm34 an34 cd34 ct34)) := fun base seer => {
    seer := seer,
    tree := tree,
    f_greatest_both := fun_mk (st := s_greatest_both) l0 c0 k0,
    b_greatest_both := (fun_mk (st := s_greatest_both) l0 c0 k0).binds fun _ _ _ _ _ _ us hl => match us, hl with | [_, _], _ => rfl,
    m_greatest_both := PySem.W.mg_of X G m0,
    f_number := fun_mk (st := s_number) l1 c1 k1,
    b_number := (fun_mk (st := s_number) l1 c1 k1).binds fun _ _ _ _ _ _ us hl => match us, hl with | [_, _], _ => rfl,
    m_number := PySem.W.mg_of X G m1,
    f_plus := fun_mk (st := s_plus) l2 c2 k2,
    b_plus := (fun_mk (st := s_plus) l2 c2 k2).binds fun _ _ _ _ _ _ us hl => match us, hl with | [_, _], _ => rfl,
    m_plus := PySem.W.mg_of X G m2,
    f_minus := fun_mk (st := s_minus) l3 c3 k3,
    b_minus := (fun_mk (st := s_minus) l3 c3 k3).binds fun _ _ _ _ _ _ us hl => match us, hl with | [_, _], _ => rfl,
    m_minus := PySem.W.mg_of X G m3,
    f_times := fun_mk (st := s_times) l4 c4 k4,
    b_times := (fun_mk (st := s_times) l4 c4 k4).binds fun _ _ _ _ _ _ us hl => match us, hl with | [_, _], _ => rfl,
    m_times := PySem.W.mg_of X G m4,
    f_over := fun_mk (st := s_over) l5 c5 k5,
    b_over := (fun_mk (st := s_over) l5 c5 k5).binds fun _ _ _ _ _ _ us hl => match us, hl with | [_, _], _ => rfl,
    m_over := PySem.W.mg_of X G m5,
    f_trimmed := fun_mk (st := s_trimmed) l6 c6 k6,
    b_trimmed := (fun_mk (st := s_trimmed) l6 c6 k6).binds fun _ _ _ _ _ _ us hl => match us, hl with | [_, _], _ => rfl,
    m_trimmed := PySem.W.mg_of X G m6,
    f_parted_by := fun_mk (st := s_parted_by) l7 c7 k7,
    b_parted_by := (fun_mk (st := s_parted_by) l7 c7 k7).binds fun _ _ _ _ _ _ us hl => match us, hl with | [_, _, _], _ => rfl,
    m_parted_by := PySem.W.mg_of X G m7,
    f_common_by := fun_mk (st := s_common_by) l8 c8 k8,
    b_common_by := (fun_mk (st := s_common_by) l8 c8 k8).binds fun _ _ _ _ _ _ us hl => match us, hl with | [_, _, _], _ => rfl,
    m_common_by := PySem.W.mg_of X G m8,
    f_value_by := fun_mk (st := s_value_by) l9 c9 k9,
    b_value_by := (fun_mk (st := s_value_by) l9 c9 k9).binds fun _ _ _ _ _ _ us hl => match us, hl with | [_, _, _], _ => rfl,
    m_value_by := PySem.W.mg_of X G m9,
    f_value_at := fun_mk (st := s_value_at) l10 c10 k10,
    b_value_at := (fun_mk (st := s_value_at) l10 c10 k10).binds fun _ _ _ _ _ _ us hl => match us, hl with | [_, _], _ => rfl,
    m_value_at := PySem.W.mg_of X G m10,
    f_over_all := fun_mk (st := s_over_all) l11 c11 k11,
    b_over_all := (fun_mk (st := s_over_all) l11 c11 k11).binds fun _ _ _ _ _ _ us hl => match us, hl with | [_, _, _], _ => rfl,
    m_over_all := PySem.W.mg_of X G m11,
    f_quotient_in := fun_mk (st := s_quotient_in) l12 c12 k12,
    b_quotient_in := (fun_mk (st := s_quotient_in) l12 c12 k12).binds fun _ _ _ _ _ _ us hl => match us, hl with | [_, _, _], _ => rfl,
    m_quotient_in := PySem.W.mg_of X G m12,
    f_number_row := fun_mk (st := s_number_row) l13 c13 k13,
    b_number_row := (fun_mk (st := s_number_row) l13 c13 k13).binds fun _ _ _ _ _ _ us hl => match us, hl with | [_, _, _], _ => rfl,
    m_number_at := PySem.W.mg_of X G m13,
    f_weighed_at := fun_mk (st := s_weighed_at) l14 c14 k14,
    b_weighed_at := (fun_mk (st := s_weighed_at) l14 c14 k14).binds fun _ _ _ _ _ _ us hl => match us, hl with | [_, _, _, _], _ => rfl,
    m_weighed_at := PySem.W.mg_of X G m14,
    f_row_in := fun_mk (st := s_row_in) l15 c15 k15,
    b_row_in := (fun_mk (st := s_row_in) l15 c15 k15).binds fun _ _ _ _ _ _ us hl => match us, hl with | [_, _, _], _ => rfl,
    m_row_in := PySem.W.mg_of X G m15,
    f_quotient_of := fun_mk (st := s_quotient_of) l16 c16 k16,
    b_quotient_of := (fun_mk (st := s_quotient_of) l16 c16 k16).binds fun _ _ _ _ _ _ us hl => match us, hl with | [_, _], _ => rfl,
    m_quotient_of := PySem.W.mg_of X G m16,
    f_value := fun_mk (st := s_value) l17 c17 k17,
    b_value := (fun_mk (st := s_value) l17 c17 k17).binds fun _ _ _ _ _ _ us hl => match us, hl with | [_, _], _ => rfl,
    m_value := PySem.W.mg_of X G m17,
    f_row_of := fun_mk (st := s_row_of) l18 c18 k18,
    b_row_of := (fun_mk (st := s_row_of) l18 c18 k18).binds fun _ _ _ _ _ _ us hl => match us, hl with | [_, _], _ => rfl,
    m_row_of := PySem.W.mg_of X G m18,
    f_l_begin := fun_mk (st := s_l_begin) l19 c19 k19,
    b_l_begin := (fun_mk (st := s_l_begin) l19 c19 k19).binds fun _ _ _ _ _ _ us hl => match us, hl with | [_], _ => rfl,
    m_l_begin := PySem.W.mg_of X G m19,
    f_l_take := fun_mk (st := s_l_take) l20 c20 k20,
    b_l_take := (fun_mk (st := s_l_take) l20 c20 k20).binds fun _ _ _ _ _ _ us hl => match us, hl with | [_, _], _ => rfl,
    m_l_take := PySem.W.mg_of X G m20,
    f_l_same := fun_mk (st := s_l_same) l21 c21 k21,
    b_l_same := (fun_mk (st := s_l_same) l21 c21 k21).binds fun _ _ _ _ _ _ us hl => match us, hl with | [_, _], _ => rfl,
    m_l_same := PySem.W.mg_of X G m21,
    f_l_part := fun_mk (st := s_l_part) l22 c22 k22,
    b_l_part := (fun_mk (st := s_l_part) l22 c22 k22).binds fun _ _ _ _ _ _ us hl => match us, hl with | [_, _], _ => rfl,
    m_l_part := PySem.W.mg_of X G m22,
    f_l_plus := fun_mk (st := s_l_plus) l23 c23 k23,
    b_l_plus := (fun_mk (st := s_l_plus) l23 c23 k23).binds fun _ _ _ _ _ _ us hl => match us, hl with | [_, _], _ => rfl,
    m_l_plus := PySem.W.mg_of X G m23,
    f_l_times := fun_mk (st := s_l_times) l24 c24 k24,
    b_l_times := (fun_mk (st := s_l_times) l24 c24 k24).binds fun _ _ _ _ _ _ us hl => match us, hl with | [_, _], _ => rfl,
    m_l_times := PySem.W.mg_of X G m24,
    f_l_over := fun_mk (st := s_l_over) l25 c25 k25,
    b_l_over := (fun_mk (st := s_l_over) l25 c25 k25).binds fun _ _ _ _ _ _ us hl => match us, hl with | [_, _], _ => rfl,
    m_l_over := PySem.W.mg_of X G m25,
    f_l_number := fun_mk (st := s_l_number) l26 c26 k26,
    b_l_number := (fun_mk (st := s_l_number) l26 c26 k26).binds fun _ _ _ _ _ _ us hl => match us, hl with | [_], _ => rfl,
    m_l_number := PySem.W.mg_of X G m26,
    f_l_small := fun_mk (st := s_l_small) l27 c27 k27,
    b_l_small := (fun_mk (st := s_l_small) l27 c27 k27).binds fun _ _ _ _ _ _ us hl => match us, hl with | [_], _ => rfl,
    m_l_small := PySem.W.mg_of X G m27,
    f_l_trimmed := fun_mk (st := s_l_trimmed) l28 c28 k28,
    b_l_trimmed := (fun_mk (st := s_l_trimmed) l28 c28 k28).binds fun _ _ _ _ _ _ us hl => match us, hl with | [_], _ => rfl,
    m_l_trimmed := PySem.W.mg_of X G m28,
    f_l_product := fun_mk (st := s_l_product) l29 c29 k29,
    b_l_product := (fun_mk (st := s_l_product) l29 c29 k29).binds fun _ _ _ _ _ _ us hl => match us, hl with | [_, _], _ => rfl,
    m_l_product := PySem.W.mg_of X G m29,
    f_l_two_polys := fun_mk (st := s_l_two_polys) l30 c30 k30,
    b_l_two_polys := (fun_mk (st := s_l_two_polys) l30 c30 k30).binds fun _ _ _ _ _ _ us hl => match us, hl with | [_, _, _], _ => rfl,
    m_l_two_polys := PySem.W.mg_of X G m30,
    f_l_worth := fun_mk (st := s_l_worth) l31 c31 k31,
    b_l_worth := (fun_mk (st := s_l_worth) l31 c31 k31).binds fun _ _ _ _ _ _ us hl => match us, hl with | [_, _], _ => rfl,
    m_l_worth := PySem.W.mg_of X G m31,
    f_l_told := fun_mk (st := s_l_told) l32 c32 k32,
    b_l_told := (fun_mk (st := s_l_told) l32 c32 k32).binds fun _ _ _ _ _ _ us hl => match us, hl with | [_, _], _ => rfl,
    m_l_told := PySem.W.mg_of X G m32,
    f_l_one_right := fun_mk (st := s_l_one_right) l33 c33 k33,
    b_l_one_right := (fun_mk (st := s_l_one_right) l33 c33 k33).binds fun _ _ _ _ _ _ us hl => match us, hl with | [_], _ => rfl,
    m_l_one_right := PySem.W.mg_of X G m33,
    f_law := fun_mk (st := s_law) l34 c34 k34,
    b_law := (fun_mk (st := s_law) l34 c34 k34).binds fun _ _ _ _ _ _ us hl => match us, hl with | [_], _ => rfl,
    m_law := PySem.W.mg_of X G m34,
    f_Exact_nought := fun_mk (st := s_Exact_nought) l35 c35 k35,
    b_Exact_nought := (fun_mk (st := s_Exact_nought) l35 c35 k35).binds fun _ _ _ _ _ _ us hl => match us, hl with | [_], _ => rfl,
    me_Exact_nought := ⟨m35, i35, k35⟩,
    f_Exact_plus := fun_mk (st := s_Exact_plus) l36 c36 k36,
    b_Exact_plus := (fun_mk (st := s_Exact_plus) l36 c36 k36).binds fun _ _ _ _ _ _ us hl => match us, hl with | [_, _, _], _ => rfl,
    me_Exact_plus := ⟨m36, i36, k36⟩,
    f_Exact_times := fun_mk (st := s_Exact_times) l37 c37 k37,
    b_Exact_times := (fun_mk (st := s_Exact_times) l37 c37 k37).binds fun _ _ _ _ _ _ us hl => match us, hl with | [_, _, _], _ => rfl,
    me_Exact_times := ⟨m37, i37, k37⟩,
    f_Exact_is_nought := fun_mk (st := s_Exact_is_nought) l38 c38 k38,
    b_Exact_is_nought := (fun_mk (st := s_Exact_is_nought) l38 c38 k38).binds fun _ _ _ _ _ _ us hl => match us, hl with | [_, _], _ => rfl,
    me_Exact_is_nought := ⟨m38, i38, k38⟩,
    f_Exact_over := fun_mk (st := s_Exact_over) l39 c39 k39,
    b_Exact_over := (fun_mk (st := s_Exact_over) l39 c39 k39).binds fun _ _ _ _ _ _ us hl => match us, hl with | [_, _, _], _ => rfl,
    me_Exact_over := ⟨m39, i39, k39⟩,
    f_Exact_minus := fun_mk (st := s_Exact_minus) l40 c40 k40,
    b_Exact_minus := (fun_mk (st := s_Exact_minus) l40 c40 k40).binds fun _ _ _ _ _ _ us hl => match us, hl with | [_, _, _], _ => rfl,
    me_Exact_minus := ⟨m40, i40, k40⟩,
    m_plus_numbers := PySem.W.mg_of X G ma_plus_numbers,
    m_minus_numbers := PySem.W.mg_of X G ma_minus_numbers,
    m_times_numbers := PySem.W.mg_of X G ma_times_numbers,
    m_over_numbers := PySem.W.mg_of X G ma_over_numbers,
    c_Exact := ⟨PySem.W.mg_of X G q1_0, q2_0, q3_0, q4_0, ⟨q5_0, q6_0, q7_0, q8_0⟩⟩,
    g_FarError := PySem.W.mg_of X G ge_2,
    g_NoQuotient := PySem.W.mg_of X G ge_3,
    g_Pole := PySem.W.mg_of X G ge_4,
    g_TooShort := PySem.W.mg_of X G ge_5,
    g_BadRow := PySem.W.mg_of X G ge_6,
    e_Pole := ⟨PySem.W.mg_of X G ge_4, ea_4, eb_4, ec_4, ed_4⟩,
    ec_Pole := ⟨ef_4, eg_4, ec_4, eh_4, ei_4, ej_4, ek_4, el_4⟩,
    em_Pole_FarError := PySem.W.exm_ref ma_4_2 mb_4_2 mc_4_2 md_4_2,
    x_Pole_NoQuotient := xk_4_NoQuotient,
    x_Pole_TooShort := xk_4_TooShort,
    x_Pole_BadRow := xk_4_BadRow,
    x_Pole_Pole := xk_4_Pole,
    x_Pole_ValueError := xk_4_ValueError,
    k_NOUGHT := kcst_tup (xs := [(0 : Int), (1 : Int)]) (PySem.W.mg_of X G kg0) kh0 (show (2 : Nat) ≤ 1000 by decide) (by repeat (first | exact .nil | refine .cons ⟨_, rfl⟩ ?_)),
    n_ValueError := PySem.W.mg_none_of X G z_ValueError,
    n_abs := PySem.W.mg_none_of X G z_abs,
    n_all := PySem.W.mg_none_of X G z_all,
    n_bool := PySem.W.mg_none_of X G z_bool,
    n_divmod := PySem.W.mg_none_of X G z_divmod,
    n_enumerate := PySem.W.mg_none_of X G z_enumerate,
    n_int := PySem.W.mg_none_of X G z_int,
    n_isinstance := PySem.W.mg_none_of X G z_isinstance,
    n_len := PySem.W.mg_none_of X G z_len,
    n_list := PySem.W.mg_none_of X G z_list,
    n_max := PySem.W.mg_none_of X G z_max,
    n_range := PySem.W.mg_none_of X G z_range,
    n_reversed := PySem.W.mg_none_of X G z_reversed,
    n_str := PySem.W.mg_none_of X G z_str,
    n_tuple := PySem.W.mg_none_of X G z_tuple,
    n_zip := PySem.W.mg_none_of X G z_zip }
  exact ⟨PySem.W.fnOf "law" "law" (defArgs s_law) (defBody s_law) (defScope s_law) .none kV34 dc34 pm34 an34 cd34 ct34, fun s v => .of_eq rfl, fun base _ _ hS => ok_law (T base hS)⟩
theorem walk {l : PySem.W.OpenLaw} {q : Program} {loose : List Str} {XP : (Str → Option Value) → Heap → Prop} {YP : World → Heap → Prop} {d : DefRec} {K : Params → PySem.W.Frag} (hn : l.most = some 63) (hdf : d.params.defaults = []) (hi : importsNone q = true)
    (hY : ∀ (w : World) (h : Heap), YP w h → (K w.params).In h)
    (F : ∀ (w : World) (mg : Str → Option Value) (fa : Addr) (h : Heap), (K w.params).In h → h.Ns mainGlobals mg → mg d.name = some (.ref fa) →
      ∃ fd : FuncData, (∀ (s : Shared) (u : Value), BindsTo s fd ⟨[u], []⟩ [("_law_script", u)]) ∧ ∀ base : Heap, (K w.params).In base → base.Ns mainGlobals mg → base.NoSeer → FnOk l.prog w (K w.params) mg base CX0 42 fa fd ["_law_script"] (spLaw (K w.params))) :
    PySem.W.WalkO q loose XP YP l.row.toRowW d [] (fun f vs => PySem.call f vs) :=
  walkS (k := 42) hn hdf ⟨rfl, by decide, by decide⟩ hi hY F
end Lw

open PySem PySem.W PyProof.Rows in
set_option maxRecDepth 100000 in
set_option maxHeartbeats 0 in
theorem PySem.Challenge.cw_farquotient_k12_values_and_poles_holds : PySem.Challenge.rw_farquotient_k12_values_and_poles.Holds := by
  w_on; o_law; k_head; (case hw => w_witness2)
  k_fill
  refine Lw.walk (l := PySem.Challenge.rw_farquotient_k12_values_and_poles) rfl rfl (by decide +kernel) (fun w h Y => PySem.W.kIn_of Y) ?F
  case F =>
    intro w mg fa h KX G hmg
    refine' Lw.all_mk KX G hmg rfl ?m0 ?l0 ?c0 ?k0 ?m1 ?l1 ?c1 ?k1 ?m2 ?l2 ?c2 ?k2 ?m3 ?l3 ?c3 ?k3 ?m4 ?l4 ?c4 ?k4 ?m5 ?l5 ?c5 ?k5 ?m6 ?l6 ?c6 ?k6 ?m7 ?l7 ?c7 ?k7 ?m8 ?l8 ?c8 ?k8 ?m9 ?l9 ?c9 ?k9 ?m10 ?l10 ?c10 ?k10 ?m11 ?l11 ?c11 ?k11 ?m12 ?l12 ?c12 ?k12 ?m13 ?l13 ?c13 ?k13 ?m14 ?l14 ?c14 ?k14 ?m15 ?l15 ?c15 ?k15 ?m16 ?l16 ?c16 ?k16 ?m17 ?l17 ?c17 ?k17 ?m18 ?l18 ?c18 ?k18 ?m19 ?l19 ?c19 ?k19 ?m20 ?l20 ?c20 ?k20 ?m21 ?l21 ?c21 ?k21 ?m22 ?l22 ?c22 ?k22 ?m23 ?l23 ?c23 ?k23 ?m24 ?l24 ?c24 ?k24 ?m25 ?l25 ?c25 ?k25 ?m26 ?l26 ?c26 ?k26 ?m27 ?l27 ?c27 ?k27 ?m28 ?l28 ?c28 ?k28 ?m29 ?l29 ?c29 ?k29 ?m30 ?l30 ?c30 ?k30 ?m31 ?l31 ?c31 ?k31 ?m32 ?l32 ?c32 ?k32 ?m33 ?l33 ?c33 ?k33 ?m34 ?l34 ?c34 ?k34 ?m35 ?i35 ?l35 ?c35 ?k35 ?m36 ?i36 ?l36 ?c36 ?k36 ?m37 ?i37 ?l37 ?c37 ?k37 ?m38 ?i38 ?l38 ?c38 ?k38 ?m39 ?i39 ?l39 ?c39 ?k39 ?m40 ?i40 ?l40 ?c40 ?k40 ?ma_plus_numbers ?ma_minus_numbers ?ma_times_numbers ?ma_over_numbers ?q1_0 ?q2_0 ?q3_0 ?q4_0 ?q5_0 ?q6_0 ?q7_0 ?q8_0 ?ge_2 ?ge_3 ?ge_4 ?ge_5 ?ge_6 ?ea_4 ?eb_4 ?ec_4 ?ed_4 ?ef_4 ?eg_4 ?eh_4 ?ei_4 ?ej_4 ?ek_4 ?el_4 ?ma_4_2 ?mb_4_2 ?mc_4_2 ?md_4_2 ?xk_4_NoQuotient ?xk_4_TooShort ?xk_4_BadRow ?xk_4_Pole ?xk_4_ValueError ?kg0 ?kh0 ?z_ValueError ?z_abs ?z_all ?z_bool ?z_divmod ?z_enumerate ?z_int ?z_isinstance ?z_len ?z_list ?z_max ?z_range ?z_reversed ?z_str ?z_tuple ?z_zip
    (case ge_2 => k_is)
    (case ge_3 => k_is)
    (case ge_4 => k_is)
    (case ge_5 => k_is)
    (case ge_6 => k_is)
    (case q1_0 => k_is)
    (case q2_0 => k_is)
    (case q3_0 => k_is)
    (case q4_0 => k_is)
    (case q5_0 => k_is)
    (case q6_0 => k_is)
    (case q7_0 => k_is)
    (case q8_0 => k_is)
    (case m0 => k_is)
    (case l0 => k_is)
    (case c0 => k_is)
    (case k0 => k_is)
    (case m1 => k_is)
    (case l1 => k_is)
    (case c1 => k_is)
    (case k1 => k_is)
    (case m2 => k_is)
    (case l2 => k_is)
    (case c2 => k_is)
    (case k2 => k_is)
    (case m3 => k_is)
    (case l3 => k_is)
    (case c3 => k_is)
    (case k3 => k_is)
    (case m4 => k_is)
    (case l4 => k_is)
    (case c4 => k_is)
    (case k4 => k_is)
    (case m5 => k_is)
    (case l5 => k_is)
    (case c5 => k_is)
    (case k5 => k_is)
    (case m6 => k_is)
    (case l6 => k_is)
    (case c6 => k_is)
    (case k6 => k_is)
    (case m7 => k_is)
    (case l7 => k_is)
    (case c7 => k_is)
    (case k7 => k_is)
    (case m8 => k_is)
    (case l8 => k_is)
    (case c8 => k_is)
    (case k8 => k_is)
    (case m9 => k_is)
    (case l9 => k_is)
    (case c9 => k_is)
    (case k9 => k_is)
    (case m10 => k_is)
    (case l10 => k_is)
    (case c10 => k_is)
    (case k10 => k_is)
    (case m11 => k_is)
    (case l11 => k_is)
    (case c11 => k_is)
    (case k11 => k_is)
    (case m12 => k_is)
    (case l12 => k_is)
    (case c12 => k_is)
    (case k12 => k_is)
    (case m13 => k_is)
    (case l13 => k_is)
    (case c13 => k_is)
    (case k13 => k_is)
    (case m14 => k_is)
    (case l14 => k_is)
    (case c14 => k_is)
    (case k14 => k_is)
    (case m15 => k_is)
    (case l15 => k_is)
    (case c15 => k_is)
    (case k15 => k_is)
    (case m16 => k_is)
    (case l16 => k_is)
    (case c16 => k_is)
    (case k16 => k_is)
    (case m17 => k_is)
    (case l17 => k_is)
    (case c17 => k_is)
    (case k17 => k_is)
    (case m18 => k_is)
    (case l18 => k_is)
    (case c18 => k_is)
    (case k18 => k_is)
    (case m19 => k_is)
    (case l19 => k_is)
    (case c19 => k_is)
    (case k19 => k_is)
    (case m20 => k_is)
    (case l20 => k_is)
    (case c20 => k_is)
    (case k20 => k_is)
    (case m21 => k_is)
    (case l21 => k_is)
    (case c21 => k_is)
    (case k21 => k_is)
    (case m22 => k_is)
    (case l22 => k_is)
    (case c22 => k_is)
    (case k22 => k_is)
    (case m23 => k_is)
    (case l23 => k_is)
    (case c23 => k_is)
    (case k23 => k_is)
    (case m24 => k_is)
    (case l24 => k_is)
    (case c24 => k_is)
    (case k24 => k_is)
    (case m25 => k_is)
    (case l25 => k_is)
    (case c25 => k_is)
    (case k25 => k_is)
    (case m26 => k_is)
    (case l26 => k_is)
    (case c26 => k_is)
    (case k26 => k_is)
    (case m27 => k_is)
    (case l27 => k_is)
    (case c27 => k_is)
    (case k27 => k_is)
    (case m28 => k_is)
    (case l28 => k_is)
    (case c28 => k_is)
    (case k28 => k_is)
    (case m29 => k_is)
    (case l29 => k_is)
    (case c29 => k_is)
    (case k29 => k_is)
    (case m30 => k_is)
    (case l30 => k_is)
    (case c30 => k_is)
    (case k30 => k_is)
    (case m31 => k_is)
    (case l31 => k_is)
    (case c31 => k_is)
    (case k31 => k_is)
    (case m32 => k_is)
    (case l32 => k_is)
    (case c32 => k_is)
    (case k32 => k_is)
    (case m33 => k_is)
    (case l33 => k_is)
    (case c33 => k_is)
    (case k33 => k_is)
    (case m34 => k_is)
    (case l34 => k_is)
    (case c34 => k_is)
    (case k34 => k_is)
    (case m35 => k_is)
    (case i35 => k_is)
    (case l35 => k_is)
    (case c35 => k_is)
    (case k35 => k_is)
    (case m36 => k_is)
    (case i36 => k_is)
    (case l36 => k_is)
    (case c36 => k_is)
    (case k36 => k_is)
    (case m37 => k_is)
    (case i37 => k_is)
    (case l37 => k_is)
    (case c37 => k_is)
    (case k37 => k_is)
    (case m38 => k_is)
    (case i38 => k_is)
    (case l38 => k_is)
    (case c38 => k_is)
    (case k38 => k_is)
    (case m39 => k_is)
    (case i39 => k_is)
    (case l39 => k_is)
    (case c39 => k_is)
    (case k39 => k_is)
    (case m40 => k_is)
    (case i40 => k_is)
    (case l40 => k_is)
    (case c40 => k_is)
    (case k40 => k_is)
    (case ma_plus_numbers => k_is)
    (case ma_minus_numbers => k_is)
    (case ma_times_numbers => k_is)
    (case ma_over_numbers => k_is)
    (case ea_4 => k_exc)
    (case eb_4 => k_is)
    (case ec_4 => k_is)
    (case ed_4 => k_is)
    (case ef_4 => k_is)
    (case eg_4 => k_is)
    (case eh_4 => k_is)
    (case ei_4 => k_is)
    (case ej_4 => k_is)
    (case ek_4 => k_is)
    (case el_4 => k_is)
    (case ma_4_2 => k_is)
    (case mb_4_2 => k_is)
    (case mc_4_2 => k_is)
    (case md_4_2 => k_is)
    (case xk_4_NoQuotient => kit_is)
    (case xk_4_TooShort => kit_is)
    (case xk_4_BadRow => kit_is)
    (case xk_4_Pole => kit_is)
    (case xk_4_ValueError => kit_is)
    (case kg0 => k_is)
    (case kh0 => k_is)
    (case z_ValueError => k_is)
    (case z_abs => k_is)
    (case z_all => k_is)
    (case z_bool => k_is)
    (case z_divmod => k_is)
    (case z_enumerate => k_is)
    (case z_int => k_is)
    (case z_isinstance => k_is)
    (case z_len => k_is)
    (case z_list => k_is)
    (case z_max => k_is)
    (case z_range => k_is)
    (case z_reversed => k_is)
    (case z_str => k_is)
    (case z_tuple => k_is)
    (case z_zip => k_is)
