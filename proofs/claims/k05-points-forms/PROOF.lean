import PyProof.Rows.All
import Wide.All
import OpenK.AllK
import Wide.FinOn
import HandS.ForMost
import HandS.Wide
import HandS.Gcd
import HandS.Flow
import HandS.Conv
import HandS.Zip
import HandS.Evl
import HandS.Defaults
import HandS.IsInst
import HandS.Deep
import HandS.TupAny
import KE.KOpsOwn
import HandS.SlotsOwn
import HandS.Style
import KE.KRevSl
import KE.KSortTupG
import HandS.TupSets
import HandS.DictComp
import HandS.TryOnly
import HandS.Base
import HandS.Call
import HandS.HeadHook1
import HandS.HeadHook2
import HandS.MakeKwOnly
import HandS.More
import PyProof.ReprReads
import HandS.Ends
import HandS.HeadEnd
import HandS.RaiseMore
import HandS.OwnEq
import PyProof.NeKinds
import PySem.Challenge.RW_longchances_k05_f_points_in_order_and_wh
import KE.KStateDown
import Lean
import HandS.Head0
import HandS.Head1
import HandS.Head2
import HandS.Head3

-- part LcBase
section
set_option Elab.async false
set_option linter.all false
set_option maxRecDepth 100000
set_option maxHeartbeats 2000000
/-! # Lc: a reckoning in pure terms over the hand layer: slots hold data of told kinds, a heap but for what may change -/
namespace L2.Lc
open PySem PySem.Spec PyProof.Rows L2
open Evl (Ex ex_l ex_t)

/-! ### heaps -/
open Classical in
/-- the heap without what may change -/
noncomputable def hid (M : Addr → Prop) (H : Hp) : Hp := fun a => if M a then none else H a
section
variable {M : Addr → Prop} {H H' : Hp} {a : Addr} {o : HO}
theorem hid_yes (h : M a) : hid M H a = none := by unfold hid; rw [if_pos h]
theorem hid_no (h : ¬ M a) : hid M H a = H a := by unfold hid; rw [if_neg h]
theorem hid_some (h : hid M H a = some o) : ¬ M a ∧ H a = some o := by
  by_cases q : M a
  · rw [hid_yes q] at h; cases h
  · rw [hid_no q] at h; exact ⟨q, h⟩
theorem hid_le : Ex (hid M H) H := fun _ _ h => (hid_some h).2
theorem hid_mono (e : Ex H H') : Ex (hid M H) (hid M H') := fun a o h => by
  obtain ⟨n, h⟩ := hid_some h
  rw [hid_no n]; exact e a o h
end
def NoT (o : HO) : Prop := ∀ xs, o ≠ .tup xs
/-- what may change is there, and no tuple -/
def Good (M : Addr → Prop) (H : Hp) : Prop := ∀ a, M a → ∃ o, H a = some o ∧ NoT o
theorem Good.ex {M : Addr → Prop} {H H' : Hp} (g : Good M H) (e : Ex H H') : Good M H' := fun a m => by
  obtain ⟨o, h1, h2⟩ := g a m
  exact ⟨o, e a o h1, h2⟩
theorem Good.fresh {M : Addr → Prop} {H : Hp} (g : Good M H) {p : Addr} (h : H p = none) : ¬ M p := fun m => by
  obtain ⟨o, h1, _⟩ := g p m
  rw [h] at h1; cases h1
theorem Good.tup {M : Addr → Prop} {H : Hp} (g : Good M H) {p : Addr} {xs : List V} (h : H p = some (.tup xs)) : ¬ M p := fun m => by
  obtain ⟨o, h1, h2⟩ := g p m
  rw [h] at h1; cases h1
  exact h2 xs rfl

/-! ### kinds of data -/
structure Rl (α : Type) where
  r : Hp → V → α → Prop
  mono : ∀ {H H' : Hp} {v : V} {x : α}, Ex H H' → r H v x → r H' v x
/-- a datum of its kind -/
inductive Ent : Type 1 where
  | mk {α : Type} (R : Rl α) (x : α)
def Ent.ok (G : Hp) (v : V) : Ent → Prop
  | .mk R x => R.r G v x
theorem Ent.ok_mono {G G' : Hp} {v : V} {e : Ent} (x : Ex G G') (h : e.ok G v) : e.ok G' v := by
  cases e with
  | mk R y => exact R.mono x h
abbrev Gm : Type 1 := List (Option Ent)
/-- the slots bear these data -/
def EnvOk (G : Hp) (σ : St) (Γ : Gm) : Prop := σ.length = Γ.length ∧ ∀ (i : Nat) (e : Ent), Γ[i]? = some (some e) → ∃ v, σ[i]? = some (some v) ∧ e.ok G v
section
variable {G G' : Hp} {σ : St} {Γ : Gm} {i : Nat} {e : Ent} {v : V}
theorem EnvOk.mono (h : EnvOk G σ Γ) (x : Ex G G') : EnvOk G' σ Γ := ⟨h.1, fun i e q => by
  obtain ⟨v, h1, h2⟩ := h.2 i e q
  exact ⟨v, h1, Ent.ok_mono x h2⟩⟩
theorem EnvOk.set (h : EnvOk G σ Γ) (r : e.ok G v) : EnvOk G (σ.set i (some v)) (Γ.set i (some e)) := by
  refine ⟨by simp [h.1], fun j f q => ?_⟩
  by_cases hj : i = j
  · subst hj
    by_cases hl : i < Γ.length
    · rw [List.getElem?_set_self hl] at q
      cases q
      exact ⟨v, List.getElem?_set_self (by rw [h.1]; exact hl), r⟩
    · rw [List.getElem?_eq_none (by simpa using hl)] at q; cases q
  · rw [List.getElem?_set_ne hj] at q ⊢
    exact h.2 j f q
theorem EnvOk.wipe (h : EnvOk G σ Γ) : ∀ vs : List Nat, EnvOk G (wipe σ vs) (vs.foldr (fun i (g : Gm) => g.set i none) Γ)
  | [] => h
  | k :: vs => by
    have ih := EnvOk.wipe h vs
    refine ⟨by simp only [L2.wipe, List.foldr_cons, List.length_set]; exact ih.1, fun j f q => ?_⟩
    show ∃ v, ((L2.wipe σ vs).set k none)[j]? = some (some v) ∧ _
    simp only [List.foldr_cons] at q
    by_cases hj : k = j
    · subst hj
      by_cases hl : k < (vs.foldr (fun i (g : Gm) => g.set i none) Γ).length
      · rw [List.getElem?_set_self hl] at q; cases q
      · rw [List.getElem?_eq_none (by simpa using hl)] at q; cases q
    · rw [List.getElem?_set_ne hj] at q ⊢
      exact ih.2 j f q
/-- less is known -/
theorem EnvOk.less {Γ' : Gm} (h : EnvOk G σ Γ) (hl : Γ'.length = Γ.length) (w : ∀ (i : Nat) (e : Ent), Γ'[i]? = some (some e) → Γ[i]? = some (some e)) : EnvOk G σ Γ' := ⟨h.1.trans hl.symm, fun i e q => h.2 i e (w i e q)⟩
end

/-! ### what changes -/
structure Md (S : Type) where
  inv : S → Hp → Prop
  foot : Addr → Prop
  chg : Addr → Prop
  sub : ∀ a, chg a → foot a
  live : ∀ {n H a}, inv n H → foot a → H a ≠ none
  frame : ∀ {n H H'}, inv n H → (∀ a, foot a → H' a = H a) → inv n H'
  nt : ∀ {n H a}, inv n H → chg a → ∀ xs, H a ≠ some (.tup xs)
/-- nothing changes -/
def pm : Md Unit := ⟨fun _ _ => True, fun _ => False, fun _ => False, fun _ h => h, fun _ h => h.elim, fun _ _ => trivial, fun _ h => h.elim⟩
def ExM {S : Type} (m : Md S) (H H' : Hp) : Prop := ∀ a o, ¬ m.chg a → H a = some o → H' a = some o
section
variable {S : Type} {m : Md S} {M : Addr → Prop} {H H1 H2 : Hp} {n k : S}
theorem ExM.refl : ExM m H H := fun _ _ _ h => h
theorem ExM.trans (a : ExM m H H1) (b : ExM m H1 H2) : ExM m H H2 := fun x o n h => b x o n (a x o n h)
theorem ExM.of (e : Ex H H1) : ExM m H H1 := fun a o _ h => e a o h
theorem ExM.hid (e : ExM m H H1) (hm : ∀ a, m.chg a → M a) : Ex (hid M H) (hid M H1) := fun a o h => by
  obtain ⟨n, h⟩ := hid_some h
  rw [hid_no n]; exact e a o (fun z => n (hm a z)) h
theorem Md.kept (i : m.inv n H) (e : Ex H H1) : m.inv n H1 := m.frame i fun a f => by
  cases q : H a with
  | none => exact absurd q (m.live i f)
  | some o => exact e a o q
end
structure Cond {S : Type} (m : Md S) (M : Addr → Prop) (H : Hp) (n : S) : Prop where
  good : Good M H
  mm : ∀ a, m.chg a → M a
  inv : m.inv n H
section
variable {S : Type} {m : Md S} {M : Addr → Prop} {H H1 H2 : Hp} {n k : S}
theorem Cond.ex (c : Cond m M H n) (e : Ex H H1) : Cond m M H1 n := ⟨c.good.ex e, c.mm, m.kept c.inv e⟩
theorem Md.has (i : m.inv n H) {a : Addr} (z : m.chg a) : ∃ o, H a = some o ∧ NoT o := by
  cases q : H a with
  | none => exact absurd q (m.live i (m.sub a z))
  | some o => exact ⟨o, rfl, fun xs e => m.nt i z xs (by rw [q, e])⟩
theorem Cond.go (c : Cond m M H n) (e : ExM m H H1) (i : m.inv k H1) : Cond m M H1 k := ⟨fun a ma => by
  by_cases z : m.chg a
  · exact Md.has i z
  · obtain ⟨o, h1, h2⟩ := c.good a ma
    exact ⟨o, e a o z h1, h2⟩, c.mm, i⟩
theorem Cond.new (c : Cond m M H n) {p : Addr} {o : HO} (h : H p = none) : Cond m M (upd H p o) n := c.ex (Evl.Ex.new h)
end

/-! ### judgements -/
def EvW {S : Type} (m : Md S) (te : TE) (Γ : Gm) (n : S) {α : Type} (R : Rl α) (Post : α → S → Prop) : Prop :=
  ∀ (M : Addr → Prop) (σ : St) (H : Hp), Cond m M H n → EnvOk (hid M H) σ Γ → ∀ Q : VK,
    (∀ v x n' H', Post x n' → ExM m H H' → m.inv n' H' → R.r (hid M H') v x → Q v H') → te σ H Q
def TeW {S : Type} (m : Md S) (t : TT) (Γ : Gm) (n : S) (Post : Bool → S → Prop) : Prop :=
  ∀ (M : Addr → Prop) (σ : St) (H : Hp), Cond m M H n → EnvOk (hid M H) σ Γ → ∀ Q : Bool → Hp → Prop,
    (∀ b n' H', Post b n' → ExM m H H' → m.inv n' H' → Q b H') → t σ H Q
def ArgsOk (G : Hp) : List V → List Ent → Prop
  | [], [] => True
  | v :: vs, e :: es => e.ok G v ∧ ArgsOk G vs es
  | _, _ => False
theorem ArgsOk.mono {G G' : Hp} (x : Ex G G') : ∀ {vs : List V} {es : List Ent}, ArgsOk G vs es → ArgsOk G' vs es
  | [], [], _ => trivial
  | _ :: _, _ :: _, h => ⟨Ent.ok_mono x h.1, ArgsOk.mono x h.2⟩
  | [], _ :: _, h => h.elim
  | _ :: _, [], h => h.elim
theorem ArgsOk.len {G : Hp} : ∀ {vs : List V} {es : List Ent}, ArgsOk G vs es → vs.length = es.length
  | [], [], _ => rfl
  | _ :: _, _ :: _, h => congrArg Nat.succ (ArgsOk.len h.2)
  | [], _ :: _, h => h.elim
  | _ :: _, [], h => h.elim
def ArW {S : Type} (m : Md S) (ta : TA) (Γ : Gm) (n : S) (Post : List Ent → S → Prop) : Prop :=
  ∀ (M : Addr → Prop) (σ : St) (H : Hp), Cond m M H n → EnvOk (hid M H) σ Γ → ∀ Q : List V → Hp → Prop,
    (∀ vs es n' H', Post es n' → ExM m H H' → m.inv n' H' → ArgsOk (hid M H') vs es → Q vs H') → ta σ H Q
structure Dn (S β : Type) where
  nx : Gm → S → Prop
  rt : β → S → Prop
  bk : Gm → S → Prop := fun _ _ => False
  ct : Gm → S → Prop := fun _ _ => False
structure EndsOk {S β : Type} (m : Md S) (M : Addr → Prop) (H : Hp) (R : Rl β) (D : Dn S β) (E : Ends) : Prop where
  nx : ∀ Γ n σ H', D.nx Γ n → ExM m H H' → m.inv n H' → EnvOk (hid M H') σ Γ → E.nx σ H'
  rt : ∀ x n v H', D.rt x n → ExM m H H' → m.inv n H' → R.r (hid M H') v x → E.rt v H'
  bk : ∀ Γ n σ H', D.bk Γ n → ExM m H H' → m.inv n H' → EnvOk (hid M H') σ Γ → E.bk σ H'
  ct : ∀ Γ n σ H', D.ct Γ n → ExM m H H' → m.inv n H' → EnvOk (hid M H') σ Γ → E.ct σ H'
def StW {S β : Type} (m : Md S) (ts : TS) (Γ : Gm) (n : S) (R : Rl β) (D : Dn S β) : Prop :=
  ∀ (M : Addr → Prop) (σ : St) (H : Hp), Cond m M H n → EnvOk (hid M H) σ Γ → ∀ E : Ends, EndsOk m M H R D E → ts E σ H
/-- a target takes a datum -/
def TgW (g : TG) {α : Type} (R : Rl α) (x : α) (Γ : Gm) (Post : Gm → Prop) : Prop :=
  ∀ (M : Addr → Prop) (σ : St) (H : Hp) (v : V), EnvOk (hid M H) σ Γ → R.r (hid M H) v x → ∀ Q : St → Hp → Prop, (∀ σ' Γ', Post Γ' → EnvOk (hid M H) σ' Γ' → Q σ' H) → g v σ H Q
theorem EndsOk.at {S β : Type} {m : Md S} {M : Addr → Prop} {H H1 : Hp} {R : Rl β} {D : Dn S β} {E : Ends} (h : EndsOk m M H R D E) (e : ExM m H H1) : EndsOk m M H1 R D E :=
  ⟨fun Γ n σ H' d x => h.nx Γ n σ H' d (e.trans x), fun y n v H' d x => h.rt y n v H' d (e.trans x), fun Γ n σ H' d x => h.bk Γ n σ H' d (e.trans x), fun Γ n σ H' d x => h.ct Γ n σ H' d (e.trans x)⟩

/-! ### kinds -/
def rInt : Rl Int := ⟨fun _ v x => v = .int x, fun _ h => h⟩
def rBl : Rl Bool := ⟨fun _ v x => v = .bl x, fun _ h => h⟩
def rStr : Rl Str := ⟨fun _ v x => v = .str x, fun _ h => h⟩
def rNon : Rl Unit := ⟨fun _ v _ => v = .non, fun _ h => h⟩
/-- this very object -/
def rAt (a : Addr) : Rl Unit := ⟨fun _ v _ => v = .ref a, fun _ h => h⟩
/-- items of their kinds -/
inductive Al {α : Type} (P : V → α → Prop) : List V → List α → Prop where
  | nil : Al P [] []
  | cons {v x vs xs} : P v x → Al P vs xs → Al P (v :: vs) (x :: xs)
section
variable {α β : Type} {P P' : V → α → Prop}
theorem Al.mono : ∀ {vs : List V} {xs : List α}, (∀ v x, P v x → P' v x) → Al P vs xs → Al P' vs xs
  | _, _, _, .nil => .nil
  | _, _, f, .cons h t => .cons (f _ _ h) (Al.mono f t)
theorem Al.len : ∀ {vs : List V} {xs : List α}, Al P vs xs → vs.length = xs.length
  | _, _, .nil => rfl
  | _, _, .cons _ t => congrArg Nat.succ (Al.len t)
theorem Al.get : ∀ {vs : List V} {xs : List α} {i : Nat} {x : α}, Al P vs xs → xs[i]? = some x → ∃ v, vs[i]? = some v ∧ P v x
  | _, _, _, _, .nil, e => by simp at e
  | _, _, 0, _, .cons h _, e => by simp at e; subst e; exact ⟨_, rfl, h⟩
  | _, _, i + 1, x, .cons _ t, e => by
    obtain ⟨v, h1, h2⟩ := Al.get (i := i) (x := x) t (by simpa using e)
    exact ⟨v, by simpa using h1, h2⟩
theorem Al.getV : ∀ {vs : List V} {xs : List α} {i : Nat} {v : V}, Al P vs xs → vs[i]? = some v → ∃ x, xs[i]? = some x ∧ P v x
  | _, _, _, _, .nil, e => by simp at e
  | _, _, 0, _, .cons h _, e => by simp at e; subst e; exact ⟨_, rfl, h⟩
  | _, _, i + 1, x, .cons _ t, e => by
    obtain ⟨v, h1, h2⟩ := Al.getV (i := i) (v := x) t (by simpa using e)
    exact ⟨v, by simpa using h1, h2⟩
theorem Al.append : ∀ {vs ws : List V} {xs ys : List α}, Al P vs xs → Al P ws ys → Al P (vs ++ ws) (xs ++ ys)
  | _, _, _, _, .nil, s => s
  | _, _, _, _, .cons r t, s => .cons r (Al.append t s)
theorem Al.take : ∀ {vs : List V} {xs : List α} (n : Nat), Al P vs xs → Al P (vs.take n) (xs.take n)
  | _, _, 0, _ => .nil
  | _, _, _ + 1, .nil => .nil
  | _, _, n + 1, .cons r t => .cons r (Al.take n t)
theorem Al.drop : ∀ {vs : List V} {xs : List α} (n : Nat), Al P vs xs → Al P (vs.drop n) (xs.drop n)
  | _, _, 0, r => r
  | _, _, _ + 1, .nil => .nil
  | _, _, n + 1, .cons _ t => Al.drop n t
theorem Al.reverse : ∀ {vs : List V} {xs : List α}, Al P vs xs → Al P vs.reverse xs.reverse
  | _, _, .nil => .nil
  | _, _, .cons r t => by
    rw [List.reverse_cons, List.reverse_cons]
    exact Al.append (Al.reverse t) (.cons r .nil)
theorem Al.erase : ∀ {vs : List V} {xs : List α} (n : Nat), Al P vs xs → Al P (vs.eraseIdx n) (xs.eraseIdx n)
  | _, _, _, .nil => .nil
  | _, _, 0, .cons _ t => t
  | _, _, n + 1, .cons r t => .cons r (Al.erase n t)
theorem Al.map {f : α → V} (h : ∀ x, P (f x) x) : ∀ xs : List α, Al P (xs.map f) xs
  | [] => .nil
  | x :: xs => .cons (h x) (Al.map h xs)
end
theorem Al.ints {G : Hp} : ∀ {vs : List V} {xs : List Int}, Al (fun v x => rInt.r G v x) vs xs → vs = xs.map V.int
  | _, _, .nil => rfl
  | _, _, .cons h t => by rw [Al.ints t, (show _ = V.int _ from h)]; rfl
theorem Al.of_ints {G : Hp} : ∀ xs : List Int, Al (fun v x => rInt.r G v x) (xs.map V.int) xs := Al.map fun _ => rfl
/-- the most items that are spoken of -/
abbrev bigN : Nat := 100000
theorem bigN_line : bigN < sizeLine := by decide
variable (K : PySem.W.Frag)
/-- a list, of the text's or laid -/
def rSql {α : Type} (R : Rl α) : Rl (List α) := ⟨fun G v l => ∃ a vs, v = .ref a ∧ SqL K G a vs ∧ Al (fun v x => R.r G v x) vs l ∧ l.length ≤ bigN, fun e ⟨a, vs, h1, h2, h3, h4⟩ => ⟨a, vs, h1, ex_l e h2, h3.mono fun _ _ q => R.mono e q, h4⟩⟩

def rLst (_ : PySem.W.Frag) {α : Type} (R : Rl α) : Rl (List α) := ⟨fun G v l => ∃ a vs, v = .ref a ∧ G a = some (.lst vs) ∧ Al (fun v x => R.r G v x) vs l ∧ l.length ≤ bigN, fun e ⟨a, vs, h1, h2, h3, h4⟩ => ⟨a, vs, h1, e _ _ h2, h3.mono fun _ _ q => R.mono e q, h4⟩⟩
def rTup {α : Type} (R : Rl α) : Rl (List α) := ⟨fun G v l => ∃ a vs, v = .ref a ∧ SqT K G a vs ∧ Al (fun v x => R.r G v x) vs l ∧ l.length ≤ bigN, fun e ⟨a, vs, h1, h2, h3, h4⟩ => ⟨a, vs, h1, ex_t e h2, h3.mono fun _ _ q => R.mono e q, h4⟩⟩
/-- a pair, a tuple -/
def rPr {α β : Type} (R : Rl α) (S : Rl β) : Rl (α × β) := ⟨fun G v p => ∃ a x y, v = .ref a ∧ SqT K G a [x, y] ∧ R.r G x p.1 ∧ S.r G y p.2, fun e ⟨a, x, y, h1, h2, h3, h4⟩ => ⟨a, x, y, h1, ex_t e h2, R.mono e h3, S.mono e h4⟩⟩
theorem lst_sql {K : PySem.W.Frag} {α : Type} {R : Rl α} {G : Hp} {v : V} {l : List α} (h : (rLst K R).r G v l) : (rSql K R).r G v l := by
  obtain ⟨a, vs, h1, h2, h3⟩ := h
  exact ⟨a, vs, h1, .of h2, h3⟩
end L2.Lc
end

-- part LcRules
section
set_option Elab.async false
set_option linter.all false
set_option maxRecDepth 100000
set_option maxHeartbeats 200000
/-! # Rules of the reckoning -/
namespace L2.Lc
open PySem PySem.Spec PyProof.Rows L2
open Evl (Ex ex_l ex_t)

/-! ### targets: the slots that they store -/
def Upd (is : List Nat) (σ σ' : St) : Prop := σ'.length = σ.length ∧ ∀ j, j ∉ is → σ'[j]? = σ[j]?
theorem wipe_get (σ : St) : ∀ (vs : List Nat) (j : Nat), (wipe σ vs)[j]? = if j ∈ vs then (if j < σ.length then some none else none) else σ[j]?
  | [], j => by simp [wipe]
  | v :: vs, j => by
    unfold wipe
    by_cases e : v = j
    · subst e
      rw [List.getElem?_set]
      simp [wipe_length]
    · rw [List.getElem?_set_ne e, wipe_get σ vs j]
      have : (j ∈ v :: vs) ↔ j ∈ vs := by simp [Ne.symm e]
      simp only [this]
theorem Upd.wipe {is vs : List Nat} {σ σ' : St} (h : Upd is (wipe σ vs) σ') (s : ∀ i ∈ is, i ∈ vs) : wipe σ' vs = wipe σ vs := by
  have hl : σ'.length = σ.length := h.1.trans (wipe_length σ vs)
  apply List.ext_getElem?
  intro j
  rw [wipe_get, wipe_get, hl]
  by_cases q : j ∈ vs
  · rw [if_pos q, if_pos q]
  · rw [if_neg q, if_neg q, h.2 j (fun z => q (s j z)), wipe_get, if_neg q]
def TgI (is : List Nat) (g : TG) {α : Type} (R : Rl α) (x : α) (Γ : Gm) (Post : Gm → Prop) : Prop :=
  ∀ (M : Addr → Prop) (σ : St) (H : Hp) (v : V), EnvOk (hid M H) σ Γ → R.r (hid M H) v x → ∀ Q : St → Hp → Prop, (∀ σ' Γ', Post Γ' → EnvOk (hid M H) σ' Γ' → Upd is σ σ' → Q σ' H) → g v σ H Q
section
variable {α β γ : Type} {R : Rl α} {S : Rl β} {x : α} {y : β} {Γ : Gm} {Post : Gm → Prop} {K : PySem.W.Frag}
theorem tg_name {i : Nat} (h : Post (Γ.set i (some (.mk R x)))) : TgI [i] (gName i) R x Γ Post := fun M σ H v e r Q k =>
  k _ _ h (e.set (e := .mk R x) r) ⟨by simp, fun j hj => List.getElem?_set_ne (fun z => hj (by simp [z]))⟩
theorem tg_pair {is js : List Nat} {g1 g2 : TG} (h : TgI is g1 R x Γ fun Γ1 => TgI js g2 S y Γ1 Post) : TgI (is ++ js) (gTup K 2 (gCons g1 (gCons g2 gNil))) (rPr K R S) (x, y) Γ Post := fun M σ H v e r Q k => by
  obtain ⟨a, u, w, rfl, ht, r1, r2⟩ := r
  refine ⟨a, _, rfl, ex_t hid_le ht, rfl, ?_⟩
  refine ⟨u, [w], rfl, h M σ H u e r1 _ fun σ1 Γ1 p1 e1 u1 => ?_⟩
  refine ⟨w, [], rfl, p1 M σ1 H w e1 r2 _ fun σ2 Γ2 p2 e2 u2 => ?_⟩
  exact ⟨rfl, k σ2 Γ2 p2 e2 ⟨u2.1.trans u1.1, fun j hj => (u2.2 j fun z => hj (by simp [z])).trans (u1.2 j fun z => hj (by simp [z]))⟩⟩
end

/-! ### expressions -/
section
variable {Z : Type} {m : Md Z} {Γ : Gm} {n : Z} {α β γ : Type} {R : Rl α} {S : Rl β} {T : Rl γ} {Post : γ → Z → Prop} {K : PySem.W.Frag} {ta tb : TE}
theorem w_var {i : Nat} {x : γ} (h : Γ[i]? = some (some (.mk T x))) (p : Post x n) : EvW m (tVar i) Γ n T Post := fun M σ H c e Q k => by
  obtain ⟨v, h1, h2⟩ := e.2 i _ h
  exact ⟨v, h1, k v x n H p .refl c.inv h2⟩
theorem w_int {i : Int} {Post : Int → Z → Prop} (p : Post i n) : EvW m (tC (.int i)) Γ n rInt Post := fun M σ H c e Q k => k _ i n H p .refl c.inv rfl
theorem w_bl {b : Bool} {Post : Bool → Z → Prop} (p : Post b n) : EvW m (tC (.bl b)) Γ n rBl Post := fun M σ H c e Q k => k _ b n H p .refl c.inv rfl
theorem w_str {z : Str} {Post : Str → Z → Prop} (p : Post z n) : EvW m (tC (.str z)) Γ n rStr Post := fun M σ H c e Q k => k _ z n H p .refl c.inv rfl
/-- what a two-place operation does with data -/
def OpW (r : R2) (R : Rl α) (S : Rl β) (T : Rl γ) (C : α → β → Prop) (f : α → β → γ) : Prop :=
  ∀ (M : Addr → Prop) (H : Hp) (v u : V) (x : α) (y : β), Good M H → R.r (hid M H) v x → S.r (hid M H) u y → C x y → ∀ Q : VK, (∀ z H', Ex H H' → T.r (hid M H') z (f x y) → Q z H') → r v u H Q
theorem w_op {r : R2} {C : α → β → Prop} {f : α → β → γ} (hr : OpW r R S T C f) (h : EvW m ta Γ n R fun x n1 => EvW m tb Γ n1 S fun y n2 => C x y ∧ Post (f x y) n2) : EvW m (tOp r ta tb) Γ n T Post := fun M σ H c e Q k =>
  h M σ H c e _ fun v x n1 H1 p1 e1 i1 r1 => p1 M σ H1 (c.go e1 i1) (e.mono (e1.hid c.mm)) _ fun u y n2 H2 p2 e2 i2 r2 =>
    hr M H2 v u x y (c.go (e1.trans e2) i2).good (R.mono (e2.hid c.mm) r1) r2 p2.1 Q fun z H' ex rz => k z _ n2 H' p2.2 ((e1.trans e2).trans (.of ex)) (m.kept i2 ex) rz
theorem w_op0 {r : R2} {f : α → β → γ} (hr : OpW r R S T (fun _ _ => True) f) (h : EvW m ta Γ n R fun x n1 => EvW m tb Γ n1 S fun y n2 => Post (f x y) n2) : EvW m (tOp r ta tb) Γ n T Post :=
  w_op hr fun M σ H c e Q k => h M σ H c e Q fun v x n' H' p => k v x n' H' fun M σ H c e Q k => p M σ H c e Q fun v y n' H' p => k v y n' H' ⟨trivial, p⟩
def UnW (r : V → Hp → VK → Prop) (R : Rl α) (T : Rl γ) (f : α → γ) : Prop :=
  ∀ (M : Addr → Prop) (H : Hp) (v : V) (x : α), Good M H → R.r (hid M H) v x → ∀ Q : VK, (∀ z H', Ex H H' → T.r (hid M H') z (f x) → Q z H') → r v H Q
theorem w_un {r : V → Hp → VK → Prop} {f : α → γ} (hr : UnW r R T f) (h : EvW m ta Γ n R fun x n1 => Post (f x) n1) : EvW m (tUn r ta) Γ n T Post := fun M σ H c e Q k =>
  h M σ H c e _ fun v x n1 H1 p1 e1 i1 r1 => hr M H1 v x (c.go e1 i1).good r1 Q fun z H' ex rz => k z _ n1 H' p1 (e1.trans (.of ex)) (m.kept i1 ex) rz
theorem w_mono {Post' : γ → Z → Prop} (h : EvW m ta Γ n T Post) (w : ∀ x n, Post x n → Post' x n) : EvW m ta Γ n T Post' := fun M σ H c e Q k => h M σ H c e Q fun v x n' H' p => k v x n' H' (w x n' p)

/-! ### tests -/
theorem t_test {Post : Bool → Z → Prop} (h : EvW m ta Γ n rBl Post) : TeW m (tTest ta) Γ n Post := fun M σ H c e Q k =>
  h M σ H c e _ fun v x n1 H1 p1 e1 i1 r1 => ⟨x, r1, k x n1 H1 p1 e1 i1⟩
theorem t_B {Post : Bool → Z → Prop} (h : EvW m ta Γ n rBl Post) : TeW m (tB ta) Γ n Post := fun M σ H c e Q k =>
  h M σ H c e _ fun v x n1 H1 p1 e1 i1 r1 => ⟨x, r1, k x n1 H1 p1 e1 i1⟩
theorem t_yes {Post : Bool → Z → Prop} (h : Post true n) : TeW m tYes Γ n Post := fun M σ H c e Q k => k true n H h .refl c.inv
theorem t_and {t u : TT} {Post : Bool → Z → Prop} (h : TeW m t Γ n fun b n1 => (b = true → TeW m u Γ n1 Post) ∧ (b = false → Post false n1)) : TeW m (tAnd t u) Γ n Post := fun M σ H c e Q k =>
  h M σ H c e _ fun b n1 H1 p1 e1 i1 => by
    cases b with
    | true => exact p1.1 rfl M σ H1 (c.go e1 i1) (e.mono (e1.hid c.mm)) Q fun b n2 H2 p2 e2 i2 => k b n2 H2 p2 (e1.trans e2) i2
    | false => exact k false n1 H1 (p1.2 rfl) e1 i1
theorem t_or {t u : TT} {Post : Bool → Z → Prop} (h : TeW m t Γ n fun b n1 => (b = false → TeW m u Γ n1 Post) ∧ (b = true → Post true n1)) : TeW m (tOr t u) Γ n Post := fun M σ H c e Q k =>
  h M σ H c e _ fun b n1 H1 p1 e1 i1 => by
    cases b with
    | false => exact p1.1 rfl M σ H1 (c.go e1 i1) (e.mono (e1.hid c.mm)) Q fun b n2 H2 p2 e2 i2 => k b n2 H2 p2 (e1.trans e2) i2
    | true => exact k true n1 H1 (p1.2 rfl) e1 i1
theorem t_not {t : TT} {Post : Bool → Z → Prop} (h : TeW m t Γ n fun b n1 => Post (!b) n1) : TeW m (tNot t) Γ n Post := fun M σ H c e Q k => h M σ H c e _ fun b n1 H1 p1 e1 i1 => k _ n1 H1 p1 e1 i1
/-- a value's truth -/
def TruW (K : PySem.W.Frag) (R : Rl α) (f : α → Bool) : Prop := ∀ (G : Hp) (v : V) (x : α), R.r G v x → TruV K v G (f x)
def tTru (K : PySem.W.Frag) (ta : TE) : TT := fun σ H Q => ta σ H fun x H' => ∃ k, TruV K x H' k ∧ Q k H'
theorem truV_mono {K : PySem.W.Frag} {G H : Hp} {v : V} {b : Bool} (e : Ex G H) (h : TruV K v G b) : TruV K v H b := by
  cases v with
  | ref p =>
    rcases (show (∃ xs, SqL K G p xs ∧ b = !xs.isEmpty) ∨ (∃ xs, SqT K G p xs ∧ b = !xs.isEmpty) ∨ ∃ kvs, G p = some (.dK kvs) ∧ b = !kvs.isEmpty from h) with ⟨xs, h1, h2⟩ | ⟨xs, h1, h2⟩ | ⟨xs, h1, h2⟩
    · exact .inl ⟨xs, ex_l e h1, h2⟩
    · exact .inr (.inl ⟨xs, ex_t e h1, h2⟩)
    · exact .inr (.inr ⟨xs, e _ _ h1, h2⟩)
  | _ => exact h
theorem t_tru {f : α → Bool} {Post : Bool → Z → Prop} (hf : TruW K R f) (h : EvW m ta Γ n R fun x n1 => Post (f x) n1) : TeW m (tTru K ta) Γ n Post := fun M σ H c e Q k =>
  h M σ H c e _ fun v x n1 H1 p1 e1 i1 r1 => ⟨f x, truV_mono hid_le (hf _ v x r1), k _ n1 H1 p1 e1 i1⟩
theorem tru_int : TruW K rInt (fun i => i != 0) := fun _ v x h => by
  have h : v = .int x := h
  subst h; rfl
theorem tru_bl : TruW K rBl (fun i => i) := fun _ v x h => by
  have h : v = .bl x := h
  subst h; rfl
theorem w_if {t : TT} (h : TeW m t Γ n fun b n1 => (b = true → EvW m ta Γ n1 T Post) ∧ (b = false → EvW m tb Γ n1 T Post)) : EvW m (tIf t ta tb) Γ n T Post := fun M σ H c e Q k =>
  h M σ H c e _ fun b n1 H1 p1 e1 i1 => by
    cases b with
    | true => exact p1.1 rfl M σ H1 (c.go e1 i1) (e.mono (e1.hid c.mm)) Q fun v x n2 H2 p2 e2 i2 => k v x n2 H2 p2 (e1.trans e2) i2
    | false => exact p1.2 rfl M σ H1 (c.go e1 i1) (e.mono (e1.hid c.mm)) Q fun v x n2 H2 p2 e2 i2 => k v x n2 H2 p2 (e1.trans e2) i2
theorem w_andV {Post : Bool → Z → Prop} (h : EvW m ta Γ n rBl fun b n1 => (b = true → EvW m tb Γ n1 rBl Post) ∧ (b = false → Post false n1)) : EvW m (tAndV ta tb) Γ n rBl Post := fun M σ H c e Q k =>
  h M σ H c e _ fun v b n1 H1 p1 e1 i1 r1 => ⟨b, r1, by
    cases b with
    | true => exact p1.1 rfl M σ H1 (c.go e1 i1) (e.mono (e1.hid c.mm)) Q fun v x n2 H2 p2 e2 i2 => k v x n2 H2 p2 (e1.trans e2) i2
    | false => exact k _ false n1 H1 (p1.2 rfl) e1 i1 rfl⟩
theorem w_orV {Post : Bool → Z → Prop} (h : EvW m ta Γ n rBl fun b n1 => (b = false → EvW m tb Γ n1 rBl Post) ∧ (b = true → Post true n1)) : EvW m (tOrV ta tb) Γ n rBl Post := fun M σ H c e Q k =>
  h M σ H c e _ fun v b n1 H1 p1 e1 i1 r1 => ⟨b, r1, by
    cases b with
    | false => exact p1.1 rfl M σ H1 (c.go e1 i1) (e.mono (e1.hid c.mm)) Q fun v x n2 H2 p2 e2 i2 => k v x n2 H2 p2 (e1.trans e2) i2
    | true => exact k _ true n1 H1 (p1.2 rfl) e1 i1 rfl⟩
theorem w_orT {f : γ → Bool} {Post : γ → Z → Prop} (hf : TruW K T f) (h : EvW m ta Γ n T fun x n1 => (f x = true → Post x n1) ∧ (f x = false → EvW m tb Γ n1 T Post)) : EvW m (tOrT K ta tb) Γ n T Post := fun M σ H c e Q k =>
  h M σ H c e _ fun v x n1 H1 p1 e1 i1 r1 => ⟨f x, truV_mono hid_le (hf _ v x r1), by
    cases q : f x with
    | true => exact k v x n1 H1 (p1.1 q) e1 i1 r1
    | false => exact p1.2 q M σ H1 (c.go e1 i1) (e.mono (e1.hid c.mm)) Q fun v x n2 H2 p2 e2 i2 => k v x n2 H2 p2 (e1.trans e2) i2⟩
theorem w_notV {Post : Bool → Z → Prop} (h : EvW m ta Γ n rBl fun b n1 => Post (!b) n1) : EvW m (tNotV ta) Γ n rBl Post := fun M σ H c e Q k =>
  h M σ H c e _ fun v b n1 H1 p1 e1 i1 r1 => ⟨b, r1, k _ _ n1 H1 p1 e1 i1 rfl⟩

/-! ### arguments, displays -/
theorem a_nil {Post : List Ent → Z → Prop} (p : Post [] n) : ArW m tNil Γ n Post := fun M σ H c e Q k => k [] [] n H p .refl c.inv trivial
theorem a_cons {tr : TA} {Post : List Ent → Z → Prop} (h : EvW m ta Γ n R fun x n1 => ArW m tr Γ n1 fun es n2 => Post (.mk R x :: es) n2) : ArW m (tCons ta tr) Γ n Post := fun M σ H c e Q k =>
  h M σ H c e _ fun v x n1 H1 p1 e1 i1 r1 => p1 M σ H1 (c.go e1 i1) (e.mono (e1.hid c.mm)) _ fun vs es n2 H2 p2 e2 i2 a2 => k _ _ n2 H2 p2 (e1.trans e2) i2 ⟨R.mono (e2.hid c.mm) r1, a2⟩
theorem argsAl {G : Hp} : ∀ {vs : List V} {l : List α}, ArgsOk G vs (l.map fun x => Ent.mk R x) → Al (fun v x => R.r G v x) vs l
  | [], [], _ => .nil
  | _ :: _, _ :: _, h => .cons h.1 (argsAl h.2)
  | [], _ :: _, h => h.elim
  | _ :: _, [], h => h.elim
theorem new_l {M : Addr → Prop} {H : Hp} {p : Addr} {vs : List V} (hp : H p = none) (g : Good M H) : hid M (upd H p (.lst vs)) p = some (.lst vs) := by rw [hid_no (g.fresh hp), upd_same]
theorem new_t {M : Addr → Prop} {H : Hp} {p : Addr} {vs : List V} (hp : H p = none) (g : Good M H) : SqT K (hid M (upd H p (.tup vs))) p vs := .of (by rw [hid_no (g.fresh hp), upd_same])
theorem w_lst {t : TA} {Post : List α → Z → Prop} (h : ArW m t Γ n fun es n1 => ∃ l : List α, es = l.map (fun x => Ent.mk R x) ∧ l.length ≤ bigN ∧ Post l n1) : EvW m (tLst t) Γ n (rLst K R) Post := fun M σ H c e Q k =>
  h M σ H c e _ fun vs es n1 H1 p1 e1 i1 a1 => by
    obtain ⟨l, rfl, hl, p⟩ := p1
    have hn : vs.length = l.length := by rw [a1.len]; simp
    refine ⟨Nat.le_of_lt (Nat.lt_of_le_of_lt (by omega) bigN_line), fun q hq => ?_⟩
    have x := Evl.Ex.new (o := HO.lst vs) hq
    exact k _ l n1 _ p (e1.trans (.of x)) (m.kept i1 x) ⟨q, vs, rfl, new_l hq (c.go e1 i1).good, (argsAl a1).mono fun _ _ z => R.mono (hid_mono x) z, hl⟩
theorem w_tup {t : TA} {Post : List α → Z → Prop} (h : ArW m t Γ n fun es n1 => ∃ l : List α, es = l.map (fun x => Ent.mk R x) ∧ l.length ≤ bigN ∧ Post l n1) : EvW m (tTup t) Γ n (rTup K R) Post := fun M σ H c e Q k =>
  h M σ H c e _ fun vs es n1 H1 p1 e1 i1 a1 => by
    obtain ⟨l, rfl, hl, p⟩ := p1
    have hn : vs.length = l.length := by rw [a1.len]; simp
    refine ⟨Nat.le_of_lt (Nat.lt_of_le_of_lt (by omega) bigN_line), fun q hq => ?_⟩
    have x := Evl.Ex.new (o := HO.tup vs) hq
    exact k _ l n1 _ p (e1.trans (.of x)) (m.kept i1 x) ⟨q, vs, rfl, new_t hq (c.go e1 i1).good, (argsAl a1).mono fun _ _ z => R.mono (hid_mono x) z, hl⟩
theorem w_pr {Post : α × β → Z → Prop} (h : EvW m ta Γ n R fun x n1 => EvW m tb Γ n1 S fun y n2 => Post (x, y) n2) : EvW m (tTup (tCons ta (tCons tb tNil))) Γ n (rPr K R S) Post := fun M σ H c e Q k =>
  h M σ H c e _ fun v x n1 H1 p1 e1 i1 r1 => p1 M σ H1 (c.go e1 i1) (e.mono (e1.hid c.mm)) _ fun u y n2 H2 p2 e2 i2 r2 => by
    refine ⟨by show 2 ≤ sizeLine; decide, fun q hq => ?_⟩
    have z := Evl.Ex.new (o := HO.tup [v, u]) hq
    exact k _ (x, y) n2 _ p2 ((e1.trans e2).trans (.of z)) (m.kept i2 z) ⟨q, v, u, rfl, new_t hq (c.go (e1.trans e2) i2).good, R.mono (hid_mono z) (R.mono (e2.hid c.mm) r1), S.mono (hid_mono z) r2⟩

/-! ### calls -/
def spS {Z ι α β : Type} (m : ι → Md Z) (A : ι → α → List Ent) (pre : α → Z → Prop) (R : Rl β) (post : α → Z → β → Z → Prop) : Sp := fun vs H Q _ =>
  ∃ i M x n, Cond (m i) M H n ∧ ArgsOk (hid M H) vs (A i x) ∧ pre x n ∧ ∀ v y n' H', post x n y n' → ExM (m i) H H' → (m i).inv n' H' → R.r (hid M H') v y → Q v H'
/-- .. that changes nothing -/
def spP {α β : Type} (A : α → List Ent) (pre : α → Prop) (R : Rl β) (post : α → β → Prop) : Sp := fun vs H Q _ =>
  ∃ M x, Good M H ∧ ArgsOk (hid M H) vs (A x) ∧ pre x ∧ ∀ v y H', post x y → Ex H H' → R.r (hid M H') v y → Q v H'
theorem w_callS {Z ι : Type} {n : Z} {Post : γ → Z → Prop} {m : ι → Md Z} (i : ι) {A : ι → α → List Ent} {pre : α → Z → Prop} {post : α → Z → γ → Z → Prop} {E : XK} {t : TA}
    (h : ArW (m i) t Γ n fun es n1 => ∃ x, es = A i x ∧ pre x n1 ∧ ∀ y n2, post x n1 y n2 → Post y n2) : EvW (m i) (tCall (spS m A pre T post) [] E t) Γ n T Post := fun M σ H c e Q k =>
  h M σ H c e _ fun vs es n1 H1 p1 e1 i1 a1 => by
    obtain ⟨x, rfl, hp, hq⟩ := p1
    rw [List.append_nil]
    exact ⟨i, M, x, n1, c.go e1 i1, a1, hp, fun v y n' H' po x' iv r => k v y n' H' (hq y n' po) (e1.trans x') iv r⟩
theorem w_callP {A : α → List Ent} {pre : α → Prop} {post : α → γ → Prop} {E : XK} {t : TA}
    (h : ArW m t Γ n fun es n1 => ∃ x, es = A x ∧ pre x ∧ ∀ y, post x y → Post y n1) : EvW m (tCall (spP A pre T post) [] E t) Γ n T Post := fun M σ H c e Q k =>
  h M σ H c e _ fun vs es n1 H1 p1 e1 i1 a1 => by
    obtain ⟨x, rfl, hp, hq⟩ := p1
    rw [List.append_nil]
    exact ⟨M, x, (c.go e1 i1).good, a1, hp, fun v y H' po x' r => k v y n1 H' (hq y po) (e1.trans (.of x')) (m.kept i1 x') r⟩
/-- a built-in's call -/
def CbW (r : List V → Hp → VK → Prop) (es : List Ent) (T : Rl γ) (y : γ) : Prop :=
  ∀ (M : Addr → Prop) (H : Hp) (vs : List V), Good M H → ArgsOk (hid M H) vs es → ∀ Q : VK, (∀ z H', Ex H H' → T.r (hid M H') z y → Q z H') → r vs H Q
theorem w_cb {r : List V → Hp → VK → Prop} {t : TA} (h : ArW m t Γ n fun es n1 => ∃ y, CbW r es T y ∧ Post y n1) : EvW m (tCB r t) Γ n T Post := fun M σ H c e Q k =>
  h M σ H c e _ fun vs es n1 H1 p1 e1 i1 a1 => by
    obtain ⟨y, hc, p⟩ := p1
    exact hc M H1 vs (c.go e1 i1).good a1 Q fun z H' ex rz => k z y n1 H' p (e1.trans (.of ex)) (m.kept i1 ex) rz
end

/-! ### what is walked -/
def ItOk {α : Type} (M : Addr → Prop) (J : It) (R : Rl α) (l : List α) (H0 : Hp) : Prop := ∀ (M' : Addr → Prop) (H : Hp), Good M' H → Ex (hid M H0) (hid M' H) →
  (∀ i x, l[i]? = some x → J.go i H ∧ ∀ v H', J.yld i H v H' → Ex H H' ∧ R.r (hid M' H') v x) ∧ J.stop l.length H
def ItW {Z : Type} (m : Md Z) (wi : TI) (Γ : Gm) (n : Z) {α : Type} (R : Rl α) (Post : List α → Z → Prop) : Prop :=
  ∀ (M : Addr → Prop) (σ : St) (H : Hp), Cond m M H n → EnvOk (hid M H) σ Γ → ∀ Y : It → Hp → Prop,
    (∀ J l n' H', Post l n' → ExM m H H' → m.inv n' H' → ItOk M J R l H' → Y J H') → wi σ H Y
section
variable {Z : Type} {m : Md Z} {Γ : Gm} {n : Z} {α β γ : Type} {R : Rl α} {S : Rl β} {T : Rl γ} {K : PySem.W.Frag} {ta : TE}
theorem hid_of {M : Addr → Prop} {G H : Hp} (e : Ex G (hid M H)) : Ex G H := fun a o h => hid_le a o (e a o h)
theorem i_list {Post : List α → Z → Prop} (h : EvW m ta Γ n (rLst K R) Post) : ItW m (iList K ta) Γ n R Post := fun M σ H c e Z k =>
  h M σ H c e _ fun v l n1 H1 p1 e1 i1 r1 => by
    obtain ⟨a, vs, rfl, hs, hA, hl⟩ := lst_sql r1
    refine ⟨a, rfl, ⟨vs, ex_l hid_le hs⟩, k _ l n1 H1 p1 e1 i1 fun M' H' g x => ?_⟩
    have hs' := ex_l x hs
    have hs2 := ex_l hid_le hs'
    refine ⟨fun i y hy => ?_, ⟨vs, hs2, Nat.le_of_eq hA.len⟩⟩
    obtain ⟨w, hw, rw'⟩ := hA.get hy
    refine ⟨⟨vs, w, hs2, hw⟩, fun v H2 hv => ?_⟩
    obtain ⟨rfl, q⟩ := hv
    have := q vs hs2
    rw [hw] at this
    cases this
    exact ⟨fun _ _ h => h, R.mono x rw'⟩
theorem i_tup {Post : List α → Z → Prop} (h : EvW m ta Γ n (rTup K R) Post) : ItW m (iTup K ta) Γ n R Post := fun M σ H c e Z k =>
  h M σ H c e _ fun v l n1 H1 p1 e1 i1 r1 => by
    obtain ⟨a, vs, rfl, hs, hA, hl⟩ := r1
    refine ⟨a, rfl, ⟨vs, ex_t hid_le hs⟩, k _ l n1 H1 p1 e1 i1 fun M' H' g x => ?_⟩
    have hs' := ex_t x hs
    have hs2 := ex_t hid_le hs'
    refine ⟨fun i y hy => ?_, ⟨vs, hs2, Nat.le_of_eq hA.len⟩⟩
    obtain ⟨w, hw, rw'⟩ := hA.get hy
    refine ⟨⟨vs, w, hs2, hw⟩, fun v H2 hv => ?_⟩
    obtain ⟨rfl, q⟩ := hv
    have := q vs hs2
    rw [hw] at this
    cases this
    exact ⟨fun _ _ h => h, R.mono x rw'⟩
theorem args1 {G : Hp} {vs : List V} {e : Ent} (h : ArgsOk G vs [e]) : ∃ v, vs = [v] ∧ e.ok G v := by
  cases vs with
  | nil => exact h.elim
  | cons v vs => cases vs with
    | nil => exact ⟨v, rfl, h.1⟩
    | cons u vs => exact h.2.elim
theorem args2 {G : Hp} {vs : List V} {e f : Ent} (h : ArgsOk G vs [e, f]) : ∃ v u, vs = [v, u] ∧ e.ok G v ∧ f.ok G u := by
  cases vs with
  | nil => exact h.elim
  | cons v vs =>
    obtain ⟨u, rfl, q⟩ := args1 h.2
    exact ⟨v, u, rfl, h.1, q⟩
theorem args3 {G : Hp} {vs : List V} {e f g : Ent} (h : ArgsOk G vs [e, f, g]) : ∃ v u w, vs = [v, u, w] ∧ e.ok G v ∧ f.ok G u ∧ g.ok G w := by
  cases vs with
  | nil => exact h.elim
  | cons v vs =>
    obtain ⟨u, w, rfl, q⟩ := args2 h.2
    exact ⟨v, u, w, rfl, h.1, q⟩
def rangeL (lo : Int) (k : Nat) : List Int := (List.range k).map fun (i : Nat) => lo + (i : Int)
theorem it_range {M : Addr → Prop} {lo : Int} {k : Nat} {H0 : Hp} : ItOk M (Itr lo k) rInt (rangeL lo k) H0 := fun M' H' g x =>
  ⟨fun i y hy => by
    unfold rangeL at hy
    rw [List.getElem?_map] at hy
    cases q : (List.range k)[i]? with
    | none => rw [q] at hy; cases hy
    | some j =>
      rw [q] at hy
      obtain ⟨h1, h2⟩ := List.getElem?_eq_some_iff.mp q
      simp at h1 h2
      subst h2
      have hy : lo + (i : Int) = y := Option.some.inj hy
      subst hy
      refine ⟨h1, fun v H2 hv => ?_⟩
      obtain ⟨rfl, rfl⟩ := hv
      exact ⟨fun _ _ h => h, rfl⟩, by show k ≤ _; simp [rangeL]⟩
theorem i_range {t : TA} {Post : List Int → Z → Prop} (h : ArW m t Γ n fun es n1 => ∃ j : Int, es = [.mk rInt j] ∧ -(2 ^ 62) ≤ j ∧ j < 2 ^ 62 ∧ Post (rangeL 0 j.toNat) n1) : ItW m (iRng1 t) Γ n rInt Post := fun M σ H c e Z k =>
  h M σ H c e _ fun vs es n1 H1 p1 e1 i1 a1 => by
    obtain ⟨j, rfl, h1, h2, p⟩ := p1
    obtain ⟨v, rfl, a⟩ := args1 a1
    have a : v = .int j := a
    subst a
    exact ⟨j, rfl, h1, h2, k _ _ n1 H1 p e1 i1 it_range⟩
theorem i_range2 {t : TA} {Post : List Int → Z → Prop} (h : ArW m t Γ n fun es n1 => ∃ i j : Int, es = [.mk rInt i, .mk rInt j] ∧ (-(2 ^ 62) ≤ i ∧ i < 2 ^ 62 ∧ -(2 ^ 62) ≤ j ∧ j < 2 ^ 62) ∧ Post (rangeL i (j - i).toNat) n1) : ItW m (iRng2 t) Γ n rInt Post := fun M σ H c e Z k =>
  h M σ H c e _ fun vs es n1 H1 p1 e1 i1 a1 => by
    obtain ⟨i, j, rfl, h1, p⟩ := p1
    obtain ⟨v, u, rfl, a, b⟩ := args2 a1
    have a : v = .int i := a
    have b : u = .int j := b
    subst a b
    exact ⟨i, j, rfl, h1, k _ _ n1 H1 p e1 i1 it_range⟩
theorem zip_get {α β : Type} : ∀ {l : List α} {r : List β} {i : Nat} {x : α} {y : β}, (l.zip r)[i]? = some (x, y) → l[i]? = some x ∧ r[i]? = some y
  | [], _, _, _, _, h => by simp at h
  | _ :: _, [], _, _, _, h => by simp at h
  | a :: l, b :: r, 0, x, y, h => by simp at h; exact ⟨by simp [h.1], by simp [h.2]⟩
  | a :: l, b :: r, i + 1, x, y, h => by
    have := zip_get (l := l) (r := r) (i := i) (x := x) (y := y) (by simpa using h)
    exact ⟨by simpa using this.1, by simpa using this.2⟩
/-- zip of two lists -/
theorem i_zipL {t : TA} {Post : List (α × β) → Z → Prop} (h : ArW m t Γ n fun es n1 => ∃ (l : List α) (r : List β), es = [.mk (rLst K R) l, .mk (rLst K S) r] ∧ Post (l.zip r) n1) : ItW m (RZ.iZipA K t) Γ n (rPr K R S) Post := fun M σ H c e Z k =>
  h M σ H c e _ fun vs es n1 H1 p1 e1 i1 a1 => by
    obtain ⟨l, r, rfl, p⟩ := p1
    obtain ⟨v, u, rfl, A1, A2⟩ := args2 a1
    obtain ⟨a, xs, e1', hs, hA, _⟩ := lst_sql A1
    obtain ⟨b, ys, e2', ht, hB, _⟩ := lst_sql A2
    (
      subst e1' e2'
      refine ⟨a, b, xs, ys, rfl, .inl ⟨ex_l hid_le hs, ex_l hid_le ht, k _ (l.zip r) n1 H1 p e1 i1 fun M' H' g x => ?_⟩⟩
      have hs2 := ex_l (hid_of x) hs
      have ht2 := ex_l (hid_of x) ht
      refine ⟨fun i y hy => ?_, ⟨xs, ys, hs2, ht2, ?_⟩⟩
      · obtain ⟨y1, y2⟩ := y
        obtain ⟨g1, g2⟩ := zip_get hy
        obtain ⟨w1, hw1, r1⟩ := hA.get g1
        obtain ⟨w2, hw2, r2⟩ := hB.get g2
        refine ⟨⟨xs, ys, w1, w2, hs2, ht2, hw1, hw2⟩, fun v H2 hv => ?_⟩
        obtain ⟨Tt, x1, x2, rfl, hT, rfl, q1, q2⟩ := hv
        have c1 := q1 xs hs2
        have c2 := q2 ys ht2
        rw [hw1] at c1; rw [hw2] at c2
        cases c1; cases c2
        have nx := Evl.Ex.new (o := HO.tup [w1, w2]) hT
        exact ⟨nx, ⟨Tt, w1, w2, rfl, new_t hT g, R.mono (hid_mono nx) (R.mono x r1), S.mono (hid_mono nx) (S.mono x r2)⟩⟩
      · have := hA.len
        have := hB.len
        rw [List.length_zip]
        omega)
theorem i_zipT {t : TA} {Post : List (α × β) → Z → Prop} (h : ArW m t Γ n fun es n1 => ∃ (l : List α) (r : List β), es = [.mk (rTup K R) l, .mk (rTup K S) r] ∧ Post (l.zip r) n1) : ItW m (RZ.iZipA K t) Γ n (rPr K R S) Post := fun M σ H c e Z k =>
  h M σ H c e _ fun vs es n1 H1 p1 e1 i1 a1 => by
    obtain ⟨l, r, rfl, p⟩ := p1
    obtain ⟨v, u, rfl, A1, A2⟩ := args2 a1
    obtain ⟨a, xs, e1', hs, hA, _⟩ := A1
    obtain ⟨b, ys, e2', ht, hB, _⟩ := A2
    (
      subst e1' e2'
      refine ⟨a, b, xs, ys, rfl, .inr ⟨ex_t hid_le hs, ex_t hid_le ht, k _ (l.zip r) n1 H1 p e1 i1 fun M' H' g x => ?_⟩⟩
      have hs2 := ex_t (hid_of x) hs
      have ht2 := ex_t (hid_of x) ht
      refine ⟨fun i y hy => ?_, ⟨xs, ys, hs2, ht2, ?_⟩⟩
      · obtain ⟨y1, y2⟩ := y
        obtain ⟨g1, g2⟩ := zip_get hy
        obtain ⟨w1, hw1, r1⟩ := hA.get g1
        obtain ⟨w2, hw2, r2⟩ := hB.get g2
        refine ⟨⟨xs, ys, w1, w2, hs2, ht2, hw1, hw2⟩, fun v H2 hv => ?_⟩
        obtain ⟨Tt, x1, x2, rfl, hT, rfl, q1, q2⟩ := hv
        have c1 := q1 xs hs2
        have c2 := q2 ys ht2
        rw [hw1] at c1; rw [hw2] at c2
        cases c1; cases c2
        have nx := Evl.Ex.new (o := HO.tup [w1, w2]) hT
        exact ⟨nx, ⟨Tt, w1, w2, rfl, new_t hT g, R.mono (hid_mono nx) (R.mono x r1), S.mono (hid_mono nx) (S.mono x r2)⟩⟩
      · have := hA.len
        have := hB.len
        rw [List.length_zip]
        omega)

/-! ### comprehensions -/
abbrev wg (Γ : Gm) (vs : List Nat) : Gm := vs.foldr (fun i (g : Gm) => g.set i none) Γ
theorem take_get {l : List α} {i : Nat} {x : α} (h : l[i]? = some x) : l.take (i + 1) = l.take i ++ [x] ∧ l = l.take i ++ x :: l.drop (i + 1) := by
  obtain ⟨h1, h2⟩ := List.getElem?_eq_some_iff.mp h
  refine ⟨by rw [List.take_succ, h]; rfl, ?_⟩
  conv => lhs; rw [← List.take_append_drop i l]
  rw [List.drop_eq_getElem_cons h1, h2]
theorem w_lc {wi : TI} {g : TG} {tt : TT} {te : TE} {vs is : List Nat} {Post : List β → Z → Prop}
    (h : ItW m wi Γ n R fun l n1 => l.length ≤ bigN ∧ ∃ Pr : List α → List β → Z → Prop, Pr [] [] n1 ∧
      (∀ pre x post ys n, l = pre ++ x :: post → Pr pre ys n → TgI is g R x (wg Γ vs) fun Γ2 => TeW m tt Γ2 n fun b n2 =>
        (b = true → EvW m te Γ2 n2 S fun y n3 => Pr (pre ++ [x]) (ys ++ [y]) n3) ∧ (b = false → Pr (pre ++ [x]) ys n2)) ∧
      ∀ ys n, ys.length ≤ l.length → Pr l ys n → Post ys n) (hs : ∀ i ∈ is, i ∈ vs := by decide) :
    EvW m (tLc wi g tt te vs) Γ n (rLst K S) Post := fun M σ H c e Q k =>
  h M σ H c e _ fun J l n1 H1 p1 e1 i1 ok => by
    obtain ⟨hl, Pr, p0, pt, pd⟩ := p1
    intro D hD
    have c1 := c.go e1 i1
    have nD : ¬ m.foot D := fun z => m.live i1 z hD
    have nDc : ¬ m.chg D := fun z => nD (m.sub D z)
    have nDM : ¬ M D := c1.good.fresh hD
    -- the state between the turns
    let W : Nat → Nat → Hp → Prop := fun i k H => k = l.length - i ∧ i ≤ l.length ∧ ∃ ys acc n', Pr (l.take i) ys n' ∧ H D = some (.lst acc) ∧ Al (fun v y => S.r (hid (fun a => M a ∨ a = D) H) v y) acc ys ∧ ys.length ≤ i ∧ m.inv n' H ∧ ∀ a o, ¬ m.chg a → a ≠ D → H1 a = some o → H a = some o
    refine ⟨W, ⟨l.length, by simp, Nat.zero_le _, [], [], n1, by simpa using p0, upd_same, .nil, Nat.le_refl _, m.frame i1 fun a f => upd_ne fun z => nD (z ▸ f), fun a o _ hb q => by rw [upd_ne hb]; exact q⟩, ?_⟩
    rintro i kk H2 ⟨rfl, hi, ys, acc, n', hP, hacc, hAl, hys, hinv, hkeep⟩
    have x12 : Ex (hid M H1) (hid (fun a => M a ∨ a = D) H2) := fun a o q => by
      obtain ⟨na, q⟩ := hid_some q
      have nd : a ≠ D := fun z => by rw [z, hD] at q; cases q
      rw [hid_no (fun z => z.elim na nd)]
      exact hkeep a o (fun z => na (c.mm a z)) nd q
    have g2 : Good (fun a => M a ∨ a = D) H2 := fun a ma => by
      rcases ma with ma | rfl
      · by_cases z : m.chg a
        · exact Md.has hinv z
        · obtain ⟨o, q, q2⟩ := c1.good a ma
          exact ⟨o, hkeep a o z (fun z => by rw [z, hD] at q; cases q) q, q2⟩
      · exact ⟨_, hacc, fun _ z => by cases z⟩
    have it := ok _ H2 g2 x12
    by_cases hlt : i < l.length
    · right
      obtain ⟨x, hx⟩ : ∃ x, l[i]? = some x := ⟨l[i], List.getElem?_eq_getElem hlt⟩
      obtain ⟨go, yld⟩ := it.1 i x hx
      obtain ⟨tk, sp⟩ := take_get hx
      refine ⟨go, W (i + 1) (l.length - (i + 1)), fun H' w => ⟨_, by omega, w⟩, fun v H3 hy => ?_⟩
      obtain ⟨ey, ry⟩ := yld v H3 hy
      have hinv3 := m.kept hinv ey
      have g3 := g2.ex ey
      have c3 : Cond m (fun a => M a ∨ a = D) H3 n' := ⟨g3, fun a z => .inl (c.mm a z), hinv3⟩
      have en3 : EnvOk (hid (fun a => M a ∨ a = D) H3) (wipe σ vs) (wg Γ vs) := ((e.mono (e1.hid c.mm)).mono (fun a o q => hid_mono ey a o (x12 a o q))).wipe vs
      have tg := pt (l.take i) x _ ys n' sp hP
      refine tg _ _ H3 v en3 ry _ fun σ4 Γ4 t4 en4 up => ⟨up.wipe hs, ?_⟩
      refine t4 _ σ4 H3 c3 en4 _ fun b n5 H5 p5 e5 i5 => ?_
      have c5 := c3.go e5 i5
      have fin : ∀ {H6 : Hp} {ys' : List β} {n6 : Z} {acc' : List V}, ExM m H3 H6 → m.inv n6 H6 → Pr (l.take i ++ [x]) ys' n6 → ∀ {H7 : Hp}, (∀ a, a ≠ D → H7 a = H6 a) → H7 D = some (.lst acc') → Al (fun v y => S.r (hid (fun a => M a ∨ a = D) H6) v y) acc' ys' → ys'.length ≤ i + 1 → W (i + 1) (l.length - (i + 1)) H7 := fun {H6 ys' n6 acc'} e6 i6 p6 {H7} h67 h7 al hy' => by
        have hh : hid (fun a => M a ∨ a = D) H7 = hid (fun a => M a ∨ a = D) H6 := by
          funext a
          by_cases q : M a ∨ a = D
          · rw [hid_yes q, hid_yes q]
          · rw [hid_no q, hid_no q]; exact h67 a fun z => q (.inr z)
        refine ⟨rfl, hlt, ys', acc', n6, by rw [tk]; exact p6, h7, by rw [hh]; exact al, hy', m.frame i6 fun a f => h67 a fun z => nD (z ▸ f), fun a o nc nd q => ?_⟩
        rw [h67 a nd]
        exact e6 a o nc (ey a o (hkeep a o nc nd q))
      cases b with
      | false =>
        have p6 := p5.2 rfl
        exact fin e5 i5 p6 (fun _ _ => rfl) (e5 D _ nDc (ey D _ hacc)) (hAl.mono fun _ _ z => S.mono (fun a o q => e5.hid c3.mm a o (hid_mono ey a o q)) z) (by omega)
      | true =>
        show te σ4 H5 _
        refine p5.1 rfl _ σ4 H5 c5 (en4.mono (e5.hid c3.mm)) _ fun u y n6 H6 p6 e6 i6 r6 => ?_
        have d6 : H6 D = some (.lst acc) := e6 D _ nDc (e5 D _ nDc (ey D _ hacc))
        refine ⟨acc, d6, by rw [hAl.len]; exact Nat.lt_of_le_of_lt (by omega) bigN_line, ?_⟩
        refine fin (e5.trans e6) i6 p6 (fun a ha => upd_ne ha) upd_same ?_ (by simp; omega)
        refine Al.append (hAl.mono fun _ _ z => S.mono (fun a o q => e6.hid c5.mm a o (e5.hid c3.mm a o (hid_mono ey a o q))) z) (.cons r6 .nil)
    · left
      have hie : i = l.length := by omega
      subst hie
      refine ⟨it.2, ?_⟩
      rw [List.take_length] at hP
      have dD : ¬ M D := nDM
      refine k _ ys n' H2 (pd ys n' hys hP) (fun a o nc q => ?_) hinv ⟨D, acc, rfl, (by rw [hid_no dD]; exact hacc), hAl.mono fun _ _ z => S.mono (fun a o q => by
        obtain ⟨n1', q⟩ := hid_some q
        rw [hid_no fun z => n1' (.inl z)]; exact q) z, by omega⟩
      by_cases z : a = D
      · subst z
        have := e1 a o nc q
        rw [hD] at this; cases this
      · exact hkeep a o nc z (e1 a o nc q)
/-- each item gives one datum, nothing changes -/
theorem w_lc_map {wi : TI} {g : TG} {te : TE} {vs is : List Nat} {Post : List β → Z → Prop} (f : α → β)
    (h : ItW m wi Γ n R fun l n1 => l.length ≤ bigN ∧ (∀ x ∈ l, TgI is g R x (wg Γ vs) fun Γ2 => EvW m te Γ2 n1 S fun y n3 => y = f x ∧ n3 = n1) ∧ Post (l.map f) n1) (hs : ∀ i ∈ is, i ∈ vs := by decide) :
    EvW m (tLc wi g tYes te vs) Γ n (rLst K S) Post :=
  w_lc (is := is) (fun M σ H c e Z k => h M σ H c e Z fun J l n' H' ⟨h1, h2, h3⟩ => k J l n' H' ⟨h1, fun pre ys nn => ys = pre.map f ∧ nn = n', ⟨rfl, rfl⟩, fun pre x post ys nn hl ⟨hy, hn⟩ => by
    subst hn hy
    have hx := h2 x (by rw [hl]; simp)
    exact fun M σ H v e r Q k => hx M σ H v e r Q fun σ' Γ' p => k σ' Γ' (t_yes ⟨fun _ => w_mono p fun y n3 q => ⟨by rw [q.1]; simp, q.2⟩, fun z => by cases z⟩), fun ys nn _ ⟨hy, hn⟩ => by
    subst hn hy
    exact h3⟩) hs
/-- each item gives one datum, some are left out -/
theorem w_lc_filter {wi : TI} {g : TG} {tt : TT} {te : TE} {vs is : List Nat} {Post : List β → Z → Prop} (p : α → Bool) (f : α → β)
    (h : ItW m wi Γ n R fun l n1 => l.length ≤ bigN ∧ (∀ x ∈ l, TgI is g R x (wg Γ vs) fun Γ2 => TeW m tt Γ2 n1 fun b n2 => b = p x ∧ n2 = n1 ∧ (b = true → EvW m te Γ2 n1 S fun y n3 => y = f x ∧ n3 = n1)) ∧ Post ((l.filter p).map f) n1) (hs : ∀ i ∈ is, i ∈ vs := by decide) :
    EvW m (tLc wi g tt te vs) Γ n (rLst K S) Post :=
  w_lc (is := is) (fun M σ H c e Z k => h M σ H c e Z fun J l n' H' ⟨h1, h2, h3⟩ => k J l n' H' ⟨h1, fun pre ys nn => ys = (pre.filter p).map f ∧ nn = n', ⟨rfl, rfl⟩, fun pre x post ys nn hl ⟨hy, hn⟩ => by
    subst hn hy
    have hx := h2 x (by rw [hl]; simp)
    exact fun M σ H v e r Q k => hx M σ H v e r Q fun σ' Γ' t => k σ' Γ' (fun M σ H c e Q k => t M σ H c e Q fun b n2 H2 ⟨q1, q2, q3⟩ => k b n2 H2 ⟨fun hb => by
      subst q2
      refine w_mono (q3 hb) fun y n3 q => ⟨?_, q.2⟩
      rw [q.1, List.filter_append]
      have : p x = true := by rw [← q1]; exact hb
      simp [this], fun hb => by
      subst q2
      refine ⟨?_, rfl⟩
      rw [List.filter_append]
      have : p x = false := by rw [← q1]; exact hb
      simp [this]⟩), fun ys nn _ ⟨hy, hn⟩ => by
    subst hn hy
    exact h3⟩) hs
end

/-! ### statements -/
section
variable {Z : Type} {m : Md Z} {Γ : Gm} {n : Z} {α β γ : Type} {R : Rl α} {S : Rl β} {D : Dn Z β} {K : PySem.W.Frag} {te : TE} {t u : TS}
theorem s_next (h : D.nx Γ n) : StW m tNext Γ n S D := fun M σ H c e E k => k.nx Γ n σ H h .refl c.inv e
theorem s_seq (h : StW m t Γ n S { D with nx := fun Γ1 n1 => StW m u Γ1 n1 S D }) : StW m (tSeq t u) Γ n S D := fun M σ H c e E k =>
  h M σ H c e _ ⟨fun Γ1 n1 σ1 H1 p e1 i1 en1 => p M σ1 H1 (c.go e1 i1) en1 E (k.at e1), k.rt, k.bk, k.ct⟩
theorem s_mid (Q : Gm → Z → Prop) (h : StW m t Γ n S { D with nx := Q }) (h2 : ∀ Γ1 n1, Q Γ1 n1 → StW m u Γ1 n1 S D) : StW m (tSeq t u) Γ n S D := fun M σ H c e E k =>
  h M σ H c e _ ⟨fun Γ1 n1 σ1 H1 p e1 i1 en1 => h2 Γ1 n1 p M σ1 H1 (c.go e1 i1) en1 E (k.at e1), k.rt, k.bk, k.ct⟩
theorem s_asg {is : List Nat} {g : TG} (h : EvW m te Γ n R fun x n1 => TgI is g R x Γ fun Γ1 => D.nx Γ1 n1) : StW m (tAsg te g) Γ n S D := fun M σ H c e E k =>
  h M σ H c e _ fun v x n1 H1 p1 e1 i1 r1 => p1 M σ H1 v (e.mono (e1.hid c.mm)) r1 _ fun σ2 Γ2 p2 en2 _ => k.nx Γ2 n1 σ2 H1 p2 e1 i1 en2
theorem s_set {i : Nat} (h : EvW m te Γ n R fun x n1 => D.nx (Γ.set i (some (.mk R x))) n1) : StW m (tAsg te (gName i)) Γ n S D := s_asg (w_mono h fun _ _ p => tg_name p)
theorem s_ret (h : EvW m te Γ n S D.rt) : StW m (tRet te) Γ n S D := fun M σ H c e E k => h M σ H c e _ fun v x n1 H1 p1 e1 i1 r1 => k.rt x n1 v H1 p1 e1 i1 r1
theorem s_drop (h : EvW m te Γ n R fun _ n1 => D.nx Γ n1) : StW m (tDrop te) Γ n S D := fun M σ H c e E k => h M σ H c e _ fun v x n1 H1 p1 e1 i1 r1 => k.nx Γ n1 σ H1 p1 e1 i1 (e.mono (e1.hid c.mm))
theorem s_if {tc : TT} (h : TeW m tc Γ n fun b n1 => (b = true → StW m t Γ n1 S D) ∧ (b = false → StW m u Γ n1 S D)) : StW m (tIfS tc t u) Γ n S D := fun M σ H c e E k =>
  h M σ H c e _ fun b n1 H1 p1 e1 i1 => by
    cases b with
    | true => exact p1.1 rfl M σ H1 (c.go e1 i1) (e.mono (e1.hid c.mm)) E (k.at e1)
    | false => exact p1.2 rfl M σ H1 (c.go e1 i1) (e.mono (e1.hid c.mm)) E (k.at e1)
theorem s_par {i j : Nat} {ta : TA} (h : ArW m ta Γ n fun es n1 => ∃ e1 e2, es = [e1, e2] ∧ D.nx ((Γ.set i (some e1)).set j (some e2)) n1) : StW m (tPar i j ta) Γ n S D := fun M σ H c e E k =>
  h M σ H c e _ fun vs es n1 H1 p1 x1 i1 a1 => by
    obtain ⟨e1, e2, rfl, p⟩ := p1
    obtain ⟨v, w, rfl, r1, r2⟩ := args2 a1
    exact ⟨v, w, rfl, k.nx _ n1 _ H1 p x1 i1 (((e.mono (x1.hid c.mm)).set r1).set r2)⟩
theorem s_never : StW m tNever Γ n S D → True := fun _ => trivial
theorem s_mono {D' : Dn Z β} (h : StW m t Γ n S D) (h1 : ∀ Γ n, D.nx Γ n → D'.nx Γ n) (h2 : ∀ x n, D.rt x n → D'.rt x n) (h3 : ∀ Γ n, D.bk Γ n → D'.bk Γ n) (h4 : ∀ Γ n, D.ct Γ n → D'.ct Γ n) : StW m t Γ n S D' := fun M σ H c e E k =>
  h M σ H c e E ⟨fun Γ n σ H p => k.nx Γ n σ H (h1 Γ n p), fun x n v H p => k.rt x n v H (h2 x n p), fun Γ n σ H p => k.bk Γ n σ H (h3 Γ n p), fun Γ n σ H p => k.ct Γ n σ H (h4 Γ n p)⟩
/-- for -/
theorem s_for {wi : TI} {g : TG} {is : List Nat} (h : ItW m wi Γ n R fun l n1 => ∃ Iv : List α → Gm → Z → Prop, Iv [] Γ n1 ∧
      (∀ pre x post Γ' n', l = pre ++ x :: post → Iv pre Γ' n' → TgI is g R x Γ' fun Γ2 => StW m t Γ2 n' S { D with nx := Iv (pre ++ [x]), ct := Iv (pre ++ [x]), bk := D.nx }) ∧
      ∀ Γ' n', Iv l Γ' n' → D.nx Γ' n') : StW m (tFor wi g t) Γ n S D := fun M σ H c e E k =>
  h M σ H c e _ fun J l n1 H1 p1 e1 i1 ok => by
    obtain ⟨Iv, p0, pt, pd⟩ := p1
    have c1 := c.go e1 i1
    let W : Nat → Nat → St → Hp → Prop := fun i k σ H2 => k = l.length - i ∧ i ≤ l.length ∧ ∃ Γ' n', Iv (l.take i) Γ' n' ∧ ExM m H1 H2 ∧ m.inv n' H2 ∧ EnvOk (hid M H2) σ Γ'
    refine ⟨W, ⟨l.length, by simp, Nat.zero_le _, Γ, n1, by simpa using p0, .refl, i1, e.mono (e1.hid c.mm)⟩, ?_⟩
    rintro i kk σ2 H2 ⟨rfl, hi, Γ', n', hP, x12, hinv, en⟩
    have c2 := c1.go x12 hinv
    have it := ok M H2 c2.good (x12.hid c.mm)
    by_cases hlt : i < l.length
    · right
      obtain ⟨x, hx⟩ : ∃ x, l[i]? = some x := ⟨l[i], List.getElem?_eq_getElem hlt⟩
      obtain ⟨go, yld⟩ := it.1 i x hx
      obtain ⟨tk, sp⟩ := take_get hx
      refine ⟨go, W (i + 1) (l.length - (i + 1)), fun σ' H' w => ⟨_, by omega, w⟩, fun v H3 hy => ?_⟩
      obtain ⟨ey, ry⟩ := yld v H3 hy
      refine pt (l.take i) x _ Γ' n' sp hP M σ2 H3 v (en.mono (hid_mono ey)) ry _ fun σ4 Γ4 t4 en4 up => ?_
      have x13 : ExM m H1 H3 := x12.trans (.of ey)
      refine t4 M σ4 H3 (c2.go (.of ey) (m.kept hinv ey)) en4 _ ⟨fun Γ5 n5 σ5 H5 p5 e5 i5 en5 => ?_, fun y n5 v H5 p5 e5 => k.rt y n5 v H5 p5 ((e1.trans x13).trans e5), fun Γ5 n5 σ5 H5 p5 e5 => k.nx Γ5 n5 σ5 H5 p5 ((e1.trans x13).trans e5), fun Γ5 n5 σ5 H5 p5 e5 i5 en5 => ?_⟩
      · exact ⟨rfl, hlt, Γ5, n5, by rw [tk]; exact p5, x13.trans e5, i5, en5⟩
      · exact ⟨rfl, hlt, Γ5, n5, by rw [tk]; exact p5, x13.trans e5, i5, en5⟩
    · left
      have hie : i = l.length := by omega
      subst hie
      rw [List.take_length] at hP
      exact ⟨it.2, k.nx Γ' n' σ2 H2 (pd Γ' n' hP) (e1.trans x12) hinv en⟩
/-- while -/
theorem s_while {tc : TT} (Iv : Nat → Gm → Z → Prop) (k0 : Nat) (h0 : Iv k0 Γ n) (h : ∀ k Γ n, Iv k Γ n → TeW m tc Γ n fun b n1 => (b = true → StW m t Γ n1 S { D with nx := fun Γ2 n2 => ∃ k2, k2 < k ∧ Iv k2 Γ2 n2, ct := fun Γ2 n2 => ∃ k2, k2 < k ∧ Iv k2 Γ2 n2, bk := D.nx }) ∧ (b = false → D.nx Γ n1)) :
    StW m (tWhile tc t) Γ n S D := fun M σ H c e E k => by
  refine ⟨fun j σ2 H2 => ∃ Γ' n', Iv j Γ' n' ∧ ExM m H H2 ∧ m.inv n' H2 ∧ EnvOk (hid M H2) σ2 Γ', ⟨k0, Γ, n, h0, .refl, c.inv, e⟩, ?_⟩
  rintro j σ2 H2 ⟨Γ', n', hI, x, hinv, en⟩
  refine h j Γ' n' hI M σ2 H2 (c.go x hinv) en _ fun b n1 H3 p1 e1 i1 => ?_
  cases b with
  | false =>
    show E.nx σ2 H3
    exact k.nx Γ' n1 σ2 H3 (p1.2 rfl) (x.trans e1) i1 (en.mono (e1.hid c.mm))
  | true =>
    show ∃ N : St → Hp → Prop, _
    refine ⟨fun σ3 H4 => ∃ k2, k2 < j ∧ ∃ Γ' n', Iv k2 Γ' n' ∧ ExM m H H4 ∧ m.inv n' H4 ∧ EnvOk (hid M H4) σ3 Γ', fun σ' H' ⟨k2, l, w⟩ => ⟨k2, l, w⟩, ?_⟩
    have x3 := x.trans e1
    refine p1.1 rfl M σ2 H3 (c.go x3 i1) (en.mono (e1.hid c.mm)) _ ⟨fun Γ5 n5 σ5 H5 p5 e5 i5 en5 => ?_, fun y n5 v H5 p5 e5 => k.rt y n5 v H5 p5 (x3.trans e5), fun Γ5 n5 σ5 H5 p5 e5 => k.nx Γ5 n5 σ5 H5 p5 (x3.trans e5), fun Γ5 n5 σ5 H5 p5 e5 i5 en5 => ?_⟩
    · obtain ⟨k2, l, w⟩ := p5
      exact ⟨k2, l, Γ5, n5, w, x3.trans e5, i5, en5⟩
    · obtain ⟨k2, l, w⟩ := p5
      exact ⟨k2, l, Γ5, n5, w, x3.trans e5, i5, en5⟩
end
end L2.Lc
end

-- part LcOps
section
set_option Elab.async false
set_option linter.all false
set_option maxRecDepth 100000
set_option maxHeartbeats 400000
namespace L2.Lc
open PySem PySem.Spec PyProof.Rows L2
open Evl (Ex ex_l ex_t)

/-! ### defs -/
section
variable {P : Program} {w : World} {K : PySem.W.Frag} {mg : Str → Option Value} {base : Heap} {k : Nat} {x qual : Str} {params : Arguments} {body : List Stmt} {scope : Scope} {dvs : List V} {kws : List (Str × V)} {f : Addr} {fd : FuncData} {N ps : List Str}
theorem start_ok {G : Hp} {vs : List V} {es : List Ent} (h : ArgsOk G vs es) (k : Nat) : EnvOk G (vs.map some ++ List.replicate k none) (es.map some ++ List.replicate k none) := by
  refine ⟨by simp [h.len], fun i e q => ?_⟩
  have hl := h.len
  by_cases hi : i < es.length
  · rw [List.getElem?_append_left (by simpa using hi), List.getElem?_map] at q
    cases q2 : es[i]? with
    | none => rw [q2] at q; cases q
    | some e2 =>
      rw [q2] at q
      cases q
      have key : ∀ {vs : List V} {es : List Ent} {i : Nat} {e : Ent}, ArgsOk G vs es → es[i]? = some e → ∃ v, vs[i]? = some v ∧ e.ok G v := by
        intro vs
        induction vs with
        | nil => intro es i e h q; cases es with
          | nil => simp at q
          | cons _ _ => exact h.elim
        | cons v vs ih => intro es i e h q; cases es with
          | nil => exact h.elim
          | cons e0 es => cases i with
            | zero => simp at q; subst q; exact ⟨v, rfl, h.1⟩
            | succ i => obtain ⟨u, h1, h2⟩ := ih h.2 (i := i) (by simpa using q); exact ⟨u, by simpa using h1, h2⟩
      obtain ⟨v, h1, h2⟩ := key h q2
      refine ⟨v, ?_, h2⟩
      rw [List.getElem?_append_left (by simp; omega), List.getElem?_map, h1]
      rfl
  · rw [List.getElem?_append_right (by simpa using hi), List.getElem?_replicate] at q
    split at q <;> cases q
/-- a def that changes nothing and lets nothing out -/
theorem fnP {α β : Type} {A : α → List Ent} {pre : α → Prop} {R : Rl β} {post : α → β → Prop} (F : FunD K x qual params body scope dvs kws f fd) (S : FnScope N ps scope) (hA : ∀ x, (A x).length = ps.length)
    (hd : ∀ (cdv : Value) (B : Around) (outer : List Env) (s : Shared) (H : Hp) (E : XK), Room k (B.deeper (envOfC qual scope s.heap.objs.size f cdv)) → ∃ t, PSs (cxOf CX0 P w K mg base N qual scope f cdv B outer s H E).nox body t ∧
      ∀ x, pre x → StW pm t ((A x).map some ++ List.replicate (N.length - ps.length) none) () R { nx := fun _ _ => False, rt := fun y _ => post x y }) : FnOk P w K mg base CX0 (k + 1) f fd ps (spP A pre R post) := by
  refine F.ok S (fun vs H Q E ⟨M, x, _, a, _⟩ => a.len.trans (hA x)) fun cdv A' outer s H vs Q E hr ⟨M, x, g, a, hp, q⟩ => ?_
  obtain ⟨t, d, h⟩ := hd cdv A' outer s H E hr
  refine ⟨t, d.nox, ?_⟩
  have hl : vs.length = ps.length := a.len.trans (hA x)
  unfold start
  rw [hl]
  refine h x hp M _ H ⟨g, fun _ z => z.elim, trivial⟩ (start_ok a _) _ ⟨fun _ _ _ _ z => z.elim, fun y n v H' po e _ r => q v y H' po (fun b o z => e b o (fun z => z.elim) z) r, fun _ _ _ _ z => z.elim, fun _ _ _ _ z => z.elim⟩
theorem fnS {Z ι α β : Type} {m : ι → Md Z} {A : ι → α → List Ent} {pre : α → Z → Prop} {R : Rl β} {post : α → Z → β → Z → Prop} (F : FunD K x qual params body scope dvs kws f fd) (S : FnScope N ps scope) (hA : ∀ i x, (A i x).length = ps.length)
    (hd : ∀ (cdv : Value) (B : Around) (outer : List Env) (s : Shared) (H : Hp) (E : XK), Room k (B.deeper (envOfC qual scope s.heap.objs.size f cdv)) → ∃ t, PSs (cxOf CX0 P w K mg base N qual scope f cdv B outer s H E).nox body t ∧
      ∀ i x n, pre x n → StW (m i) t ((A i x).map some ++ List.replicate (N.length - ps.length) none) n R { nx := fun _ _ => False, rt := fun y n' => post x n y n' }) : FnOk P w K mg base CX0 (k + 1) f fd ps (spS m A pre R post) := by
  refine F.ok S (fun vs H Q E ⟨i, M, x, n, _, a, _⟩ => a.len.trans (hA i x)) fun cdv A' outer s H vs Q E hr ⟨i, M, x, n, c, a, hp, q⟩ => ?_
  obtain ⟨t, d, h⟩ := hd cdv A' outer s H E hr
  refine ⟨t, d.nox, ?_⟩
  have hl : vs.length = ps.length := a.len.trans (hA i x)
  unfold start
  rw [hl]
  exact h i x n hp M _ H c (start_ok a _) _ ⟨fun _ _ _ _ z => z.elim, fun y n' v H' po e iv r => q v y n' H' po e iv r, fun _ _ _ _ z => z.elim, fun _ _ _ _ z => z.elim⟩
/-- a def of the module that can be called -/
structure Cal (P : Program) (w : World) (K : PySem.W.Frag) (mg : Str → Option Value) (base : Heap) (x : Str) (k : Nat) (ps : List Str) (sp : Sp) : Prop where
  ex : ∃ f fd, FnOk P w K mg base CX0 k f fd ps sp ∧ mg x = some (.ref f) ∧ PySem.W.keepIn K (.ref f) = true ∧ Binds K fd ps []
end
section
variable {X : Cx} {x : Str} {k : Nat} {ps : List Str} {sp : Sp} {e : Expr} {es : List Expr} {t : TA} {p pos : Pos}
theorem pe_cal (c : Cal X.prog X.w X.K X.mg X.base x k ps sp) (hr : Room k X.A) (hg : Gl X x) (ha : PA X (e :: es) t) (hdb : (x == ("__debug__" : Str)) = false := by decide) (he : starEach (e :: es) X.env = (false, eval e X.env) :: starEach es X.env := by rfl)
    (hpl : (backTo pos (starEach es X.env)).any (·.1) = false := by rfl) : PE X (.Call (.Name x p) (e :: es) [] pos) (tCall sp [] E0 t) := by
  obtain ⟨f, fd, F, gm, kp, b⟩ := c.ex
  exact pe_call F hr hg gm kp b .nil pass0 ha hdb he hpl
end

/-! ### operations on data -/
section
variable {α β γ : Type} {K : PySem.W.Frag}
theorem o_int {g : Int → Int → Int} : OpW (rI0 fun i j => .int (g i j)) rInt rInt rInt (fun _ _ => True) g := fun M H v u x y gd r1 r2 _ Q k => ⟨x, y, r1, r2, k _ H (fun _ _ h => h) rfl⟩
theorem o_intC {C : Int → Int → Prop} {g : Int → Int → Int} : OpW (rI C fun i j => .int (g i j)) rInt rInt rInt C g := fun M H v u x y gd r1 r2 c Q k => ⟨x, y, r1, r2, c, k _ H (fun _ _ h => h) rfl⟩
theorem o_cmp {g : Int → Int → Bool} : OpW (rI0 fun i j => .bl (g i j)) rInt rInt rBl (fun _ _ => True) g := fun M H v u x y gd r1 r2 _ Q k => ⟨x, y, r1, r2, k _ H (fun _ _ h => h) rfl⟩
theorem o_eqI : OpW rEq rInt rInt rBl (fun _ _ => True) (fun i j => decide (i = j)) := fun M H v u x y gd r1 r2 _ Q k => by
  have r1 : v = .int x := r1
  have r2 : u = .int y := r2
  subst r1 r2
  exact ⟨rfl, by have := k (.bl (decide (x = y))) H (fun _ _ h => h) rfl; simpa using this⟩
theorem o_neI : OpW rNe rInt rInt rBl (fun _ _ => True) (fun i j => !decide (i = j)) := fun M H v u x y gd r1 r2 _ Q k => by
  have r1 : v = .int x := r1
  have r2 : u = .int y := r2
  subst r1 r2
  exact ⟨rfl, by have := k (.bl (!decide (x = y))) H (fun _ _ h => h) rfl; simpa using this⟩
theorem o_eqS : OpW rEq rStr rStr rBl (fun _ _ => True) (fun i j => decide (i = j)) := fun M H v u x y gd r1 r2 _ Q k => by
  have r1 : v = .str x := r1
  have r2 : u = .str y := r2
  subst r1 r2
  exact ⟨rfl, by have := k (.bl (decide (x = y))) H (fun _ _ h => h) rfl; simpa using this⟩
theorem o_neS : OpW rNe rStr rStr rBl (fun _ _ => True) (fun i j => !decide (i = j)) := fun M H v u x y gd r1 r2 _ Q k => by
  have r1 : v = .str x := r1
  have r2 : u = .str y := r2
  subst r1 r2
  exact ⟨rfl, by have := k (.bl (!decide (x = y))) H (fun _ _ h => h) rfl; simpa using this⟩
theorem o_eqB : OpW rEq rBl rBl rBl (fun _ _ => True) (fun i j => decide (i = j)) := fun M H v u x y gd r1 r2 _ Q k => by
  have r1 : v = .bl x := r1
  have r2 : u = .bl y := r2
  subst r1 r2
  exact ⟨rfl, by have := k (.bl (decide (x = y))) H (fun _ _ h => h) rfl; simpa using this⟩
theorem u_neg : UnW (rU fun i => .int (-i)) rInt rInt (fun i => -i) := fun M H v x g r Q k => ⟨x, r, k _ H (fun _ _ h => h) rfl⟩
/-- an operation that wants something -/
def OpP (r : R2) (R : Rl α) (S : Rl β) (T : Rl γ) (f : α → β → γ → Prop) : Prop :=
  ∀ (M : Addr → Prop) (H : Hp) (v u : V) (x : α) (y : β) (z : γ), Good M H → R.r (hid M H) v x → S.r (hid M H) u y → f x y z → ∀ Q : VK, (∀ o H', Ex H H' → T.r (hid M H') o z → Q o H') → r v u H Q
variable {Z : Type} {m : Md Z} {Γ : Gm} {n : Z} {R : Rl α} {S : Rl β} {T : Rl γ} {ta tb : TE}
theorem w_opP {Post : γ → Z → Prop} {r : R2} {f : α → β → γ → Prop} (hr : OpP r R S T f) (h : EvW m ta Γ n R fun x n1 => EvW m tb Γ n1 S fun y n2 => ∃ z, f x y z ∧ Post z n2) : EvW m (tOp r ta tb) Γ n T Post := fun M σ H c e Q k =>
  h M σ H c e _ fun v x n1 H1 p1 e1 i1 r1 => p1 M σ H1 (c.go e1 i1) (e.mono (e1.hid c.mm)) _ fun u y n2 H2 p2 e2 i2 r2 => by
    obtain ⟨z, hz, p⟩ := p2
    exact hr M H2 v u x y z (c.go (e1.trans e2) i2).good (R.mono (e2.hid c.mm) r1) r2 hz Q fun o H' ex rz => k o z n2 H' p ((e1.trans e2).trans (.of ex)) (m.kept i2 ex) rz
theorem atI_al {P : V → α → Prop} {vs : List V} {xs : List α} {i : Int} {x : α} (h : Al P vs xs) (e : atI xs i = some x) : ∃ v, atI vs i = some v ∧ P v x := by
  unfold atI at e ⊢
  rw [h.len]
  cases q : ixN xs.length i with
  | none => rw [q] at e; cases e
  | some j =>
    rw [q] at e
    exact h.get e
theorem o_ixL : OpP (rIxL K) (rLst K R) rInt R (fun l i z => atI l i = some z) := fun M H v u x y z g r1 r2 hz Q k => by
  obtain ⟨a, vs, rfl, hs, hA, _⟩ := lst_sql r1
  have r2 : u = .int y := r2
  subst r2
  obtain ⟨o, ho, ro⟩ := atI_al hA hz
  exact ⟨a, vs, y, o, rfl, rfl, ex_l hid_le hs, ho, k o H (fun _ _ h => h) ro⟩
theorem o_ixT : OpP (rIxT K) (rTup K R) rInt R (fun l i z => atI l i = some z) := fun M H v u x y z g r1 r2 hz Q k => by
  obtain ⟨a, vs, rfl, hs, hA, _⟩ := r1
  have r2 : u = .int y := r2
  subst r2
  obtain ⟨o, ho, ro⟩ := atI_al hA hz
  exact ⟨a, vs, y, o, rfl, rfl, ex_t hid_le hs, ho, k o H (fun _ _ h => h) ro⟩
theorem atI_nat {l : List α} {i : Nat} {x : α} (h : l[i]? = some x) : atI l (i : Int) = some x := by
  obtain ⟨h1, _⟩ := List.getElem?_eq_some_iff.mp h
  unfold atI ixN
  rw [if_pos (by omega), if_pos (by omega)]
  simpa using h
/-- t[0], t[1] of a pair -/
theorem w_fst {Post : α → Z → Prop} (h : EvW m ta Γ n (rPr K R S) fun p n1 => Post p.1 n1) : EvW m (tOp (rIxT K) ta (tC (.int 0))) Γ n R Post := fun M σ H c e Q k =>
  h M σ H c e _ fun v p n1 H1 p1 e1 i1 r1 => by
    obtain ⟨a, x, y, rfl, hs, hx, hy⟩ := r1
    exact ⟨a, _, 0, x, rfl, rfl, ex_t hid_le hs, rfl, k x p.1 n1 H1 p1 e1 i1 hx⟩
theorem w_snd {Post : β → Z → Prop} (h : EvW m ta Γ n (rPr K R S) fun p n1 => Post p.2 n1) : EvW m (tOp (rIxT K) ta (tC (.int 1))) Γ n S Post := fun M σ H c e Q k =>
  h M σ H c e _ fun v p n1 H1 p1 e1 i1 r1 => by
    obtain ⟨a, x, y, rfl, hs, hx, hy⟩ := r1
    exact ⟨a, _, 1, y, rfl, rfl, ex_t hid_le hs, rfl, k y p.2 n1 H1 p1 e1 i1 hy⟩

/-! ### built-ins -/
theorem c_abs {x : Int} : CbW (fun xs H Q => ∃ i, xs = [V.int i] ∧ Q (.int (if i < 0 then -i else i)) H) [.mk rInt x] rInt (if x < 0 then -x else x) := fun M H vs g a Q k => by
  obtain ⟨v, rfl, r⟩ := args1 a
  have r : v = .int x := r
  subst r
  exact ⟨x, rfl, k _ H (fun _ _ h => h) rfl⟩
def rIntOf : List V → Hp → VK → Prop := fun xs H Q => (∃ i, xs = [.int i] ∧ Q (.int i) H) ∨ ∃ k, xs = [.bl k] ∧ Q (.int (if k then 1 else 0)) H
theorem c_int {x : Int} : CbW rIntOf [.mk rInt x] rInt x := fun M H vs g a Q k => by
  obtain ⟨v, rfl, r⟩ := args1 a
  have r : v = .int x := r
  subst r
  exact .inl ⟨x, rfl, k _ H (fun _ _ h => h) rfl⟩
theorem c_intB {x : Bool} : CbW rIntOf [.mk rBl x] rInt (if x then 1 else 0) := fun M H vs g a Q k => by
  obtain ⟨v, rfl, r⟩ := args1 a
  have r : v = .bl x := r
  subst r
  exact .inr ⟨x, rfl, k _ H (fun _ _ h => h) rfl⟩
def rLenOf (K : PySem.W.Frag) : List V → Hp → VK → Prop := fun xs H Q => ∃ x n, xs = [x] ∧ LenV K x H n ∧ Q (.int n) H
theorem c_lenL {l : List α} : CbW (rLenOf K) [.mk (rLst K R) l] rInt (l.length : Int) := fun M H vs g a Q k => by
  obtain ⟨v, rfl, r⟩ := args1 a
  obtain ⟨a, vs, rfl, hs, hA, _⟩ := lst_sql r
  exact ⟨_, vs.length, rfl, .inl ⟨vs, ex_l hid_le hs, rfl⟩, by rw [hA.len]; exact k _ H (fun _ _ h => h) rfl⟩
theorem c_lenT {l : List α} : CbW (rLenOf K) [.mk (rTup K R) l] rInt (l.length : Int) := fun M H vs g a Q k => by
  obtain ⟨v, rfl, r⟩ := args1 a
  obtain ⟨a, vs, rfl, hs, hA, _⟩ := r
  exact ⟨_, vs.length, rfl, .inr ⟨vs, ex_t hid_le hs, rfl⟩, by rw [hA.len]; exact k _ H (fun _ _ h => h) rfl⟩
def rListOf (K : PySem.W.Frag) : List V → Hp → VK → Prop := fun xs H Q => ∃ p ys, xs = [.ref p] ∧ (SqL K H p ys ∨ SqT K H p ys) ∧ ∀ l, H l = none → Q (.ref l) (upd H l (.lst ys))
theorem c_listL {l : List α} : CbW (rListOf K) [.mk (rLst K R) l] (rLst K R) l := fun M H vs g a Q k => by
  obtain ⟨v, rfl, r⟩ := args1 a
  obtain ⟨ad, vs, rfl, hs, hA, hl⟩ := lst_sql r
  refine ⟨ad, vs, rfl, .inl (ex_l hid_le hs), fun p hp => ?_⟩
  have x := Evl.Ex.new (o := HO.lst vs) hp
  exact k _ _ x ⟨p, vs, rfl, new_l hp g, hA.mono fun _ _ z => R.mono (hid_mono x) z, hl⟩
theorem c_listT {l : List α} : CbW (rListOf K) [.mk (rTup K R) l] (rLst K R) l := fun M H vs g a Q k => by
  obtain ⟨v, rfl, r⟩ := args1 a
  obtain ⟨ad, vs, rfl, hs, hA, hl⟩ := r
  refine ⟨ad, vs, rfl, .inr (ex_t hid_le hs), fun p hp => ?_⟩
  have x := Evl.Ex.new (o := HO.lst vs) hp
  exact k _ _ x ⟨p, vs, rfl, new_l hp g, hA.mono fun _ _ z => R.mono (hid_mono x) z, hl⟩
def rTupOf (K : PySem.W.Frag) : List V → Hp → VK → Prop := fun xs H Q => ∃ p ys, xs = [.ref p] ∧ ((SqL K H p ys ∧ ∀ l, H l = none → Q (.ref l) (upd H l (.tup ys))) ∨ (SqT K H p ys ∧ Q (.ref p) H))
theorem c_tupL {l : List α} : CbW (rTupOf K) [.mk (rLst K R) l] (rTup K R) l := fun M H vs g a Q k => by
  obtain ⟨v, rfl, r⟩ := args1 a
  obtain ⟨ad, vs, rfl, hs, hA, hl⟩ := lst_sql r
  refine ⟨ad, vs, rfl, .inl ⟨ex_l hid_le hs, fun p hp => ?_⟩⟩
  have x := Evl.Ex.new (o := HO.tup vs) hp
  exact k _ _ x ⟨p, vs, rfl, new_t hp g, hA.mono fun _ _ z => R.mono (hid_mono x) z, hl⟩
theorem c_tupT {l : List α} : CbW (rTupOf K) [.mk (rTup K R) l] (rTup K R) l := fun M H vs g a Q k => by
  obtain ⟨v, rfl, r⟩ := args1 a
  obtain ⟨ad, vs, rfl, hs, hA, hl⟩ := r
  exact ⟨ad, vs, rfl, .inr ⟨ex_t hid_le hs, k _ H (fun _ _ h => h) ⟨ad, vs, rfl, hs, hA, hl⟩⟩⟩
theorem c_gcd {x y : Int} : CbW rGcd [.mk rInt x, .mk rInt y] rInt ((Nat.gcd x.natAbs y.natAbs : Nat) : Int) := fun M H vs g a Q k => by
  obtain ⟨v, u, rfl, r1, r2⟩ := args2 a
  have r1 : v = .int x := r1
  have r2 : u = .int y := r2
  subst r1 r2
  exact ⟨x, y, rfl, k _ H (fun _ _ h => h) rfl⟩
/-- lcm of integers of less than ten thousand bits -/
def rLcm : List V → Hp → VK → Prop := fun vs H Q => ∃ a b : Int, vs = [.int a, .int b] ∧ a.natAbs < 2 ^ 9000 ∧ b.natAbs < 2 ^ 9000 ∧ Q (.int ((Nat.lcm a.natAbs b.natAbs : Nat) : Int)) H
theorem cr_lcm {X : Cx} : CallR X (.builtin "math.lcm") rLcm := by
  intro pins s σ H vs us Q I r h
  obtain ⟨a, b, rfl, ha, hb, q⟩ := h
  obtain ⟨t, u, rfl⟩ := Vals.int2 r
  have e1 : Nat.lcm 1 a.natAbs = a.natAbs := Nat.lcm_one_left _
  have p0 : (0 : Nat) < 2 ^ 9000 := Nat.two_pow_pos _
  have l1 : (max 1 a.natAbs).log2 < 9000 := PySem.Flt.log2_lt_of (by decide) (by rcases Nat.le_total 1 a.natAbs with z | z <;> simp only [Nat.max_eq_left z, Nat.max_eq_right z] <;> first | exact ha | exact Nat.one_lt_two_pow (by decide))
  have l2 : (max a.natAbs b.natAbs).log2 < 9000 := PySem.Flt.log2_lt_of (by decide) (by rcases Nat.le_total a.natAbs b.natAbs with z | z <;> simp only [Nat.max_eq_left z, Nat.max_eq_right z] <;> assumption)
  have hm : a.natAbs.lcm b.natAbs < 2 ^ 18000 := by
    have h1 : a.natAbs.lcm b.natAbs ≤ a.natAbs * b.natAbs := by
      unfold Nat.lcm
      exact Nat.div_le_self _ _
    have h2 : a.natAbs * b.natAbs < 2 ^ 9000 * 2 ^ 9000 := Nat.mul_lt_mul'' ha hb
    rw [← Nat.pow_add] at h2
    exact Nat.lt_of_le_of_lt h1 h2
  have l3 : ((((Nat.lcm 1 a.natAbs).lcm b.natAbs : Nat) : Int)).natAbs.log2 < bitsLine := by
    rw [e1, Int.natAbs_natCast]
    exact Nat.lt_of_lt_of_le (PySem.Flt.log2_lt_of (by decide) hm) (by decide)
  have g := PySem.W.mg_run_lcm a t b u (by omega) (by omega) l3
  rw [e1] at g
  exact call_function_meets PySem.W.MGF.kind_lcm PySem.W.MGF.plain_lcm PySem.W.MGF.entry_lcm (PySem.W.MGF.args_lcm _ _) g.meets ⟨.int _, H, I.tok _, ⟨_, rfl⟩, q⟩
theorem c_lcm {x y : Int} (hx : x.natAbs < 2 ^ 9000) (hy : y.natAbs < 2 ^ 9000) : CbW rLcm [.mk rInt x, .mk rInt y] rInt ((Nat.lcm x.natAbs y.natAbs : Nat) : Int) := fun M H vs g a Q k => by
  obtain ⟨v, u, rfl, r1, r2⟩ := args2 a
  have r1 : v = .int x := r1
  have r2 : u = .int y := r2
  subst r1 r2
  exact ⟨x, y, rfl, hx, hy, k _ H (fun _ _ h => h) rfl⟩
end
end L2.Lc
end

-- part LcOwn
section
set_option Elab.async false
set_option linter.all false
set_option maxRecDepth 100000
set_option maxHeartbeats 400000
/-! # instances with operators of their own -/
namespace PySem.W
open PySem PySem.Calls PyProof.Rows
section
variable {prog : Program} {w : World} {M : Model} {A : Around} {E : Value → Shared → Prop} {s : Shared} {K : Frag} {x y C L f : Addr} {h₀ : Heap} {m : Str → Option Value} {ox oy : Obj} {od od' : Option Obj} {nm T : String}
/-- x op y, two instances of one class that has the operator -/
theorem lc_bin {op : Operator} {Q : Value → Shared → Prop} (F : Fr h₀ L s.heap m) (X₀ : K.In h₀) (I : InstAt s.heap x ox C od) (J : InstAt s.heap y oy C od') (hc : selfFirst K C = true)
    (hs : findIn K (.ref C) (PySem.dunder op.info.2) = some (some (.ref f))) (hf : isFn K (.ref f) = true)
    (h : wpAny (model prog w) A (call (.ref f) [.ref x, .ref y]) (CmpBack Q) E s) : wpAny (model prog w) A (binaryOp op (.ref x) (.ref y)) Q E s := by
  have X := X₀.keeps F.keep
  obtain ⟨cd, rest, hcd, hm⟩ := ksp_first hc
  rcases hi : op.info with ⟨sym, nm'⟩
  rw [hi] at hs
  dsimp only at hs
  have one := ksp_try X I hs hf h
  obtain ⟨hh, g, d, tt, os⟩ := s
  have L1 : Looks (model prog w) hh (typeOf (.ref x)) (.ref C) := I.type
  have L2 : Looks (model prog w) hh (typeOf (.ref y)) (.ref C) := J.type
  have L3 : Looks (model prog w) hh (fillsNumberSlot (.ref C) nm') true := fills_K X hcd hm hs
  simp only [binaryOp, hi]
  refine wpAny_holding (wpAny_bind ?_)
  unfold binaryOp1
  refine wpAny_bind (L1.at (wpAny_bind (L2.at (wpAny_bind (L3.at ?_)))))
  have he : (Value.ref C == Value.ref C) = true := beq_self_eq_true _
  simp only [he, if_true]
  ksp_lk
  refine wpAny_mono one (fun r s' hr' => ?_) fun _ _ e => e
  obtain ⟨v, rfl, hq⟩ := hr'
  ksp_lk
  exact hq
theorem lc_ne_bind (self : Value) : bindSpecial (.builtin "object.__ne__") self = pure (.builtin "object.__ne__", [self]) := by kernel_rfl
theorem lc_ne_plain : plainId "object.__ne__" = true := by decide +kernel
theorem lc_check_obj {id n : String} {rest : List Value} {Q : Unit → Shared → Prop} (hk : builtinKind id = some .slot) (hs : splitId id = some ("object", n)) (ha : argsOk id ⟨.ref x :: rest, []⟩) (X : K.In s.heap) (I : InstAt s.heap x ox C od) (ho : subIn K (.ref C) (.type "object") = some true) (hq : Q () s) :
    wpAny M A (checkBuiltinCall id ⟨.ref x :: rest, []⟩) Q E s := by
  simp only [checkBuiltinCall, hk, hs]
  refine wpAny_bind ?_
  unfold isInstance
  refine wpAny_bind (m := typeOf (.ref x)) (I.type.here ((looks_subIn X ho).here ?_))
  simp only [Bool.not_true, Bool.false_eq_true, if_false]
  cases hsig : Manifest.signature? id with
  | none => exact wpAny_pure hq
  | some sig =>
    simp only [argsOk, hsig] at ha
    have h2 : Bind.checkArgs id sig ⟨.ref x :: rest, []⟩ = pure () := ha
    show wpAny M A (Bind.checkArgs id sig ⟨.ref x :: rest, []⟩) Q E _
    rw [h2]
    exact wpAny_pure hq
/-- x != y, the class at C has an __eq__ of its own, no __ne__ -/
theorem lc_ne {Q : Value → Shared → Prop} (hu : A.units + 1 < cLine) (F : Fr h₀ L s.heap m) (X₀ : K.In h₀) (I : InstAt s.heap x ox C od) (J : InstAt s.heap y oy C od') (hn : findIn K (.ref C) "__ne__" = some (some (.builtin "object.__ne__")))
    (hs : findIn K (.ref C) "__eq__" = some (some (.ref f))) (hf : isFn K (.ref f) = true) (ho : subIn K (.ref C) (.type "object") = some true)
    (h : wpAny (model prog w) A.in1 (call (.ref f) [.ref x, .ref y]) (fun v s' => ∃ b, v = .bool b ∧ Q (.bool (!b)) s') E s) : wpAny (model prog w) A (richCompare .NotEq (.ref x) (.ref y)) Q E s := by
  have X := X₀.keeps F.keep
  have body : ∀ {Z : Fin → Shared → Prop} {E' : Value → Shared → Prop}, wpAny (model prog w) A.in1 (call (.ref f) [.ref x, .ref y]) (fun v s' => ∃ b, v = .bool b ∧ Z (.done (.ret (.bool (!b)))) s') E' s → wpAny (model prog w) A.in1 (Builtin.«object.__ne__» ⟨[.ref x, .ref y], []⟩) Z E' s := fun {Z E'} hc => by
    unfold Builtin.«object.__ne__»
    repeat (first
      | with_reducible refine wpAny_cRoomFor hu ?_
      | (refine wpAny_bind (m := callSpecialIfBound? (.ref x) (Str.ofString "__eq__") [.ref y])
          (ifBound_K X I hs hf (wpAny_mono hc (fun r s' hr => by
            obtain ⟨b, rfl, hq⟩ := hr
            repeat (first | exact hq | exact wpAny_pure hq | exact wpAny_truthy_bool hq | (refine wpAny_bind (m := truthy (.bool _)) (wpAny_truthy_bool ?_)) | wp_step)) fun _ _ e => e)))
      | wp_step)
  have one : wpAny (model prog w) A (tryCompare (.ref x) "__ne__" (.ref y)) (fun r s' => ∃ v, r = some v ∧ Q v s') E s := by
    unfold tryCompare
    have hcall : wpAny (model prog w) A (call (.builtin "object.__ne__") [.ref x, .ref y]) (fun v s' => ∃ b, v = .bool b ∧ Q v s') E s := by
      refine wpAny_call (codeAny_call_builtin lc_ne_plain PySem.F.cmpEntry_ne (lc_check_obj PySem.F.cmpKind_ne PySem.F.cmpSplit_ne (PySem.F.cmpArgs_ne _ _) X I ho ?_))
      refine body (wpAny_mono h (fun v s' hv => ?_) fun _ _ e => e)
      obtain ⟨b, rfl, hq⟩ := hv
      exact ⟨b, rfl, ⟨_, rfl, hq⟩⟩
    refine wpAny_bind (m := callSpecialIfBound? (.ref x) (Str.ofString "__ne__") [.ref y]) ?_
    simp only [callSpecialIfBound?, bindSpecialIfBound?]
    refine wpAny_holding (wpAny_bind (wpAny_bind (wpAny_bind (I.type.here ((looks_findIn X hn).here ?_)))))
    refine wpAny_bind (wpAny_askSetting (wpAny_ite ?_))
    rw [lc_ne_bind]
    have fin : wpAny (model prog w) A (call (.builtin "object.__ne__") ([.ref x] ++ [.ref y]) >>= fun v => pure (some v)) (fun r s' => wpAny (model prog w) A (match r with
      | some .notImplemented | none => pure none
      | some v => pure (some v)) (fun r s' => ∃ v, r = some v ∧ Q v s') E s') E s := wpAny_bind (wpAny_mono hcall (fun v s' hv => wpAny_pure (by
        obtain ⟨b, rfl, hq⟩ := hv
        exact wpAny_pure ⟨_, rfl, hq⟩)) fun _ _ h' => h')
    split
    · exact wpAny_bind (wpAny_pure (wpAny_pure (by exact fin)))
    · exact wpAny_tryCatch (wpAny_bind (wpAny_pure (wpAny_pure (by exact fin))))
  unfold richCompare
  simp only [oneThing_ref]
  refine wpAny_holding (wpAny_bind (wpAny_cRoomFor (Nat.lt_of_succ_lt hu) ?_))
  refine wpAny_bind (I.type.here (wpAny_bind (J.type.here ?_)))
  rw [show (Value.ref C != Value.ref C) = false from by simp]
  simp only [Bool.false_eq_true, if_false]
  refine wpAny_bind (wpAny_pure ?_)
  simp only [Bool.false_eq_true, if_false]
  refine wpAny_bind (wpAny_mono one (fun r s' z => ?_) fun _ _ e => e)
  obtain ⟨v, rfl, hq⟩ := z
  exact wpAny_pure hq
end
end PySem.W
namespace L2.Lc
open PySem PySem.Spec PyProof.Rows L2
open Evl (Ex ex_l ex_t)
section
variable {X : Cx} {CX : CXT} {C f : Addr} {fd : FuncData} {n : Nat} {ps : List Str} {sp : Sp} {E : XK}
/-- what is asked of the class at C whose method m at f keeps the promise sp -/
structure OwnM (P : Program) (w : World) (K : PySem.W.Frag) (mg : Str → Option Value) (base : Heap) (C : Addr) (m : Str) (k : Nat) (ps : List Str) (sp : Sp) : Prop where
  ex : ∃ f fd, FnOk P w K mg base CX0 k f fd ps sp ∧ PySem.W.findIn K (.ref C) m = some (some (.ref f)) ∧ PySem.W.isFn K (.ref f) = true ∧ PySem.W.keepIn K (.ref f) = true ∧ Binds K fd ps []
  cls : Cls K C
  first : PySem.W.selfFirst K C = true
theorem inst_of {pins : List (Addr × Obj)} {s : Shared} {σ : St} {H : Hp} {a C dx : Addr} {fs : List (Str × V)} (I : Inv X pins σ H s) (e : H a = some (.ins C dx fs)) : ∃ od, PySem.W.InstAt s.heap a (PySem.W.instObj C dx) C (some od) := by
  obtain ⟨mA, O, _⟩ := ins_get I.hok e
  obtain ⟨od, J, _⟩ := O.look
  exact ⟨od, J⟩
theorem op_info {op : Operator} {m : Str} (h : PySem.dunder op.info.2 = m) : PySem.dunder op.info.2 = m := h
/-- x op y of two instances of the class at C -/
def rOwnB (C : Addr) (sp : Sp) : R2 := fun x y H Q => ∃ a dx fs b dy gs, x = .ref a ∧ y = .ref b ∧ H a = some (.ins C dx fs) ∧ H b = some (.ins C dy gs) ∧ sp [x, y] H Q E0
theorem op_ownB {op : Operator} {m : Str} {k : Nat} (O : OwnM X.prog X.w X.K X.mg X.base C m k ps sp) (hr : Room k X.A) (hm : PySem.dunder op.info.2 = m) : OpR X (binaryOp op) (rOwnB C sp) := by
  intro pins s σ H x y v u Q I rx ry h
  obtain ⟨a, dx, fs, b, dy, gs, rfl, rfl, ha, hb, q⟩ := h
  cases (show v = Value.ref a from rx)
  cases (show u = Value.ref b from ry)
  obtain ⟨f, fd, F, hs, hf, kp, bd⟩ := O.ex
  obtain ⟨od, J⟩ := inst_of I ha
  obtain ⟨od', J'⟩ := inst_of I hb
  obtain ⟨mF, hF⟩ := I.fr
  subst hm
  refine PySem.W.lc_bin hF I.ok.mod.kin J J' O.first hs hf (wpAny_mono (run_fn (us := [.ref a, .ref b]) (vs := [.ref a, .ref b]) F hr bd .nil (pass0 (X := X)) I (.cons rfl (.cons rfl .nil)) (by rw [List.append_nil]; exact q)) (fun w s' z => ?_) fun _ _ x => x)
  obtain ⟨z', H', I', rz, qz⟩ := z
  exact SlX.cmpback rz ⟨z', H', I', rz, qz⟩
/-- x op n, an instance and an integer -/
def rOwnI (C : Addr) (sp : Sp) : R2 := fun x y H Q => ∃ a dx fs i, x = .ref a ∧ y = .int i ∧ H a = some (.ins C dx fs) ∧ sp [x, y] H Q E0
theorem op_ownI {op : Operator} {m : Str} {k : Nat} {fo ro rc : Option Value} (O : OwnM X.prog X.w X.K X.mg X.base C m k ps sp) (hr : Room k X.A) (hm : PySem.dunder op.info.2 = m)
    (hrc : PySem.W.findIn X.K (.ref C) (PySem.dunderR op.info.2) = some rc) (hp : rc = none ∨ ∃ g : Addr, rc = some (.ref g)) (h1 : PySem.W.findIn X.K (.type "int") (PySem.dunder op.info.2) = some fo) (h2 : PySem.W.findIn X.K (.type "int") (PySem.dunderR op.info.2) = some ro)
    (hsub : PySem.W.subIn X.K (.type "int") (.ref C) = some false) : OpR X (binaryOp op) (rOwnI C sp) := by
  intro pins s σ H x y v u Q I rx ry h
  obtain ⟨a, dx, fs, i, rfl, rfl, ha, q⟩ := h
  cases (show v = Value.ref a from rx)
  obtain ⟨t, rfl⟩ := (show ∃ t, u = Value.int i t from ry)
  obtain ⟨f, fd, F, hs, hf, kp, bd⟩ := O.ex
  obtain ⟨od, J⟩ := inst_of I ha
  obtain ⟨mF, hF⟩ := I.fr
  subst hm
  refine PySem.W.ksp_binT (T := "int") hF I.ok.mod.kin J rfl O.first hs hf hrc hp h1 h2 hsub (wpAny_mono (run_fn (us := [.ref a, .int i t]) (vs := [.ref a, .int i]) F hr bd .nil (pass0 (X := X)) I (.cons rfl (.cons ⟨t, rfl⟩ .nil)) (by rw [List.append_nil]; exact q)) (fun w s' z => ?_) fun _ _ x => x)
  obtain ⟨z', H', I', rz, qz⟩ := z
  exact SlX.cmpback rz ⟨z', H', I', rz, qz⟩
/-- x == y of two instances of the class at C by its own __eq__ -/
theorem op_ownEq {k : Nat} (O : OwnM X.prog X.w X.K X.mg X.base C "__eq__" k ps sp) (hr : Room k X.A) : OpR X (compareOp .Eq) (rOwnB C sp) := by
  intro pins s σ H x y v u Q I rx ry h
  obtain ⟨a, dx, fs, b, dy, gs, rfl, rfl, ha, hb, q⟩ := h
  cases (show v = Value.ref a from rx)
  cases (show u = Value.ref b from ry)
  obtain ⟨f, fd, F, hs, hf, kp, bd⟩ := O.ex
  obtain ⟨od, J⟩ := inst_of I ha
  obtain ⟨od', J'⟩ := inst_of I hb
  obtain ⟨mF, hF⟩ := I.fr
  show wpAny _ _ (richCompare .Eq (.ref a) (.ref b)) _ _ _
  refine PySem.W.cmp_K (op := .Eq) (tb := .ref C) hr.units0 hF I.ok.mod.kin J J'.type (by unfold PySem.W.notFirst; rw [beq_self_eq_true, Bool.true_or]) hs hf ?_
  refine wpAny_mono (run_fn (us := [.ref a, .ref b]) (vs := [.ref a, .ref b]) F hr bd .nil (pass0 (X := X)) I (.cons rfl (.cons rfl .nil)) (by rw [List.append_nil]; exact q)) (fun w s' z => ?_) fun _ _ x => x
  obtain ⟨z', H', I', rz, qz⟩ := z
  exact SlX.cmpback rz ⟨z', H', I', rz, qz⟩
end
end L2.Lc
namespace L2.Lc
open PySem PySem.Spec PyProof.Rows L2
open Evl (Ex ex_l ex_t)
section
variable {X : Cx} {C : Addr} {ps : List Str} {sp : Sp} {k : Nat}
/-- x != y by the class's __eq__ -/
def rOwnNe (C : Addr) (sp : Sp) : R2 := fun x y H Q => ∃ a dx fs b dy gs, x = .ref a ∧ y = .ref b ∧ H a = some (.ins C dx fs) ∧ H b = some (.ins C dy gs) ∧ sp [x, y] H (fun z H' => ∃ c, z = .bl c ∧ Q (.bl (!c)) H') E0
theorem op_ownNe (O : OwnM X.prog X.w X.K X.mg X.base C "__eq__" k ps sp) (hr : Room (k + 1) X.A) (hn : PySem.W.findIn X.K (.ref C) "__ne__" = some (some (.builtin "object.__ne__"))) (ho : PySem.W.subIn X.K (.ref C) (.type "object") = some true) : OpR X (compareOp .NotEq) (rOwnNe C sp) := by
  intro pins s σ H x y v u Q I rx ry h
  obtain ⟨a, dx, fs, b, dy, gs, rfl, rfl, ha, hb, q⟩ := h
  cases (show v = Value.ref a from rx)
  cases (show u = Value.ref b from ry)
  obtain ⟨f, fd, F, hs, hf, kp, bd⟩ := O.ex
  obtain ⟨od, J⟩ := inst_of I ha
  obtain ⟨od', J'⟩ := inst_of I hb
  obtain ⟨mF, hF⟩ := I.fr
  show wpAny _ _ (richCompare .NotEq (.ref a) (.ref b)) _ _ _
  refine PySem.W.lc_ne (hu_of hr) hF I.ok.mod.kin J J' hn hs hf ho ?_
  have r2 : Vals [V.ref a, V.ref b] [Value.ref a, Value.ref b] := .cons rfl (.cons rfl .nil)
  have hl := F.len _ _ _ _ q
  refine wpAny_call (codeAny_mono (F.run X.A.in1 X.stack s H ⟨[.ref a, .ref b], []⟩ [.ref a, .ref b] [.ref a, .ref b] _ E0 hr.in1 I.env0.in1 (by have := bd s [.ref a, .ref b] I.kIn (by rw [List.append_nil]; exact hl); rw [List.append_nil] at this; exact this) r2 q) fun r s' hq => ?_)
  cases r with
  | error e => exact hq.elim
  | ok fl =>
    cases fl with
    | ret u =>
      obtain ⟨z, H', I', rz, c, rfl, qz⟩ := I.after hq
      cases (show u = Value.bool c from rz)
      exact ⟨c, rfl, .bl (!c), H', I', rfl, qz⟩
    | next => exact False.elim hq
    | brk => exact False.elim hq
    | cont => exact False.elim hq
end

/-! ### instances as data -/
def FsOk (G : Hp) : List (Str × V) → List (Str × Ent) → Prop
  | [], [] => True
  | p :: vs, q :: es => p.1 = q.1 ∧ q.2.ok G p.2 ∧ FsOk G vs es
  | _, _ => False
theorem FsOk.mono {G G' : Hp} (x : Ex G G') : ∀ {vs : List (Str × V)} {es : List (Str × Ent)}, FsOk G vs es → FsOk G' vs es
  | [], [], _ => trivial
  | _ :: _, _ :: _, h => ⟨h.1, Ent.ok_mono x h.2.1, FsOk.mono x h.2.2⟩
  | [], _ :: _, h => h.elim
  | _ :: _, [], h => h.elim
theorem FsOk.look {G : Hp} {f : Str} {e : Ent} : ∀ {vs : List (Str × V)} {es : List (Str × Ent)}, FsOk G vs es → es.lookup f = some e → ∃ v, vs.lookup f = some v ∧ e.ok G v
  | [], [], _, h => by cases h
  | p :: vs, q :: es, h, l => by
    obtain ⟨n, v⟩ := p
    obtain ⟨n', e'⟩ := q
    obtain ⟨rfl, h2, h3⟩ := h
    by_cases z : (f == n) = true
    · simp only [List.lookup, z] at l ⊢
      cases l
      exact ⟨v, rfl, h2⟩
    · have z : (f == n) = false := by simpa using z
      simp only [List.lookup, z] at l ⊢
      exact FsOk.look h3 l
  | [], _ :: _, h, _ => h.elim
  | _ :: _, [], h, _ => h.elim
def rIns {α : Type} (C : Addr) (fs : α → List (Str × Ent)) : Rl α := ⟨fun G v x => ∃ a dx vs, v = .ref a ∧ G a = some (.ins C dx vs) ∧ FsOk G vs (fs x), fun e ⟨a, dx, vs, h1, h2, h3⟩ => ⟨a, dx, vs, h1, e _ _ h2, h3.mono e⟩⟩
section
variable {Z : Type} {m : Md Z} {Γ : Gm} {n : Z} {α β γ : Type} {R : Rl α} {S : Rl β} {T : Rl γ} {K : PySem.W.Frag} {ta tb : TE} {C : Addr} {fs : α → List (Str × Ent)}
theorem w_fld {f : Str} {Post : γ → Z → Prop} (hc : Cls K C) (hn : NoAttr K C f) (h : EvW m ta Γ n (rIns C fs) fun x n1 => ∃ y, (fs x).lookup f = some (.mk T y) ∧ Post y n1) : EvW m (tFld K ta f) Γ n T Post := fun M σ H c e Q k =>
  h M σ H c e _ fun v x n1 H1 p1 e1 i1 r1 => by
    obtain ⟨a, dx, vs, rfl, h2, h3⟩ := r1
    obtain ⟨y, hy, p⟩ := p1
    obtain ⟨u, hu, ru⟩ := h3.look hy
    exact ⟨a, C, dx, vs, u, rfl, hid_le _ _ h2, hc, hn, hu, k u y n1 H1 p e1 i1 ru⟩
/-- an __init__ that makes these attributes -/
def spI {α : Type} (C : Addr) (A : α → List Ent) (pre : α → Prop) (fs : α → List (Str × Ent)) : Sp := fun vs H Q _ => ∃ M x a dx ws, vs = .ref a :: ws ∧ H a = some (.ins C dx []) ∧ Good M H ∧ M a ∧ ArgsOk (hid M H) ws (A x) ∧ pre x ∧
  ∀ H' vs', (∀ b o, b ≠ a → H b = some o → H' b = some o) → H' a = some (.ins C dx vs') → FsOk (hid M H') vs' (fs x) → Q .non H'
theorem w_make {A : α → List Ent} {pre : α → Prop} {E : XK} {t : TA} {dvs : List V} {Post : α → Z → Prop} (des : List Ent) (hd : ∀ G, ArgsOk G dvs des)
    (h : ArW m t Γ n fun es n1 => ∃ x, es ++ des = A x ∧ pre x ∧ Post x n1) : EvW m (tMake C (spI C A pre fs) dvs E t) Γ n (rIns C fs) Post := fun M σ H c e Q k =>
  h M σ H c e _ fun vs es n1 H1 p1 e1 i1 a1 => by
    obtain ⟨x, hx, hp, p⟩ := p1
    have c1 := c.go e1 i1
    intro a dx ha hdx hne
    have x1 : Ex H1 (upd H1 dx (.own a)) := Evl.Ex.new hdx
    have ha' : upd H1 dx (.own a) a = none := by rw [upd_ne (fun z => hne z.symm)]; exact ha
    have x2 : Ex (upd H1 dx (.own a)) (upd (upd H1 dx (.own a)) a (.ins C dx [])) := Evl.Ex.new ha'
    have xx := x1.trans x2
    have nM : ¬ M a := c1.good.fresh ha
    have happ : ∀ {G : Hp} {vs ws : List V} {es fs : List Ent}, ArgsOk G vs es → ArgsOk G ws fs → ArgsOk G (vs ++ ws) (es ++ fs) := by
      intro G vs
      induction vs with
      | nil => intro ws es fs h1 h2; cases es with
        | nil => exact h2
        | cons _ _ => exact h1.elim
      | cons v vs ih => intro ws es fs h1 h2; cases es with
        | nil => exact h1.elim
        | cons e es => exact ⟨h1.1, ih h1.2 h2⟩
    refine ⟨fun b => M b ∨ b = a, x, a, dx, vs ++ dvs, rfl, upd_same, fun b mb => ?_, .inr rfl, ?_, hp, fun H' vs' hk h' hf => ?_⟩
    · rcases mb with mb | rfl
      · exact (c1.good.ex xx) b mb
      · exact ⟨_, upd_same, fun _ z => by cases z⟩
    · rw [← hx]
      have y : Ex (hid M H1) (hid (fun b => M b ∨ b = a) (upd (upd H1 dx (.own a)) a (.ins C dx []))) := fun b o q => by
        obtain ⟨nb, q⟩ := hid_some q
        rw [hid_no (fun z => z.elim nb fun z => by rw [z, ha] at q; cases q)]
        exact xx b o q
      exact happ (a1.mono y) (hd _)
    · refine ⟨rfl, ?_⟩
      have eH : Ex H1 H' := fun b o q => hk b o (fun z => by rw [z, ha] at q; cases q) (xx b o q)
      refine k _ x n1 H' p (e1.trans (.of eH)) (m.kept i1 eH) ⟨a, dx, vs', rfl, by rw [hid_no nM]; exact h', hf.mono fun b o q => ?_⟩
      obtain ⟨nb, q⟩ := hid_some q
      rw [hid_no fun z => nb (.inl z)]; exact q
/-- the attributes of self, stage by stage -/
def mI (a C dx : Addr) : Md (List (Str × V)) := ⟨fun st H => H a = some (.ins C dx st), fun b => b = a, fun b => b = a, fun _ h => h, (fun {n H b} i f => by rw [f, i]; exact fun z => by cases z), fun {n H H'} i f => by rw [f a rfl]; exact i, (fun {n H b} i f xs => by rw [show b = a from f, i]; exact fun z => by cases z)⟩
theorem s_fldI {a dx : Addr} {st : List (Str × V)} {f : Str} {D : Dn (List (Str × V)) β} (hc : Cls K C) (hn : NoAttr K C f)
    (h : EvW (mI a C dx) ta Γ st rInt fun y n1 => EvW (mI a C dx) tb Γ n1 (rAt a) fun _ n2 => n2.length < 1000 ∧ D.nx Γ (putF f (.int y) n2)) : StW (mI a C dx) (sFld K tb ta f) Γ st S D := fun M σ H c e E k =>
  h M σ H c e _ fun v y n1 H1 p1 e1 i1 r1 => p1 M σ H1 (c.go e1 i1) (e.mono (e1.hid c.mm)) _ fun u _ n2 H2 p2 e2 i2 r2 => by
    have r1 : v = .int y := r1
    have r2 : u = .ref a := r2
    subst r1 r2
    obtain ⟨h2, h3⟩ := p2
    refine ⟨a, C, dx, n2, rfl, i2, hc, hn, h2, ?_⟩
    refine k.nx Γ _ σ _ h3 (fun b o nb q => by rw [upd_ne nb]; exact (e1.trans e2) b o nb q) (by show upd H2 a _ a = _; rw [upd_same]) ((e.mono ((e1.trans e2).hid c.mm)).mono fun b o q => ?_)
    obtain ⟨nb, q⟩ := hid_some q
    rw [hid_no nb, upd_ne (fun z => nb (by rw [z]; exact c.mm a rfl))]
    exact q
/-- operators of instances -/
theorem w_ownB {A : α → List Ent} {pre : α → Prop} {post : α → γ → Prop} {β1 β2 : Type} {f1 : β1 → List (Str × Ent)} {f2 : β2 → List (Str × Ent)} {Post : γ → Z → Prop}
    (h : EvW m ta Γ n (rIns C f1) fun x n1 => EvW m tb Γ n1 (rIns C f2) fun y n2 => ∃ p, [Ent.mk (rIns C f1) x, .mk (rIns C f2) y] = A p ∧ pre p ∧ ∀ z, post p z → Post z n2) : EvW m (tOp (rOwnB C (spP A pre T post)) ta tb) Γ n T Post := fun M σ H c e Q k =>
  h M σ H c e _ fun v x n1 H1 p1 e1 i1 r1 => p1 M σ H1 (c.go e1 i1) (e.mono (e1.hid c.mm)) _ fun u y n2 H2 p2 e2 i2 r2 => by
    have r1' := (rIns C f1).mono (e2.hid c.mm) r1
    obtain ⟨a, dx, vs, rfl, g1, g2⟩ := id r1'
    obtain ⟨b, dy, ws, rfl, g3, g4⟩ := id r2
    obtain ⟨p, hA, hp, hq⟩ := p2
    refine ⟨a, dx, vs, b, dy, ws, rfl, rfl, hid_le _ _ g1, hid_le _ _ g3, M, p, (c.go (e1.trans e2) i2).good, ?_, hp, fun o z H' po x' r => k o z n2 H' (hq z po) ((e1.trans e2).trans (.of x')) (m.kept i2 x') r⟩
    rw [← hA]
    exact ⟨r1', r2, trivial⟩
theorem w_ownI {A : α → List Ent} {pre : α → Prop} {post : α → γ → Prop} {β1 : Type} {f1 : β1 → List (Str × Ent)} {Post : γ → Z → Prop}
    (h : EvW m ta Γ n (rIns C f1) fun x n1 => EvW m tb Γ n1 rInt fun y n2 => ∃ p, [Ent.mk (rIns C f1) x, .mk rInt y] = A p ∧ pre p ∧ ∀ z, post p z → Post z n2) : EvW m (tOp (rOwnI C (spP A pre T post)) ta tb) Γ n T Post := fun M σ H c e Q k =>
  h M σ H c e _ fun v x n1 H1 p1 e1 i1 r1 => p1 M σ H1 (c.go e1 i1) (e.mono (e1.hid c.mm)) _ fun u y n2 H2 p2 e2 i2 r2 => by
    have r1' := (rIns C f1).mono (e2.hid c.mm) r1
    obtain ⟨a, dx, vs, rfl, g1, g2⟩ := id r1'
    have r2' : u = .int y := r2
    subst r2'
    obtain ⟨p, hA, hp, hq⟩ := p2
    refine ⟨a, dx, vs, y, rfl, rfl, hid_le _ _ g1, M, p, (c.go (e1.trans e2) i2).good, ?_, hp, fun o z H' po x' r => k o z n2 H' (hq z po) ((e1.trans e2).trans (.of x')) (m.kept i2 x') r⟩
    rw [← hA]
    exact ⟨r1', r2, trivial⟩
theorem w_ownNe {A : α → List Ent} {pre : α → Prop} {post : α → Bool → Prop} {β1 β2 : Type} {f1 : β1 → List (Str × Ent)} {f2 : β2 → List (Str × Ent)} {Post : Bool → Z → Prop}
    (h : EvW m ta Γ n (rIns C f1) fun x n1 => EvW m tb Γ n1 (rIns C f2) fun y n2 => ∃ p, [Ent.mk (rIns C f1) x, .mk (rIns C f2) y] = A p ∧ pre p ∧ ∀ z, post p z → Post (!z) n2) : EvW m (tOp (rOwnNe C (spP A pre rBl post)) ta tb) Γ n rBl Post := fun M σ H c e Q k =>
  h M σ H c e _ fun v x n1 H1 p1 e1 i1 r1 => p1 M σ H1 (c.go e1 i1) (e.mono (e1.hid c.mm)) _ fun u y n2 H2 p2 e2 i2 r2 => by
    have r1' := (rIns C f1).mono (e2.hid c.mm) r1
    obtain ⟨a, dx, vs, rfl, g1, g2⟩ := id r1'
    obtain ⟨b, dy, ws, rfl, g3, g4⟩ := id r2
    obtain ⟨p, hA, hp, hq⟩ := p2
    refine ⟨a, dx, vs, b, dy, ws, rfl, rfl, hid_le _ _ g1, hid_le _ _ g3, M, p, (c.go (e1.trans e2) i2).good, ?_, hp, fun o z H' po x' r => ⟨z, r, k _ (!z) n2 H' (hq z po) ((e1.trans e2).trans (.of x')) (m.kept i2 x') rfl⟩⟩
    rw [← hA]
    exact ⟨r1', r2, trivial⟩

/-! ### isinstance -/
def rTy (t : String) : Rl Unit := ⟨fun _ v _ => v = .ty t, fun _ h => h⟩
/-- data of this kind have this type -/
def TyW (K : PySem.W.Frag) (R : Rl α) (t : Value) : Prop := ∀ (G H : Hp) (v : V) (x : α), R.r G v x → Ex G H → TyX K H v t
theorem ty_int : TyW K rInt (.type "int") := fun G H v x r _ => by
  have r : v = .int x := r
  subst r; exact .base (.int x)
theorem ty_bl : TyW K rBl (.type "bool") := fun G H v x r _ => by
  have r : v = .bl x := r
  subst r; exact .base (.bl x)
theorem ty_str : TyW K rStr (.type "str") := fun G H v x r _ => by
  have r : v = .str x := r
  subst r; exact .base (.str x)
structure IsiC (K : PySem.W.Frag) (C : Addr) : Prop where
  cl : Cls K C
  ca : PySem.W.findIn K (.ref C) "__class__" = some (some (.builtin "object.__class__"))
  cn : PySem.W.specialIn K (.builtin "object.__class__") "__get__" = some (some (.builtin "getset_descriptor.__get__"))
  ct : PySem.W.takesIn K (.builtin "object.__class__") = some true
  cm : PySem.W.mroIn K C (.type "object") = some true
theorem ty_ins (h : IsiC K C) : TyW K (rIns C fs) (.ref C) := fun G H v x r e => by
  obtain ⟨a, dx, vs, rfl, h2, _⟩ := r
  exact .base (.ins (e _ _ h2) h.cl h.ca h.cn h.ct h.cm)
theorem c_isiT {x : α} {t : Value} {c : String} {b : Bool} (ht : TyW K R t) (hk : PySem.W.kitOne K t (.type c) = some b) : CbW (rIsi K) [.mk R x, .mk (rTy c) ()] rBl b := fun M H vs g a Q k => by
  obtain ⟨v, u, rfl, r1, r2⟩ := args2 a
  have r2 : u = .ty c := r2
  subst r2
  exact ⟨v, _, t, .type c, b, rfl, .ty c, ht _ H v x r1 hid_le, hk, k _ H (fun _ _ h => h) rfl⟩
theorem c_isiC {x : α} {t : Value} {D : Addr} {b : Bool} (ht : TyW K R t) (hk : PySem.W.kitOne K t (.ref D) = some b) : CbW (rIsi K) [.mk R x, .mk (rAt D) ()] rBl b := fun M H vs g a Q k => by
  obtain ⟨v, u, rfl, r1, r2⟩ := args2 a
  have r2 : u = .ref D := r2
  subst r2
  exact ⟨v, _, t, .ref D, b, rfl, .own D, ht _ H v x r1 hid_le, hk, k _ H (fun _ _ h => h) rfl⟩
theorem w_ty {c : String} {Post : Unit → Z → Prop} (p : Post () n) : EvW m (tC (.ty c)) Γ n (rTy c) Post := fun M σ H cc e Q k => k _ () n H p .refl cc.inv rfl
theorem w_at {a : Addr} {Post : Unit → Z → Prop} (p : Post () n) : EvW m (tC (.ref a)) Γ n (rAt a) Post := fun M σ H cc e Q k => k _ () n H p .refl cc.inv rfl
end
end L2.Lc
end

-- part LcData
section
set_option Elab.async false
set_option linter.all false
set_option maxRecDepth 100000
set_option maxHeartbeats 400000
/-! # plain data: equality at any depth -/
namespace L2.Lc
open PySem PySem.Spec PyProof.Rows L2
open Evl (Ex ex_l ex_t)
section
variable {K : PySem.W.Frag} {G H : Hp}
mutual
theorem dp_up (e : Ex G H) : ∀ (d : PyData) (v : V), Dp K G v d → Dp K H v d
  | .none, _, h => by cases h; exact .non
  | .bool b, _, h => by cases h; exact .bl b
  | .int i, _, h => by cases h; exact .int i
  | .str x, _, h => by cases h; exact .str x
  | .list ds, _, h => by
    cases h with
    | lst h1 h2 => exact .lst (ex_l e h1) (dps_up e ds _ h2)
  | .tuple ds, _, h => by
    cases h with
    | tup h1 h2 => exact .tup (ex_t e h1) (dps_up e ds _ h2)
  | .dict _, _, h => by cases h
theorem dps_up (e : Ex G H) : ∀ (ds : List PyData) (vs : List V), DpAll K G vs ds → DpAll K H vs ds
  | [], _, h => by cases h; exact .nil
  | d :: ds, _, h => by
    cases h with
    | cons h1 h2 => exact .cons (dp_up e d _ h1) (dps_up e ds _ h2)
end
end
/-- a kind of plain data -/
structure DatW (K : PySem.W.Frag) {α : Type} (R : Rl α) (toD : α → PyData) (k : Nat) : Prop where
  dp : ∀ {G : Hp} {v : V} {x : α}, R.r G v x → Dp K G v (toD x) ∧ (toD x).canLay0 = true
  depth : ∀ x, (toD x).depth ≤ k
/-- equality of such data -/
structure DatE {α : Type} (toD : α → PyData) (eq : α → α → Bool) : Prop where
  eqv : ∀ x y, PyData.eqv (toD x) (toD y) = eq x y
section
variable {K : PySem.W.Frag} {α β : Type} {R : Rl α} {S : Rl β} {dR : α → PyData} {dS : β → PyData} {k j : Nat}
theorem dat_int : DatW K rInt PyData.int 0 := ⟨fun {G v x} r => by
  have r : v = .int x := r
  subst r
  exact ⟨.int x, rfl⟩, fun _ => Nat.le_refl _⟩
theorem lay_all {dR : α → PyData} : ∀ {l : List α}, (∀ x ∈ l, (dR x).canLay0 = true) → PyData.canLayAll0 (l.map dR) = true
  | [], _ => rfl
  | x :: l, h => by
    show (PyData.canLay0 (dR x) && PyData.canLayAll0 (l.map dR)) = true
    rw [h x (List.mem_cons_self ..), lay_all (l := l) fun y hy => h y (List.mem_cons_of_mem _ hy)]
    rfl
theorem depth_all {dR : α → PyData} (h : ∀ x, (dR x).depth ≤ k) : ∀ l : List α, PyData.depthAll (l.map dR) ≤ k
  | [] => Nat.zero_le _
  | x :: l => Nat.max_le.mpr ⟨h x, depth_all h l⟩
theorem al_dp (D : DatW K R dR k) {G : Hp} : ∀ {vs : List V} {l : List α}, Al (fun v x => R.r G v x) vs l → DpAll K G vs (l.map dR) ∧ ∀ x ∈ l, (dR x).canLay0 = true
  | _, _, .nil => ⟨.nil, fun _ h => by cases h⟩
  | _, _, .cons h t => by
    obtain ⟨h1, h2⟩ := D.dp h
    obtain ⟨t1, t2⟩ := al_dp D t
    refine ⟨.cons h1 t1, fun y hy => ?_⟩
    rcases List.mem_cons.mp hy with rfl | hy
    · exact h2
    · exact t2 y hy
theorem dat_lst (D : DatW K R dR k) : DatW K (rLst K R) (fun l => .list (l.map dR)) (k + 1) := ⟨fun {G v l} r => by
  obtain ⟨a, vs, rfl, hs, hA, _⟩ := lst_sql r
  obtain ⟨h1, h2⟩ := al_dp D hA
  exact ⟨.lst hs h1, lay_all h2⟩, fun l => Nat.succ_le_succ (depth_all D.depth l)⟩
theorem dat_tup (D : DatW K R dR k) : DatW K (rTup K R) (fun l => .tuple (l.map dR)) (k + 1) := ⟨fun {G v l} r => by
  obtain ⟨a, vs, rfl, hs, hA, _⟩ := r
  obtain ⟨h1, h2⟩ := al_dp D hA
  exact ⟨.tup hs h1, lay_all h2⟩, fun l => Nat.succ_le_succ (depth_all D.depth l)⟩
theorem dat_pr (D : DatW K R dR k) (F : DatW K S dS k) : DatW K (rPr K R S) (fun p => .tuple [dR p.1, dS p.2]) (k + 1) := ⟨fun {G v p} r => by
  obtain ⟨a, x, y, rfl, hs, hx, hy⟩ := r
  obtain ⟨h1, h2⟩ := D.dp hx
  obtain ⟨h3, h4⟩ := F.dp hy
  refine ⟨.tup hs (.cons h1 (.cons h3 .nil)), ?_⟩
  show (PyData.canLay0 (dR p.1) && (PyData.canLay0 (dS p.2) && true)) = true
  rw [h2, h4]; rfl, fun p => by
  show max ((dR p.1).depth) (max ((dS p.2).depth) 0) + 1 ≤ k + 1
  have := D.depth p.1
  have := F.depth p.2
  omega⟩
theorem eq_int : DatE PyData.int (fun a b => decide (a = b)) := ⟨fun a b => by
  show (a == b) = _
  by_cases h : a = b
  · subst h; simp
  · simp [h]⟩
theorem eqv_all [DecidableEq α] {dR : α → PyData} (E : DatE dR fun a b => decide (a = b)) : ∀ l m : List α, PyData.eqvAll (l.map dR) (m.map dR) = decide (l = m)
  | [], [] => by simp [PyData.eqvAll]
  | [], _ :: _ => by simp [PyData.eqvAll]
  | _ :: _, [] => by simp [PyData.eqvAll]
  | x :: l, y :: m => by
    show (PyData.eqv (dR x) (dR y) && PyData.eqvAll (l.map dR) (m.map dR)) = _
    rw [E.eqv, eqv_all E l m]
    simp [List.cons.injEq]
theorem eq_lst [DecidableEq α] (E : DatE dR fun a b => decide (a = b)) : DatE (fun l : List α => PyData.list (l.map dR)) fun a b => decide (a = b) := ⟨fun l m => by
  show PyData.eqvAll _ _ = _
  exact eqv_all E l m⟩
theorem eq_tup [DecidableEq α] (E : DatE dR fun a b => decide (a = b)) : DatE (fun l : List α => PyData.tuple (l.map dR)) fun a b => decide (a = b) := ⟨fun l m => by
  show PyData.eqvAll _ _ = _
  exact eqv_all E l m⟩
theorem eq_pr [DecidableEq α] [DecidableEq β] (E : DatE dR fun a b => decide (a = b)) (F : DatE dS fun a b => decide (a = b)) : DatE (fun p : α × β => .tuple [dR p.1, dS p.2]) fun a b => decide (a = b) := ⟨fun p q => by
  show (PyData.eqv (dR p.1) (dR q.1) && (PyData.eqv (dS p.2) (dS q.2) && true)) = _
  rw [E.eqv, F.eqv]
  obtain ⟨p1, p2⟩ := p
  obtain ⟨q1, q2⟩ := q
  simp [Prod.mk.injEq]⟩
theorem shaped_of {d : PyData} (h : d.canLay0 = true) (k : d.depth ≤ 64) : SeqAt.shaped d = true := by
  unfold SeqAt.shaped
  rw [h, decide_eq_true k]; rfl
theorem o_eqD (D : DatW K R dR k) (hk : k ≤ 64) {eq : α → α → Bool} (E : DatE dR eq) : OpW (rEqD K) R R rBl (fun _ _ => True) eq := fun M H v u x y gd r1 r2 _ Q q => by
  obtain ⟨h1, h2⟩ := D.dp r1
  obtain ⟨h3, h4⟩ := D.dp r2
  refine ⟨_, _, dp_up hid_le _ _ h1, dp_up hid_le _ _ h3, shaped_of h2 (Nat.le_trans (D.depth x) hk), shaped_of h4 (Nat.le_trans (D.depth y) hk), ?_⟩
  rw [E.eqv]
  exact q _ H (fun _ _ h => h) rfl
theorem o_neD (D : DatW K R dR k) (hk : k ≤ 64) {eq : α → α → Bool} (E : DatE dR eq) : OpW (rNeD K) R R rBl (fun _ _ => True) (fun x y => !eq x y) := fun M H v u x y gd r1 r2 _ Q q => by
  obtain ⟨h1, h2⟩ := D.dp r1
  obtain ⟨h3, h4⟩ := D.dp r2
  refine ⟨_, _, dp_up hid_le _ _ h1, dp_up hid_le _ _ h3, shaped_of h2 (Nat.le_trans (D.depth x) hk), shaped_of h4 (Nat.le_trans (D.depth y) hk), ?_⟩
  rw [E.eqv]
  exact q _ H (fun _ _ h => h) rfl
theorem any_eqv [DecidableEq α] {dR : α → PyData} (E : DatE dR fun a b => decide (a = b)) (x : α) : ∀ l : List α, (l.map dR).any (fun z => PyData.eqv z (dR x)) = decide (x ∈ l)
  | [] => by simp
  | y :: l => by
    rw [List.map_cons, List.any_cons, E.eqv, any_eqv E x l]
    by_cases h : y = x
    · simp [h]
    · simp [h, Ne.symm h]
theorem o_inD [DecidableEq α] (D : DatW K R dR k) (hk : k < 64) (E : DatE dR fun a b => decide (a = b)) : OpW (rInD K) R (rLst K R) rBl (fun _ _ => True) (fun x l => decide (x ∈ l)) := fun M H v u x y gd r1 r2 _ Q q => by
  obtain ⟨h1, h2⟩ := D.dp r1
  obtain ⟨h3, h4⟩ := (dat_lst D).dp r2
  refine ⟨_, _, dp_up hid_le _ _ h1, dp_up hid_le _ _ h3, shaped_of h2 (Nat.le_trans (D.depth x) (by omega)), shaped_of h4 (Nat.le_trans ((dat_lst D).depth y) (by omega)), ?_⟩
  rw [any_eqv E]
  exact q _ H (fun _ _ h => h) rfl
theorem o_notInD [DecidableEq α] (D : DatW K R dR k) (hk : k < 64) (E : DatE dR fun a b => decide (a = b)) : OpW (rNotInD K) R (rLst K R) rBl (fun _ _ => True) (fun x l => !decide (x ∈ l)) := fun M H v u x y gd r1 r2 _ Q q => by
  obtain ⟨h1, h2⟩ := D.dp r1
  obtain ⟨h3, h4⟩ := (dat_lst D).dp r2
  refine ⟨_, _, dp_up hid_le _ _ h1, dp_up hid_le _ _ h3, shaped_of h2 (Nat.le_trans (D.depth x) (by omega)), shaped_of h4 (Nat.le_trans ((dat_lst D).depth y) (by omega)), ?_⟩
  rw [any_eqv E]
  exact q _ H (fun _ _ h => h) rfl
end
theorem hu65 {k : Nat} {A : Around} (hr : Room k A) : A.units + 65 < cLine := by have := hr.un; omega
end L2.Lc
end

-- part LcSeq
section
set_option Elab.async false
set_option linter.all false
set_option maxRecDepth 100000
set_option maxHeartbeats 400000
/-! # parts of sequences -/
namespace L2.Lc
open PySem PySem.Spec PyProof.Rows L2
open Evl (Ex ex_l ex_t)
theorem cut_to (xs : List V) (k : Nat) : cutV xs none (some (k : Int)) = xs.take k := by
  unfold cutV
  rw [HT.sIx_none, HT.sIx_nat, List.drop_zero, Nat.sub_zero]
  rcases Nat.le_total k xs.length with h | h
  · rw [Nat.min_eq_left h]
  · rw [Nat.min_eq_right h, List.take_of_length_le (Nat.le_refl _), List.take_of_length_le h]
theorem cut_from (xs : List V) (k : Nat) : cutV xs (some (k : Int)) none = xs.drop k := by
  unfold cutV
  rw [HT.sIx_none, HT.sIx_nat]
  rcases Nat.le_total k xs.length with h | h
  · rw [Nat.min_eq_left h, List.take_of_length_le (by rw [List.length_drop]; omega)]
  · rw [Nat.min_eq_right h, Nat.sub_self, List.take_zero, List.drop_eq_nil_of_le h]
section
variable {Z : Type} {m : Md Z} {Γ : Gm} {n : Z} {α β γ : Type} {R : Rl α} {S : Rl β} {K : PySem.W.Frag} {ta tb : TE}
theorem w_toS {Post : List α → Z → Prop} (h : EvW m ta Γ n (rSql K R) fun l n1 => EvW m tb Γ n1 rInt fun i n2 => 0 ≤ i ∧ Post (l.take i.toNat) n2) : EvW m (tSl (rSlL K) ta tNoPart (tPart tb)) Γ n (rLst K R) Post := fun M σ H c e Q k =>
  h M σ H c e _ fun v x n1 H1 p1 e1 i1 r1 => p1 M σ H1 (c.go e1 i1) (e.mono (e1.hid c.mm)) _ fun u y n2 H2 p2 e2 i2 r2 => by
    obtain ⟨h1, h2⟩ := p2
    obtain ⟨a, vs, rfl, hs, hA, hl⟩ := (rSql K R).mono (e2.hid c.mm) r1
    have r2 : u = .int y := r2
    subst r2
    refine ⟨y, rfl, a, vs, rfl, ex_l hid_le hs, fun p hp => ?_⟩
    have ey : y = (y.toNat : Int) := by omega
    have hc : cutV vs none (some y) = vs.take y.toNat := by conv => lhs; rw [ey, cut_to]
    rw [hc]
    have z := Evl.Ex.new (o := HO.lst (vs.take y.toNat)) hp
    refine k _ _ n2 _ h2 ((e1.trans e2).trans (.of z)) (m.kept i2 z) ⟨p, _, rfl, new_l hp (c.go (e1.trans e2) i2).good, (hA.take _).mono fun _ _ q => R.mono (hid_mono z) q, by rw [List.length_take]; omega⟩
theorem w_to {Post : List α → Z → Prop} (h : EvW m ta Γ n (rLst K R) fun l n1 => EvW m tb Γ n1 rInt fun i n2 => 0 ≤ i ∧ Post (l.take i.toNat) n2) : EvW m (tSl (rSlL K) ta tNoPart (tPart tb)) Γ n (rLst K R) Post :=
  w_toS fun M σ H c e Q k => h M σ H c e Q fun v x n1 H1 p e1 i1 r => k v x n1 H1 p e1 i1 (lst_sql r)
theorem w_from {Post : List α → Z → Prop} (h : EvW m ta Γ n (rLst K R) fun l n1 => EvW m tb Γ n1 rInt fun i n2 => 0 ≤ i ∧ Post (l.drop i.toNat) n2) : EvW m (tSl (rSlL K) ta (tPart tb) tNoPart) Γ n (rLst K R) Post := fun M σ H c e Q k =>
  h M σ H c e _ fun v x n1 H1 p1 e1 i1 r1 => p1 M σ H1 (c.go e1 i1) (e.mono (e1.hid c.mm)) _ fun u y n2 H2 p2 e2 i2 r2 => by
    obtain ⟨h1, h2⟩ := p2
    obtain ⟨a, vs, rfl, hs, hA, hl⟩ := lst_sql ((rLst K R).mono (e2.hid c.mm) r1)
    have r2 : u = .int y := r2
    subst r2
    refine ⟨y, rfl, a, vs, rfl, ex_l hid_le hs, fun p hp => ?_⟩
    have ey : y = (y.toNat : Int) := by omega
    have hc : cutV vs (some y) none = vs.drop y.toNat := by conv => lhs; rw [ey, cut_from]
    rw [hc]
    have z := Evl.Ex.new (o := HO.lst (vs.drop y.toNat)) hp
    refine k _ _ n2 _ h2 ((e1.trans e2).trans (.of z)) (m.kept i2 z) ⟨p, _, rfl, new_l hp (c.go (e1.trans e2) i2).good, (hA.drop _).mono fun _ _ q => R.mono (hid_mono z) q, by rw [List.length_drop]; omega⟩
/-- t[:i] -/
theorem w_toT {Post : List α → Z → Prop} (h : EvW m ta Γ n (rTup K R) fun l n1 => EvW m tb Γ n1 rInt fun i n2 => 0 ≤ i ∧ Post (l.take i.toNat) n2) : EvW m (tSl (rSlA K) ta tNoPart (tPart tb)) Γ n (rTup K R) Post := fun M σ H c e Q k =>
  h M σ H c e _ fun v x n1 H1 p1 e1 i1 r1 => p1 M σ H1 (c.go e1 i1) (e.mono (e1.hid c.mm)) _ fun u y n2 H2 p2 e2 i2 r2 => by
    obtain ⟨h1, h2⟩ := p2
    have r1' := (rTup K R).mono (e2.hid c.mm) r1
    obtain ⟨a, vs, rfl, hs, hA, hl⟩ := id r1'
    have r2 : u = .int y := r2
    subst r2
    have ey : y = (y.toNat : Int) := by omega
    refine ⟨y, rfl, a, vs, rfl, ex_t hid_le hs, fun hw => ?_, fun _ p hp => ?_⟩
    · have hz : min y.toNat vs.length = vs.length := by
        have := hw.2
        rw [ey, HT.sIx_nat] at this
        exact this
      have e3 : x.take y.toNat = x := List.take_of_length_le (by rw [← hA.len]; omega)
      rw [e3] at h2
      exact k _ _ n2 _ h2 (e1.trans e2) i2 r1'
    · have hc : cutV vs none (some y) = vs.take y.toNat := by conv => lhs; rw [ey, cut_to]
      rw [hc]
      have z := Evl.Ex.new (o := HO.tup (vs.take y.toNat)) hp
      refine k _ _ n2 _ h2 ((e1.trans e2).trans (.of z)) (m.kept i2 z) ⟨p, _, rfl, new_t hp (c.go (e1.trans e2) i2).good, (hA.take _).mono fun _ _ q => R.mono (hid_mono z) q, by rw [List.length_take]; omega⟩
  /-- l + m -/
theorem w_cat {Post : List α → Z → Prop} (h : EvW m ta Γ n (rLst K R) fun x n1 => EvW m tb Γ n1 (rLst K R) fun y n2 => x.length + y.length ≤ bigN ∧ Post (x ++ y) n2) : EvW m (tOp rCat ta tb) Γ n (rLst K R) Post := fun M σ H c e Q k =>
  h M σ H c e _ fun v x n1 H1 p1 e1 i1 r1 => p1 M σ H1 (c.go e1 i1) (e.mono (e1.hid c.mm)) _ fun u y n2 H2 p2 e2 i2 r2 => by
    obtain ⟨h1, h2⟩ := p2
    obtain ⟨a, vs, rfl, hs, hA, hl⟩ := (rLst K R).mono (e2.hid c.mm) r1
    obtain ⟨b, ws, rfl, ht, hB, hl2⟩ := r2
    refine ⟨a, b, vs, ws, rfl, rfl, hid_le _ _ hs, hid_le _ _ ht, by rw [hA.len, hB.len]; exact Nat.le_of_lt (Nat.lt_of_le_of_lt h1 bigN_line), fun p hp => ?_⟩
    have z := Evl.Ex.new (o := HO.lst (vs ++ ws)) hp
    exact k _ _ n2 _ h2 ((e1.trans e2).trans (.of z)) (m.kept i2 z) ⟨p, _, rfl, new_l hp (c.go (e1.trans e2) i2).good, (hA.append hB).mono fun _ _ q => R.mono (hid_mono z) q, by rw [List.length_append]; exact h1⟩
/-- l[::-1] -/
theorem w_revL {Post : List α → Z → Prop} (h : EvW m ta Γ n (rLst K R) fun x n1 => Post x.reverse n1) : EvW m (tRevL K ta) Γ n (rLst K R) Post := fun M σ H c e Q k =>
  h M σ H c e _ fun v x n1 H1 p1 e1 i1 r1 => by
    obtain ⟨a, vs, rfl, hs, hA, hl⟩ := lst_sql r1
    refine ⟨a, vs, rfl, ex_l hid_le hs, fun p hp => ?_⟩
    have z := Evl.Ex.new (o := HO.lst vs.reverse) hp
    exact k _ _ n1 _ p1 (e1.trans (.of z)) (m.kept i1 z) ⟨p, _, rfl, new_l hp (c.go e1 i1).good, hA.reverse.mono fun _ _ q => R.mono (hid_mono z) q, by rw [List.length_reverse]; exact hl⟩
end
end L2.Lc
end

-- part LcRev
section
set_option Elab.async false
set_option linter.all false
set_option maxRecDepth 100000
set_option maxHeartbeats 400000
namespace L2.Lc
open PySem PySem.Spec PyProof.Rows L2 HT
open Evl (Ex ex_l ex_t)
section
variable {prog : Program} {w : World} {A : Around} {E : Value → Shared → Prop} {s : Shared}
theorem adj_rev (n : Nat) : Builtin.Slice.sliceAdjust none none (-1) (n : Int) = ((n : Int) - 1, -1) := rfl
theorem places_rev (n : Nat) : Builtin.Slice.slicePlaces ((n : Int) - 1) (-1) (-1) = n := by
  unfold Builtin.Slice.slicePlaces
  have h1 : ¬ ((-1 : Int) > 0) := by decide
  rw [if_neg h1, show (- -1 : Int) = 1 by decide, Int.ediv_one]
  split <;> omega
theorem pick_rev (xs : Array Value) : ((List.range xs.size).filterMap fun (m : Nat) => xs[(((xs.size : Int) - 1) + (m : Int) * (-1)).toNat]?).toArray = xs.toList.reverse.toArray := by
  have e : (List.range xs.size).filterMap (fun (m : Nat) => xs[(((xs.size : Int) - 1) + (m : Int) * (-1)).toNat]?) = ((List.range xs.size).map fun k => xs.size - 1 - k).filterMap (xs[·]?) := by
    rw [List.filterMap_map]
    congr 1
    funext m
    show xs[(((xs.size : Int) - 1) + (m : Int) * (-1)).toNat]? = xs[xs.size - 1 - m]?
    congr 1
    omega
  rw [e, PySem.W.krv_range, List.filterMap_reverse, PySem.W.krv_all]
theorem sliceApplied_rev {sl : Addr} {vs : Value} {n : Nat} {Q : Int × Int × Nat → Shared → Prop} (hs : s.heap.IsSliceOf sl .none .none vs) (ps : IsPart vs (some (-1)))
    (h : Q ((n : Int) - 1, -1, n) s) : wpAny (model prog w) A (Builtin.Slice.sliceApplied (.ref sl) (pure (n : Int))) Q E s := by
  obtain ⟨os, hos, hcs, hds⟩ := id hs
  unfold Builtin.Slice.sliceApplied Builtin.Slice.sliceFields
  refine wpAny_bind (wpAny_bind (wpAny_field hos hds (x := .none) rfl (wpAny_bind (wpAny_field hos hds (x := .none) rfl (wpAny_bind (wpAny_field hos hds (x := vs) rfl (wpAny_pure ?_)))))))
  refine wpAny_bind (slicePart_ ps ?_)
  show wpAny _ _ (if ((-1 : Int) == 0) = true then _ else _) _ _ s
  rw [if_neg (by decide)]
  refine wpAny_bind (slicePart_none (wpAny_bind (slicePart_none (wpAny_bind (wpAny_pure ?_)))))
  show wpAny _ _ (pure ((n : Int) - 1, (-1 : Int), Builtin.Slice.slicePlaces ((n : Int) - 1) (-1) (-1))) _ _ s
  rw [places_rev]
  exact wpAny_pure h
theorem getItem_tuple_rev {t sl : Addr} {items : Array Value} {vs : Value} {Q : Value → Shared → Prop} (ht : IsTup s.heap t items) (hs : s.heap.IsSliceOf sl .none .none vs) (ps : IsPart vs (some (-1)))
    (h : Q (.ref s.heap.objs.size) { s with heap := s.heap.push { cls := .type "tuple", data := .seq items.toList.reverse.toArray } })
    (hsz : items.size ≤ sizeLine) : wpAny (model prog w) A (getItem (.ref t) (.ref sl)) Q E s := by
  have htake : sizeOk (.seq items.toList.reverse.toArray) := by
    show items.toList.reverse.toArray.size ≤ sizeLine
    rw [List.size_toArray, List.length_reverse, Array.length_toList]
    exact hsz
  obtain ⟨os, hos, hcs, hds⟩ := id hs
  have hTs : s.TypeIs (.ref sl) "slice" := ⟨os, hos, hcs⟩
  unfold getItem
  try with_reducible refine wpAny_holding ?_
  first | refine wpAny_bind (wpAny_pure ?_) | skip
  refine wpAny_bind (wpAny_sequenceKey ht.typeIs (by decide) ?_)
  refine wpAny_bind (wpAny_callSpecial?_slot (name := Str.ofString "__getitem__") ht.typeIs PyProof.Rows.slot_tuple_getitem
    (wpAny_call_entry PyProof.Rows.slot_tuple_getitem ht.typeIs entry_tuple_getitem ?_ (args_tuple_getitem _ _)))
  show wpAny _ _ (Builtin.Tuple.tupleItemsOf (.ref t) >>= _) _ _ s
  refine wpAny_bind (tupleItemsOf_ ht ?_)
  refine wpAny_bind (wpAny_typeOf hTs ?_)
  rw [if_pos (by decide)]
  refine wpAny_bind (sliceApplied_rev hs ps ?_)
  have hno : ¬ ((((items.size : Int) - 1) == 0 && (-1 : Int) == 1 && items.size == items.size) = true) := by
    intro q
    rw [Bool.and_eq_true, Bool.and_eq_true] at q
    exact absurd q.1.2 (by decide)
  show wpAny _ _ (if (((items.size : Int) - 1) == 0 && (-1 : Int) == 1 && items.size == items.size) = true then _ else _) _ _ s
  rw [if_neg hno, pick_rev]
  first
    | exact wpAny_bind (m := Builtin.Tuple.tupleExact _) (wpAny_newObj_type (wpAny_pure ⟨_, rfl, wpAny_pure h⟩) htake)
    | exact wpAny_bind (m := Builtin.Tuple.tupleExact _) (wpAny_newObj_type (wpAny_bind (wpAny_pure (wpAny_pure ⟨_, rfl, wpAny_pure h⟩))) htake)
    | exact wpAny_bind (wpAny_bind (m := Builtin.Tuple.tupleExact _) (wpAny_newObj_type (wpAny_pure (wpAny_pure ⟨_, rfl, wpAny_pure h⟩)) htake))
    | exact wpAny_bind (wpAny_bind (m := Builtin.Tuple.tupleExact _) (wpAny_newObj_type (wpAny_pure ⟨_, rfl, wpAny_pure h⟩) htake))
end
section
variable {X : Cx}
def tRevT (K : PySem.W.Frag) (te : TE) : TE := fun σ H Q => te σ H fun x H1 => ∃ a xs, x = .ref a ∧ SqT K H1 a xs ∧ ∀ p, H1 p = none → Q (.ref p) (upd H1 p (.tup xs.reverse))
theorem pe_revT {e : Expr} {te : TE} {k : Nat} {p1 p2 p3 pos : Pos} (he : PE X e te) : PE X (.Subscript e (.Slice none none (some (.UnaryOp .USub (.Constant (.int 1) k p1) p2)) p3) pos) (tRevT X.K te) := by
  refine ⟨fun pins s σ H Q I h => ?_⟩
  refine Subscript_ (thn (he.run pins s σ H _ I h) fun v s1 ⟨x, H1, I1, r1, q1⟩ => ?_)
  obtain ⟨a, xs, ex, hx, q⟩ := q1
  subst ex
  cases r1
  have hst : PO X (some (.UnaryOp .USub (.Constant (.int 1) k p1) p2)) (tPart (tUn (rU fun i => .int (-i)) (tC (.int 1)))) := po_some (pe_un un_neg pe_int)
  refine wpAny_Slice (thn (po_none.run pins s1 σ H1 (fun o H2 => o = none ∧ H2 = H1) I1 ⟨rfl, rfl⟩) fun vl s2 ⟨l, H2, I2, pl, el, e2⟩ => ?_)
  subst el e2
  refine thn (po_none.run pins s2 σ H2 (fun o H3 => o = none ∧ H3 = H2) I2 ⟨rfl, rfl⟩) fun vu s3 ⟨u, H3, I3, pu, eu, e3⟩ => ?_
  subst eu e3
  refine thn (hst.run pins s3 σ H3 (fun o H4 => o = some (-1) ∧ H4 = H3) I3 ⟨1, rfl, -1, rfl, rfl, rfl⟩) fun vs s4 ⟨o, H4, I4, ps, eo, e4⟩ => ?_
  subst eo e4
  have I5 : Inv X pins σ H4 { s4 with heap := s4.heap.push { cls := .type "slice", data := .fields #[vl, vu, vs] } } := I4.kept (t' := s4.toks) fun b ob q => Heap.get?_push_of_some _ q
  obtain ⟨its, r, ht, hz⟩ := I5.tuple hx
  have hlen := r.length
  cases pl
  cases pu
  show wpAny (model X.prog X.w) X.A (subscriptTail e (.Slice none none (some (.UnaryOp .USub (.Constant (.int 1) k p1) p2)) p3) (.ref a) (.ref s4.heap.objs.size)) (EP X pins σ Q) X.xe { s4 with heap := s4.heap.push { cls := .type "slice", data := .fields #[.none, .none, vs] } }
  refine tail_any (ops := [.ref a, .ref s4.heap.objs.size]) ht.typeIs (PyProof.Rows.slot_tuple_getitem.lookup) ?_ (by with_unfolding_all rfl)
  refine getItem_tuple_rev ht (Heap.IsSliceOf.new _ .none .none vs) ps ?_ (by rw [List.size_toArray]; omega)
  refine ⟨.ref _, _, I5.laid (t' := s4.toks) (o := .tup xs.reverse) (fun b ob q => Heap.get?_push_of_some _ q) (Nat.le_refl _) ?_, rfl, q _ (I5.hok.fresh (Nat.le_refl _))⟩
  exact ⟨by rw [List.length_reverse]; exact hz, _, r.reverse, _, Heap.get?_push_size _ rfl, rfl, 0, rfl⟩
end
section
variable {Z : Type} {m : Md Z} {Γ : Gm} {n : Z} {α : Type} {R : Rl α} {K : PySem.W.Frag} {ta : TE}
theorem w_revT {Post : List α → Z → Prop} (h : EvW m ta Γ n (rTup K R) fun x n1 => Post x.reverse n1) : EvW m (tRevT K ta) Γ n (rTup K R) Post := fun M σ H c e Q k =>
  h M σ H c e _ fun v x n1 H1 p1 e1 i1 r1 => by
    obtain ⟨a, vs, rfl, hs, hA, hl⟩ := r1
    refine ⟨a, vs, rfl, ex_t hid_le hs, fun p hp => ?_⟩
    have z := Evl.Ex.new (o := HO.tup vs.reverse) hp
    exact k _ _ n1 _ p1 (e1.trans (.of z)) (m.kept i1 z) ⟨p, _, rfl, new_t hp (c.go e1 i1).good, hA.reverse.mono fun _ _ q => R.mono (hid_mono z) q, by rw [List.length_reverse]; exact hl⟩
end
end L2.Lc
end

-- part LcSort
section
set_option Elab.async false
set_option linter.all false
set_option maxRecDepth 100000
set_option maxHeartbeats 400000
/-! # sorted of tuples of integers, of any size and sign -/
namespace L2.Lc
open PySem PySem.Spec PyProof.Rows L2
open Evl (Ex ex_l ex_t)
open PyProof.Rows
def lexI : List Int → List Int → Bool
  | [], [] => false
  | [], _ :: _ => true
  | _ :: _, [] => false
  | x :: r, y :: t => decide (x < y) || (!decide (y < x) && lexI r t)
abbrev noText : Nat → Bool := fun _ => false
theorem lexI_eq : ∀ a b : List Int, lexLt itemOrd (a.map Sum.inl) (b.map Sum.inl) = lexI a b
  | [], [] => rfl
  | [], _ :: _ => rfl
  | _ :: _, [] => rfl
  | x :: r, y :: t => by
    show lexLt itemOrd (Sum.inl x :: r.map Sum.inl) (Sum.inl y :: t.map Sum.inl) = _
    rw [lex_cons, lexI_eq r t]
    rfl
theorem items_ints : ∀ (ns : List Int) (its : List Value) (i : Nat), Vals (ns.map V.int) its → tupItems noText i its = some (ns.map Sum.inl)
  | [], _, _, .nil => rfl
  | n :: ns, _, i, .cons (l₂ := us) r t => by
    obtain ⟨k, rfl⟩ := r
    show (tupItems noText (i + 1) us).map (Sum.inl n :: ·) = _
    rw [items_ints ns us (i + 1) t]
    rfl
section
variable {X : Cx} {pins : List (Addr × Obj)} {σ : St} {H : Hp} {s : Shared}
theorem key_tup (I : Inv X pins σ H s) {t : Addr} {ns : List Int} (h : H t = some (.tup (ns.map V.int))) : G.tupKeyC s.heap noText (.ref t) = some (ns.map Sum.inl) ∧ (ns ≠ [] → ∃ f, TupOf s.heap noText (.ref t) f) := by
  obtain ⟨_, its, rv, o, ho, hc, n, hd⟩ := (show ObjOk X.prog X.w H s.heap t (.tup (ns.map V.int)) from I.hok t _ h)
  refine ⟨?_, fun hne => ?_⟩
  · unfold G.tupKeyC G.isTupObj tupKey
    simp only [ho, hc, hd, beq_self_eq_true, if_true]
    exact items_ints ns its 0 rv
  · cases ns with
    | nil => exact absurd rfl hne
    | cons m ns =>
      cases rv with
      | cons r _ =>
        obtain ⟨k, rfl⟩ := r
        exact ⟨.int m k, t, o, _, n, rfl, ho, hc, hd, rfl, fun _ => ⟨m, k, rfl⟩, fun z => by cases z⟩
/-- x is a tuple that holds these -/
def IsT (H : Hp) (x : V) (ns : List Int) : Prop := ∃ t, x = .ref t ∧ H t = some (.tup (ns.map V.int))
def rSortZ (K : PySem.W.Frag) : List V → Hp → VK → Prop := fun vs H Q => ∃ (a : Addr) (xs : List V), vs = [V.ref a] ∧ SqL K H a xs ∧ (∀ x ∈ xs, ∃ ns, IsT H x ns ∧ ns ≠ []) ∧
  ∀ (ys : List V) (p : Addr), ys.Perm xs → ys.Pairwise (fun x y => ∀ n m, IsT H x n → IsT H y m → lexI m n = false) → H p = none → Q (.ref p) (upd H p (.lst ys))
theorem tups_of {h : Heap} : ∀ {vs : List Value}, (∀ v ∈ vs, ∃ f, TupOf h noText v f) → ∃ fs, TupsOf h noText vs fs
  | [], _ => ⟨[], .nil⟩
  | v :: vs, k => by
    obtain ⟨f, hf⟩ := k v (List.mem_cons_self ..)
    obtain ⟨fs, hfs⟩ := tups_of fun u hu => k u (List.mem_cons_of_mem _ hu)
    exact ⟨f :: fs, .cons hf hfs⟩
theorem cr_sortZ : CallR X (.builtin "sorted") (rSortZ X.K) := by
  intro pins s σ H vs us Q I r h
  obtain ⟨a, xs, rfl, hs, hx, q⟩ := h
  obtain ⟨its, rv, hl, hz⟩ := I.list hs
  rw [Vals.ref1 r]
  have refs : ∀ x ∈ xs, ∃ t, x = V.ref t := fun x m => by
    obtain ⟨ns, ⟨t, e, _⟩, _⟩ := hx x m
    exact ⟨t, e⟩
  obtain ⟨e1, e2⟩ := bkV_refs rv refs
  have hkey : ∀ v ∈ its, ∃ t ns, v = .ref t ∧ H t = some (.tup (ns.map V.int)) ∧ ns ≠ [] := fun v hv => by
    obtain ⟨t, rfl⟩ := e2 v hv
    have hm : V.ref t ∈ xs := by
      rw [e1]
      exact List.mem_map_of_mem (f := bkV) hv
    obtain ⟨ns, ⟨t', e, ht⟩, hn⟩ := hx _ hm
    cases e
    exact ⟨t, ns, rfl, ht, hn⟩
  obtain ⟨fs, hfs⟩ := tups_of (h := s.heap) (vs := its) fun v hv => by
    obtain ⟨t, ns, rfl, ht, hn⟩ := hkey v hv
    exact (key_tup I ht).2 hn
  refine G.sorted_tups hl.isList hfs (fun v hv => by
    obtain ⟨t, ns, rfl, ht, _⟩ := hkey v hv
    exact ⟨_, (key_tup I ht).1⟩) (by rw [← rv.length]; exact hz) fun st' hp hs' _ => ?_
  -- the outcome's items
  generalize hZ : (arrOf st').toList = zs
  have hp2 : zs.Perm (its.zip its) := by
    have := Array.perm_iff_toList_perm.mp hp
    rw [pairsOf_toList, hZ] at this
    exact this
  have same : ∀ p ∈ zs, p.1 = p.2 ∧ p.1 ∈ its := fun p hp => mem_zip_self (hp2.mem_iff.mp hp)
  have hout : ((arrOf st').map (·.2)).toList = zs.map (·.2) := by rw [Array.toList_map, hZ]
  have h1 : (zs.map (·.2)).Perm its := by
    have := hp2.map (·.2)
    rwa [List.map_snd_zip (Nat.le_refl _)] at this
  obtain ⟨ep, he'⟩ := PyProof.Rows.sortedAll_at s.heap its ((arrOf st').map (·.2))
  have h3 : ∀ u ∈ zs.map (·.2), ∃ a, u = Value.ref a := fun u hu => e2 u (h1.mem_iff.mp hu)
  have hpm : ((zs.map (·.2)).map bkV).Perm xs := by
    rw [e1]
    exact h1.map bkV
  have hlen : ((zs.map (·.2)).map bkV).length ≤ sizeLine := by
    rw [hpm.length_eq]
    exact hz
  refine ⟨.ref _, upd H (s.heap.objs.size + 1) (.lst ((zs.map (·.2)).map bkV)), I.laid (t' := s.toks) (fun _ _ => PyProof.Rows.sortedAll_old) (Nat.le_succ _) ⟨hlen, zs.map (·.2), ep, bkV_vals h3, by rw [he', ← hout]⟩, rfl, q _ _ hpm ?_ (I.hok.fresh (Nat.le_succ _))⟩
  rw [List.pairwise_map, List.pairwise_map, List.pairwise_iff_getElem]
  intro i j hi hj hij n m hn hm
  have si := same _ (List.getElem_mem hi)
  have sj := same _ (List.getElem_mem hj)
  have asz : (arrOf st').size = zs.length := by rw [← hZ, Array.length_toList]
  have gi : ∀ (i : Nat) (hi : i < zs.length), (arrOf st')[i]? = some zs[i] := fun i hi => by
    rw [← Array.getElem?_toList, hZ, List.getElem?_eq_getElem hi]
  have hsz : (pairsOf its).size = zs.length := by rw [← hp.size_eq, asz]
  have le := hs' i j (Nat.le_of_lt hij) (by rw [hsz]; exact hj)
  have kk : ∀ (i : Nat) (hi : i < zs.length) (n : List Int), IsT H (bkV zs[i].2) n → KK (G.tupKindC s.heap noText) (arrOf st') i = n.map Sum.inl := fun i hi n hn => by
    obtain ⟨t, et, ht⟩ := hn
    have eu := bkV_ref et
    have sm := (same _ (List.getElem_mem hi)).1
    unfold KK
    rw [gi i hi]
    show (G.tupKeyC s.heap noText zs[i].1).getD [] = _
    rw [sm, eu, (key_tup I ht).1]
    rfl
  rw [kk i hi n hn, kk j hj m hm] at le
  have le : lexLt itemOrd (m.map Sum.inl) (n.map Sum.inl) = false := le
  rwa [lexI_eq] at le
end
end L2.Lc
end

-- part LcDc
section
set_option Elab.async false
set_option linter.all false
set_option maxRecDepth 100000
set_option maxHeartbeats 1000000
/-! # dict comprehensions whose keys are tuples of integers and texts -/
namespace L2.Lc
open PySem PySem.Spec PyProof.Rows L2
open Evl (Ex ex_l ex_t)
/-- d[k] = v within a comprehension, a key of either kind -/
theorem put_comp {X : Cx} {pins : List (Addr × Obj)} {σ : St} {H H' : Hp} {s : Shared} {E : Value → Shared → Prop} {D : Addr} {y v : V} {u r : Value} {Q : Unit → Shared → Prop}
    (room : X.A.units + 1 < cLine) (I : Inv X pins σ H s) (g : DPut H D y v H') (ry : RelV y u) (rv : RelV v r) (k : ∀ s', Inv X pins σ H' s' → Q () s') : wpAny (model X.prog X.w) X.A (dictSet D u r) Q E s := by
  rcases g with ⟨kvs, key, e, rfl, l, rfl⟩ | ⟨kvs, key, b, e, rfl, eb, l, rfl⟩
  · exact d_dictSet I e l ry rv k
  · obtain rfl : u = Value.ref b := ry
    obtain ⟨z, hd, xs, rel, dd⟩ := dt_of I.hok e
    have more := length_putK kvs key v
    refine wpAny_dictSet_heap (show X.A.units < cLine from Nat.lt_of_succ_lt room) (key_of I.hok eb) dd (fun h' dd' same => k _ ?_) (by rw [← Paired.length rel]; exact z)
    obtain ⟨ob, es, ep, hob, p2, p3, p4, _, p5⟩ := dd'
    have step := (rel.put key eb rv).keeps (H' := upd H D (.dT (putK kvs key v))) fun c ys ec => by
      rw [upd_ne fun z => by rw [z, e] at ec; cases ec]
      exact ec
    exact d_write I (by rw [e]; exact True.intro) same ⟨ob, hob⟩ ⟨by omega, hd, _, step, ob, es, ep, hob, p2, p3, p4, p5⟩
section
variable {X : Cx}
/-- {k: v for target in iter if ..}: the new dict D is told as one with tuple keys -/
def tDcT (wi : TI) (g : TG) (tt : TT) (tk tv : TE) (vs : List Nat) : TE := fun σ H Q => wi σ H fun J H1 => ∀ D, H1 D = none → ∃ W : Nat → Nat → Hp → Prop, (∃ m, W 0 m (upd H1 D (.dT []))) ∧ ∀ i m H, W i m H →
  (J.stop i H ∧ Q (.ref D) H) ∨ (J.go i H ∧ ∃ Nx : Hp → Prop, (∀ H', Nx H' → ∃ m', m' < m ∧ W (i + 1) m' H') ∧ ∀ x H', J.yld i H x H' → g x (wipe σ vs) H' fun σ2 H2 => wipe σ2 vs = wipe σ vs ∧ tt σ2 H2 fun b H3 =>
    if b = true then tk σ2 H3 fun y H4 => tv σ2 H4 fun z H5 => ∃ H6, DPut H5 D y z H6 ∧ Nx H6 else Nx H3)
variable {kx vx tg iter : Expr} {ifs : List Expr} {scope : Scope} {own : List (Str × Nat)} {pos pos' : Pos} {wi : TI} {g : TG} {tt : TT} {tk tv : TE}
theorem pe_dcT (hc : X.calm = true) (room : X.A.units + 1 < cLine) (hN : X.N.Nodup) (hi : PI X tg iter wi) (ok : BlkOk X.N X.env.scope scope own)
    (hg : ∀ s H C cl fp, PG (X.blk s H scope (compEnvC scope cl C X.env) fp) tg g) (ht : ∀ s H C cl fp, PTs (X.blk s H scope (compEnvC scope cl C X.env) fp) ifs tt)
    (hk : ∀ s H C cl fp, PE (X.blk s H scope (compEnvC scope cl C X.env) fp) kx tk) (he : ∀ s H C cl fp, PE (X.blk s H scope (compEnvC scope cl C X.env) fp) vx tv)
    (hs : ∀ x, foldedSetIterable iter X.env x = pure x := by intro _; rfl) : PE X (.DictComp kx vx [⟨tg, iter, ifs, 0⟩] scope pos) (tDcT wi g tt tk tv (own.map (·.2))) := by
  refine ⟨fun pins s σ H Q I h => ?_⟩
  rw [arm_eval_DictComp]
  have cellOf : ∀ y ∈ scope.names, y.2 = .free → ∃ c, X.env.cells.lookup y.1 = some c := by
    intro y hy e
    exact (ok.free y hy e).elim (fun k => I.ok.has _ (.inl k)) (fun k => I.ok.has _ (.inr k))
  refine wpAny_comprehension_free rfl hs (closure_ok cellOf) ok.kind (fun y hy e => by rw [ok.uniq y hy, e]) (thn (hi.run pins s σ H _ I h) fun xv s1 hx => thn hx fun itv s2 h2 => ?_)
  obtain ⟨it, fp, tn, J, H2, rfl, I2, T, st2, f2, q⟩ := h2
  refine wpAny_newObj_type (newEnv_comp ?_)
  obtain ⟨D, hD⟩ : ∃ D, s2.heap.objs.size = D := ⟨_, rfl⟩
  rw [hD]
  have free : H2 D = none := I2.hok.fresh (Nat.le_of_eq hD)
  obtain ⟨W, ⟨m0, w0⟩, turn⟩ := q D free
  let s3 : Shared := { s2 with heap := s2.heap.push { cls := .type "dict", data := .dict #[] } }
  have I3 : Inv X pins σ (upd H2 D (.dT [])) s3 :=
    I2.laid (t' := s2.toks) (fun b o e => Heap.get?_push_of_some _ e) (Nat.le_of_eq hD) (by rw [← hD]; exact dt_empty s2.heap I2.big)
  have below : ∀ b ∈ fp, b < s2.heap.objs.size := fun b hb => (T.obj _ _ st2 b hb).elim fun o e => Heap.lt_size e.1
  have f3 : ∀ b ∈ fp, FpOk X pins (upd H2 D (.dT [])) b ∧ b < s3.heap.objs.size := by
    intro b hb
    have lt := below b hb
    refine ⟨⟨?_, (f2 b hb).2⟩, by show b < (s2.heap.push _).objs.size; rw [Heap.size_push]; exact Nat.lt_succ_of_lt lt⟩
    rw [upd_ne (show b ≠ D from hD ▸ Nat.ne_of_lt lt)]
    exact (f2 b hb).1
  have st3 : tn 0 s3.heap := T.keep _ _ _ st2 fun b _ o e => Heap.get?_push_of_some _ e
  have I4 := block_start I3 ok hN f3
  have none3 : ∀ b ∈ fp, (upd H2 D (.dT [])) b = none := fun b hb => (f3 b hb).1.1
  generalize hH3 : upd H2 D (.dT []) = H3 at I3 I4 w0 none3 f3
  have G1 := hg s3 H3 s3.heap.objs.size (cellsFrom (s3.heap.objs.size + 1) scope.names (cloFrom X.env.cells scope.names [])) fp
  have G2 := ht s3 H3 s3.heap.objs.size (cellsFrom (s3.heap.objs.size + 1) scope.names (cloFrom X.env.cells scope.names [])) fp
  have G3 := hk s3 H3 s3.heap.objs.size (cellsFrom (s3.heap.objs.size + 1) scope.names (cloFrom X.env.cells scope.names [])) fp
  have G4 := he s3 H3 s3.heap.objs.size (cellsFrom (s3.heap.objs.size + 1) scope.names (cloFrom X.env.cells scope.names [])) fp
  show codeAny _ _ (.compStart _ 0 (.ref it) (.ref D) (compEnvC scope (cellsFrom (s3.heap.objs.size + 1) scope.names (cloFrom X.env.cells scope.names [])) s3.heap.objs.size X.env)) (compPost (model X.prog X.w) X.A X.xe none _ (.ref D) s3.heap.objs.size) { s3 with heap := pushCells (s3.heap.push { cls := .type "dict", data := .dict #[] }) scope.names }
  generalize hce : compEnvC scope (cellsFrom (s3.heap.objs.size + 1) scope.names (cloFrom X.env.cells scope.names [])) s3.heap.objs.size X.env = ce at I4 G1 G2 G3 G4 ⊢
  have locs : ce.locals = s3.heap.objs.size := by subst hce; rfl
  generalize hs4 : ({ s3 with heap := pushCells (s3.heap.push { cls := .type "dict", data := .dict #[] }) scope.names } : Shared) = s4 at I4 ⊢
  have st4 : tn 0 s4.heap := T.keep _ _ _ st3 fun b _ o e => by rw [← hs4]; exact pushCells_keeps _ _ _ _ (Heap.get?_push_of_some _ e)
  have stay : ∀ {σ' : St} {H' : Hp} {s' : Shared}, Inv (X.blk s3 H3 scope ce fp) [] σ' H' s' → (∀ b ∈ fp, H' b = none) → ∀ b ∈ fp, FpOk (X.blk s3 H3 scope ce fp) [] H' b := by
    intro σ' H' s' I' hn b hb
    exact ⟨hn b hb, (I'.ok.exf b hb).1, I'.ok.exfs b hb, .inl hb, (fun x c e => (I'.ok.exf b hb).2 x c e), (fun p hp => by simp at hp)⟩
  have loop : codeAny (model X.prog X.w) X.A (.compLoop (.DictComp kx vx [⟨tg, iter, ifs, 0⟩] scope pos) 0 (.ref it) (.ref D) ce) (compPost (model X.prog X.w) X.A X.xe none (EP X pins σ Q) (.ref D) s3.heap.objs.size) s4 := by
    refine compLoop_anyD (fun n s' => ∃ i H', Inv (X.blk s3 H3 scope ce fp) [] (wipe σ (own.map (·.2))) H' s' ∧ tn i s'.heap ∧ (∀ b ∈ fp, H' b = none) ∧ W i n H') ?_ m0 ⟨0, H3, I4, st4, none3, w0⟩
    rintro n s5 ⟨i, H5, I5, st5, n5, w5⟩
    rcases turn i n H5 w5 with ⟨stop, qq⟩ | ⟨go, Nx, next, step⟩
    · refine thnF (T.done (X.blk s3 H3 scope ce fp) rfl rfl rfl hc i [] s5 _ H5 (fun _ _ => False) I5 (stay I5 n5) st5 stop) ?_
      rintro r s6 ⟨rfl, I6⟩
      have I7 : Inv X pins σ H5 s6 := I3.call' (ch := fp) I6.os I6.base I6.hok I6.bare fun b hb => by
        obtain ⟨⟨_, z1, z2, z3, z4, z5⟩, _⟩ := f3 b hb
        exact ⟨z3, z1, z4, z5⟩
      have nC : H5 s3.heap.objs.size = none := by have z := I6.free; rw [show (X.blk s3 H3 scope ce fp).env.locals = s3.heap.objs.size from locs] at z; exact z
      obtain ⟨m, hn, _⟩ := I6.loc
      rw [show (X.blk s3 H3 scope ce fp).env.locals = s3.heap.objs.size from locs] at hn
      refine ⟨m, hn, fun h'' sb => ?_⟩
      obtain ⟨a0, a1, a2, a3, a4, a5⟩ := I3.fpOk (Nat.le_refl _) nC
      exact ⟨.ref D, H5, I7.turned (t' := s6.toks) (fun b o hb e => (sb.2 b hb).trans e) a0 a1 a3 a4 a5, rfl, qq⟩
    · refine thnF (T.item (X.blk s3 H3 scope ce fp) rfl rfl rfl hc i [] s5 _ H5 (fun _ _ => False) I5 (stay I5 n5) st5 go) ?_
      rintro r s6 ⟨u, rfl, h6⟩
      refine thnF h6 fun _ s7 ⟨x, H7, I7, r7, y7, st7, n7⟩ => ?_
      have P7 := I7.pinned (stay I7 n7) (T.obj _ _ st7)
      refine thnF (G1.run _ s7 _ H7 x u _ P7 r7 (step x H7 y7)) fun _ s8 ⟨σ8, H8, I8, hw8, q8⟩ => ?_
      refine thnF (G2.run _ s8 σ8 H8 _ I8 q8) fun b s9 ⟨H9, I9, q9⟩ => ?_
      have close : ∀ {s' : Shared} {H' : Hp}, Inv (X.blk s3 H3 scope ce fp) ([] ++ pinsAt fp s7.heap) σ8 H' s' → Nx H' →
          ∃ m, m < n ∧ ∃ i H', Inv (X.blk s3 H3 scope ce fp) [] (wipe σ (own.map (·.2))) H' s' ∧ tn i s'.heap ∧ (∀ b ∈ fp, H' b = none) ∧ W i m H' := by
        intro s' H' I' nx
        obtain ⟨m', less, w'⟩ := next H' nx
        have pinned : ∀ b ∈ fp, ∀ o, s7.heap.get? b = some o → s'.heap.get? b = some o ∧ H' b = none := fun b hb o e => by
          have z := I'.pin (b, o) (List.mem_append_right _ (List.mem_append_right _ (mem_pinsAt hb e)))
          exact ⟨z.1, z.2.1⟩
        refine ⟨m', less, i + 1, H', (I'.unpinned (pins := [])).weak (by rw [← hw8, wipe_length]) (fun j v e => by rw [← hw8] at e; exact (wipe_some e).1), T.keep _ _ _ st7 (fun b hb o e => (pinned b hb o e).1), (fun b hb => ?_), w'⟩
        obtain ⟨o, e, _⟩ := T.obj _ _ st7 b hb
        exact (pinned b hb o e).2
      cases b with
      | false => exact close I9 q9
      | true =>
        refine thnF (G3.run _ s9 σ8 H9 _ I9 q9) fun z s10 ⟨yk, H10, I10, r10, q10⟩ => ?_
        refine thnF (G4.run _ s10 σ8 H10 _ I10 q10) fun z2 s11 ⟨yv, H11, I11, r11, H12, put, nx⟩ => ?_
        exact put_comp (X := X.blk s3 H3 scope ce fp) room I11 put r10 r11 fun s12 I12 => close I12 nx
  exact codeAny_compStart_dict loop (T.self X.A 0 _ _ _ st4 loop)
end
end L2.Lc
end

-- part LcKx
section
set_option Elab.async false
set_option linter.all false
set_option maxRecDepth 100000
set_option maxHeartbeats 400000
/-! # the layer's rules, the written part told apart from the context -/
namespace L2.Lc
open PySem PySem.Spec PyProof.Rows L2
section
variable {X : Cx} {K : PySem.W.Frag} {ta tb tl : TE} {a b e o l value : Expr} {rest : List Expr} {f : Str} {pos p p2 tpos pos' : Pos} {tg : Expr} {kk k : Nat}
theorem kfld (hK : X.K = K) (he : PE X e ta) (hb : attributeBase e f X.env (eval e X.env) = eval e X.env) : PE X (.Attribute e f pos) (tFld K ta f) := by
  subst hK; exact pe_fld he hb
theorem ksfld (hK : X.K = K) (ha : PE X o ta) (hv : PE X value tb) (hs : swapsWith value (some (.Attribute o f pos')) pos.line X.env = pure false) : PS X (.Assign [.Attribute o f pos'] value pos) (sFld K ta tb f) := by
  subst hK; exact ps_fld ha hv hs
theorem ki_list (hK : X.K = K) (hl : PE X l tl) : PI X tg l (iList K tl) := by
  subst hK; exact pi_list hl
theorem ki_tup (hK : X.K = K) (hl : PE X l tl) : PI X tg l (iTup K tl) := by
  subst hK; exact pi_tup hl
theorem ki_zip (hK : X.K = K) {e2 : Expr} {t : TA} {elts : List Expr} (hg : Gl X "zip") (hm : X.mg "zip" = none) (ha : PA X [e, e2] t)
    (hs : starEach [e, e2] X.env = (false, eval e X.env) :: starEach [e2] X.env := by rfl) (hpl : (backTo pos (starEach [e2] X.env)).any (·.1) = false := by rfl) : PI X (.Tuple elts kk tpos) (.Call (.Name "zip" p) [e, e2] [] pos) (RZ.iZipA K t) := by
  subst hK; exact RZ.pi_zipA hg hm ha hs hpl
theorem ix_listK (hK : X.K = K) : IxR X (rIxL K) := by
  subst hK; exact ix_list
theorem ix_tupK (hK : X.K = K) : IxR X (rIxT K) := by
  subst hK; exact ix_tup
theorem sl_listK (hK : X.K = K) : SlR X (rSlL K) := by
  subst hK; exact sl_list
theorem sl_tupK (hK : X.K = K) : SlR X (rSlA K) := by
  subst hK; exact sl_tupA
theorem op_eqDK (hK : X.K = K) (hu : X.A.units + 64 < cLine) : OpR X (compareOp .Eq) (rEqD K) := by
  subst hK; exact op_eqD hu
theorem op_neDK (hK : X.K = K) (hu : X.A.units + 64 < cLine) : OpR X (compareOp .NotEq) (rNeD K) := by
  subst hK; exact op_neD hu
theorem op_inDK (hK : X.K = K) (hu : X.A.units + 65 < cLine) : OpR X (compareOp .In) (rInD K) := by
  subst hK; exact op_inD hu
theorem op_notInDK (hK : X.K = K) (hu : X.A.units + 65 < cLine) : OpR X (compareOp .NotIn) (rNotInD K) := by
  subst hK; exact op_notInD hu
theorem korT (hK : X.K = K) (ha : PE X a ta) (hb : PE X (.BoolOp .Or (b :: rest) pos) tb) : PE X (.BoolOp .Or (a :: b :: rest) pos) (tOrT K ta tb) := by
  subst hK; exact pe_orT ha hb
theorem krevL (hK : X.K = K) {p1 p3 : Pos} (he : PE X e ta) : PE X (.Subscript e (.Slice none none (some (.UnaryOp .USub (.Constant (.int 1) k p1) p2)) p3) pos) (tRevL K ta) := by
  subst hK; exact pe_revL he
theorem krevT (hK : X.K = K) {p1 p3 : Pos} (he : PE X e ta) : PE X (.Subscript e (.Slice none none (some (.UnaryOp .USub (.Constant (.int 1) k p1) p2)) p3) pos) (tRevT K ta) := by
  subst hK; exact pe_revT he
theorem kgtup (hK : X.K = K) {es : List Expr} {t : TGs} {n : Nat} (hc : X.calm = true) (h : PGs X es t) (hn : (assignEach es X.env).length = n := by rfl) (hst : (assignEach es X.env).findIdx? (·.1) = none := by rfl) : PG X (.Tuple es k pos) (gTup K n t) := by
  subst hK; exact pg_tup hc h hn hst
theorem kbm (hK : X.K = K) {T id : String} {name : Str} {apos cpos : Pos} {es : List Expr} {to : TE} {t : TA} {r : V → List V → Hp → VK → Prop} (pa : PlainAttrs T) (slot : Slot T name id) (hty : typeOf (.builtin id) = pure (.type "method_descriptor")) (hm : MtR X id r) (ho : PE X o to) (ha : PA X (e :: es) t)
    (hbase : attributeBase o name X.env (eval o X.env) = eval o X.env := by rfl)
    (hfew : ((backTo cpos (starEach (e :: es) X.env)).all (fun x => !x.1) && (backToKw cpos (keywordEach [] X.env)).all (fun x => x.1.isSome)
      && decide ((e :: es).length + ([] : List Keyword).length + (if ([] : List Keyword).isEmpty then 0 else 1) < 30)) = true := by rfl)
    (hline : (apos.endLine == cpos.line) = true := by rfl) (hs : starEach (e :: es) X.env = (false, eval e X.env) :: starEach es X.env := by rfl) (hplain : (backTo cpos (starEach es X.env)).any (·.1) = false := by rfl) :
    PE X (.Call (.Attribute o name apos) (e :: es) [] cpos) (tBM K T r to t) := by
  subst hK; exact pe_bm pa slot hty hm ho ha hbase hfew hline hs hplain
end
end L2.Lc
end

-- part LcHead
section
set_option Elab.async false
set_option linter.all false
set_option maxRecDepth 100000
set_option maxHeartbeats 400000
/-! # a law's text and head for Lc -/
namespace L2.Lc
open PySem PySem.Spec PyProof.Rows L2
open He
/-! ### a hook with further facts -/
abbrev AlX : Type := Bool × AlD
def obsX (fa : List Fa) (ex : PySem.W.Frag → Bool) (fn : List DefD) (K : PySem.W.Frag) : AlX := (ex K, obsD fa fn K)
def valX (fn : List DefD) : AlX := (true, valD fn)
def SaysL (fa : List Fa) (ex : PySem.W.Frag → Bool) (fn : List DefD) (K : PySem.W.Frag) : Prop := obsX fa ex fn K = valX fn
def obsXG (n : Nat) (fa : List Fa) (ex : PySem.W.Frag → Bool) (fn : List DefD) (g : Addr → Option Obj) : AlX := obsX fa ex fn (frG g (asD g n))
def hookL (n : Nat) (fa : List Fa) (ex : PySem.W.Frag → Bool) (fn : List DefD) : PySem.W.Hook where
  α := AlX
  obs := fun s => obsXG n fa ex fn s.heap.get?
  val := fun _ => valX fn
  says := fun _ h => ∃ K : PySem.W.Frag, K.In h ∧ SaysL fa ex fn K
  of := fun _ _ e => ⟨_, frG_in, e⟩
  keeps := fun _ _ _ ⟨K, hK, c⟩ k => ⟨K, PySem.W.Frag.In.keeps hK k, c⟩
theorem obsXG_eq {n : Nat} {fa : List Fa} {ex : PySem.W.Frag → Bool} {fn : List DefD} {g : Addr → Option Obj} {s : Shared} (h : ∀ a, g a = s.heap.get? a) : obsXG n fa ex fn g = (hookL n fa ex fn).obs s := by
  have e : g = s.heap.get? := funext h
  rw [e] <;> rfl
section
variable {fa : List Fa} {ex : PySem.W.Frag → Bool} {fn : List DefD} {K : PySem.W.Frag}
theorem SaysL.d (c : SaysL fa ex fn K) : SaysD fa fn K := congrArg (fun z : AlX => z.2) c
theorem SaysL.e (c : SaysL fa ex fn K) : ex K = true := congrArg (fun z : AlX => z.1) c
end
/-! ### defs -/
structure FG (K : PySem.W.Frag) (mg : Str → Option Value) (x : Str) (st : Stmt) : Prop where
  ex : ∃ f fd, FunD K x x (defArgs st) (defBody st) (defScope st) [] [] f fd ∧ mg x = some (.ref f)
/-- a method of the class at C -/
structure FM (K : PySem.W.Frag) (C : Addr) (m qual : Str) (st : Stmt) (dvs : List V) : Prop where
  ex : ∃ f fd, FunD K m qual (defArgs st) (defBody st) (defScope st) dvs [] f fd ∧ PySem.W.findIn K (.ref C) m = some (some (.ref f)) ∧ PySem.W.isFn K (.ref f) = true
def BindN (x qual : Str) (st : Stmt) (ps : List Str) : Prop := ∀ (kV doc pm : Value) (an : Option Addr) (cdv ct : Value) (us : List Value), us.length = ps.length → bindArgs (PySem.W.fnOf x qual (defArgs st) (defBody st) (defScope st) .none kV doc pm an cdv ct) ⟨us, []⟩ = pure (ps.zip us)
section
variable {P : Program} {w : World} {K : PySem.W.Frag} {mg : Str → Option Value} {base : Heap} {k : Nat} {x qual m : Str} {st : Stmt} {ps : List Str} {sp : Sp} {C : Addr}
theorem FG.cal (F : FG K mg x st) (hb : BindN x x st ps) (h : ∀ f fd, FunD K x x (defArgs st) (defBody st) (defScope st) [] [] f fd → FnOk P w K mg base CX0 k f fd ps sp) : Cal P w K mg base x k ps sp := by
  obtain ⟨f, fd, F, g⟩ := F.ex
  exact ⟨f, fd, h f fd F, g, F.kp, F.bindsN hb⟩
theorem FM.own (F : FM K C m qual st []) (hb : BindN m qual st ps) (hc : Cls K C) (hf : PySem.W.selfFirst K C = true) (h : ∀ f fd, FunD K m qual (defArgs st) (defBody st) (defScope st) [] [] f fd → FnOk P w K mg base CX0 k f fd ps sp) : OwnM P w K mg base C m k ps sp := by
  obtain ⟨f, fd, F, g, i⟩ := F.ex
  exact ⟨⟨f, fd, h f fd F, g, i, F.kp, F.bindsN hb⟩, hc, hf⟩
/-- a class whose __init__ keeps the promise; dvs: the defaults that fill up -/
structure MkC (P : Program) (w : World) (K : PySem.W.Frag) (mg : Str → Option Value) (base : Heap) (x : Str) (C : Addr) (k : Nat) (ps : List Str) (dvs : List V) (sp : Sp) : Prop where
  ex : ∃ f fd ds, Mk K C f ∧ FnOk P w K mg base CX0 k f fd ps sp ∧ Vals dvs ds ∧ Binds K fd ps ds
  g : mg x = some (.ref C)
end
section
variable {X : Cx} {x : Str} {k : Nat} {ps : List Str} {sp : Sp} {e : Expr} {es : List Expr} {t : TA} {p pos : Pos} {C : Addr} {dvs : List V}
theorem pe_mkC (c : MkC X.prog X.w X.K X.mg X.base x C k ps dvs sp) (hr : Room (k + 1) X.A) (hg : Gl X x) (ha : PA X (e :: es) t) (hdb : (x == ("__debug__" : Str)) = false := by decide) (he : starEach (e :: es) X.env = (false, eval e X.env) :: starEach es X.env := by rfl)
    (hpl : (backTo pos (starEach es X.env)).any (·.1) = false := by rfl) : PE X (.Call (.Name x p) (e :: es) [] pos) (tMake C sp dvs E0 t) := by
  obtain ⟨f, fd, ds, M, F, hd, b⟩ := c.ex
  exact pe_make M F hr hg c.g b hd pass0 ha hdb he hpl
end
/-! ### an __init__ -/
section
variable {P : Program} {w : World} {K : PySem.W.Frag} {mg : Str → Option Value} {base : Heap} {k : Nat} {x qual : Str} {params : Arguments} {body : List Stmt} {scope : Scope} {dvs : List V} {kws : List (Str × V)} {f : Addr} {fd : FuncData} {N ps : List Str} {C : Addr}
theorem fnI {α : Type} {A : α → List Ent} {pre : α → Prop} {fs : α → List (Str × Ent)} (F : FunD K x qual params body scope dvs kws f fd) (S : FnScope N ps scope) (hA : ∀ x, (A x).length + 1 = ps.length)
    (hd : ∀ (cdv : Value) (B : Around) (outer : List Env) (s : Shared) (H : Hp) (E : XK), Room k (B.deeper (envOfC qual scope s.heap.objs.size f cdv)) → ∃ t, PSs (cxOf CX0 P w K mg base N qual scope f cdv B outer s H E).nox body t ∧
      ∀ (a dx : Addr) x, pre x → StW (mI a C dx) t ((.mk (rAt a) () :: A x).map some ++ List.replicate (N.length - ps.length) none) [] rNon { nx := fun _ st => FsOk (fun _ => none) st (fs x), rt := fun _ _ => False }) : FnOk P w K mg base CX0 (k + 1) f fd ps (spI C A pre fs) := by
  refine F.ok S (fun vs H Q E ⟨M, x, a, dx, ws, e, _, _, _, ao, _⟩ => by subst e; rw [List.length_cons, ao.len]; exact hA x) fun cdv A' outer s H vs Q E hr ⟨M, x, a, dx, ws, e, ha, g, ma, ao, hp, q⟩ => ?_
  subst e
  obtain ⟨t, d, h⟩ := hd cdv A' outer s H E hr
  refine ⟨t, d.nox, ?_⟩
  have hl : (V.ref a :: ws).length = ps.length := by rw [List.length_cons, ao.len]; exact hA x
  unfold start
  rw [hl]
  have st := start_ok (G := hid M H) (vs := V.ref a :: ws) (es := .mk (rAt a) () :: A x) ⟨rfl, ao⟩ (N.length - ps.length)
  refine h a dx x hp M _ H ⟨g, fun b hb => by rw [show b = a from hb]; exact ma, ha⟩ st _ ⟨fun Γ n σ H' p e iv en => ?_, fun _ _ _ _ z => z.elim, fun _ _ _ _ z => z.elim, fun _ _ _ _ z => z.elim⟩
  exact q H' n (fun b o nb hb => e b o nb hb) iv (p.mono fun _ _ z => by cases z)
/-- a class's maker, all parameters given -/
theorem mkC_of {m : Str} {st : Stmt} {sp : Sp} {dvs : List V} (F : FM K C m qual st dvs) (hm : m = "__init__") (hmk : PySem.W.makesIn K C = true) (kp : PySem.W.keepIn K (.ref C) = true) (g : mg x = some (.ref C)) (ws : List V)
    (hb : ∀ f fd, FunD K m qual (defArgs st) (defBody st) (defScope st) dvs [] f fd → ∃ ds, Vals ws ds ∧ Binds K fd ps ds) (h : ∀ f fd, FunD K m qual (defArgs st) (defBody st) (defScope st) dvs [] f fd → FnOk P w K mg base CX0 k f fd ps sp) : MkC P w K mg base x C k ps ws sp := by
  obtain ⟨f, fd, F, hf, hi⟩ := F.ex
  subst hm
  obtain ⟨ds, hd, b⟩ := hb f fd F
  exact ⟨⟨f, fd, ds, ⟨hmk, hf, hi, kp⟩, h f fd F, hd, b⟩, g⟩
end
section
variable {Z : Type} {m : Md Z} {Γ : Gm} {n : Z} {α β γ : Type} {R : Rl α} {S : Rl β} {ta : TE}
/-- the same value as a datum of another kind -/
theorem w_as {Post : β → Z → Prop} (g : α → β) (hg : ∀ H v x, R.r H v x → S.r H v (g x)) (h : EvW m ta Γ n R fun x n1 => Post (g x) n1) : EvW m ta Γ n S Post := fun M σ H c e Q k =>
  h M σ H c e _ fun v x n1 H1 p1 e1 i1 r1 => k v (g x) n1 H1 p1 e1 i1 (hg _ _ _ r1)
end
end L2.Lc
end

-- part LcPen
section
set_option Elab.async false
set_option linter.all false
set_option maxRecDepth 100000
set_option maxHeartbeats 400000
/-! # the pen: [cells, turn, left] -/
namespace L2.Lc
open PySem PySem.Spec PyProof.Rows L2
open Evl (Ex ex_l ex_t)
structure PenI where
  pa : Addr
  ca : Addr
  cells : List Int
def penOk (I : PenI) (st : Int × Int) (H : Hp) : Prop := H I.pa = some (.lst [.ref I.ca, .int st.1, .int st.2]) ∧ H I.ca = some (.lst (I.cells.map V.int)) ∧ I.pa ≠ I.ca
def mPen (I : PenI) : Md (Int × Int) := ⟨penOk I, fun a => a = I.pa ∨ a = I.ca, fun a => a = I.pa, fun _ h => .inl h,
  (fun {n H a} i f => by rcases f with rfl | rfl <;> simp [i.1, i.2.1]), (fun {n H H'} i f => ⟨(f _ (.inl rfl)).trans i.1, (f _ (.inr rfl)).trans i.2.1, i.2.2⟩), (fun {n H a} i f xs => by rw [show a = I.pa from f, i.1]; exact fun z => by cases z)⟩
variable (K : PySem.W.Frag)

def rPen (_ : PySem.W.Frag) (I : PenI) : Rl Unit := ⟨fun G v _ => v = .ref I.pa ∧ G I.ca = some (.lst (I.cells.map V.int)) ∧ I.cells.length ≤ bigN, fun e ⟨h1, h2, h3⟩ => ⟨h1, e _ _ h2, h3⟩⟩
section
variable {K} {I : PenI} {Γ : Gm} {n : Int × Int} {α β : Type} {R : Rl α} {S : Rl β} {i : Nat}
theorem w_pen0 {Post : List Int → Int × Int → Prop} (h : Γ[i]? = some (some (.mk (rPen K I) ()))) (p : Post I.cells n) : EvW (mPen I) (tOp (rIxL K) (tVar i) (tC (.int 0))) Γ n (rLst K rInt) Post := fun M σ H c e Q k => by
  obtain ⟨v, h1, rfl, h2, h3⟩ := e.2 i _ h
  refine ⟨_, h1, _, _, 0, .ref I.ca, rfl, rfl, .of c.inv.1, rfl, k _ I.cells n H p .refl c.inv ⟨I.ca, _, rfl, h2, Al.of_ints _, h3⟩⟩
theorem w_pen1 {Post : Int → Int × Int → Prop} (h : Γ[i]? = some (some (.mk (rPen K I) ()))) (p : Post n.1 n) : EvW (mPen I) (tOp (rIxL K) (tVar i) (tC (.int 1))) Γ n rInt Post := fun M σ H c e Q k => by
  obtain ⟨v, h1, rfl, h2, h3⟩ := e.2 i _ h
  exact ⟨_, h1, _, _, 1, .int n.1, rfl, rfl, .of c.inv.1, rfl, k _ _ n H p .refl c.inv rfl⟩
theorem w_pen2 {Post : Int → Int × Int → Prop} (h : Γ[i]? = some (some (.mk (rPen K I) ()))) (p : Post n.2 n) : EvW (mPen I) (tOp (rIxL K) (tVar i) (tC (.int 2))) Γ n rInt Post := fun M σ H c e Q k => by
  obtain ⟨v, h1, rfl, h2, h3⟩ := e.2 i _ h
  exact ⟨_, h1, _, _, 2, .int n.2, rfl, rfl, .of c.inv.1, rfl, k _ _ n H p .refl c.inv rfl⟩
theorem pen_put {M : Addr → Prop} {H H1 : Hp} {n1 st : Int × Int} {σ : St} (c : Cond (mPen I) M H n) (e : EnvOk (hid M H) σ Γ) (e1 : ExM (mPen I) H H1) (i1 : (mPen I).inv n1 H1) :
    ExM (mPen I) H (upd H1 I.pa (.lst [.ref I.ca, .int st.1, .int st.2])) ∧ (mPen I).inv st (upd H1 I.pa (.lst [.ref I.ca, .int st.1, .int st.2])) ∧ EnvOk (hid M (upd H1 I.pa (.lst [.ref I.ca, .int st.1, .int st.2]))) σ Γ := by
  refine ⟨fun b o nb q => by rw [upd_ne nb]; exact e1 b o nb q, ⟨upd_same, by rw [upd_ne (Ne.symm i1.2.2)]; exact i1.2.1, i1.2.2⟩, (e.mono (e1.hid c.mm)).mono fun b o q => ?_⟩
  obtain ⟨nb, q⟩ := hid_some q
  rw [hid_no nb, upd_ne (fun z => nb (by rw [z]; exact c.mm I.pa rfl))]
  exact q
theorem s_pen1 {te : TE} {D : Dn (Int × Int) β} (h : EvW (mPen I) te Γ n rInt fun y n1 => Γ[i]? = some (some (.mk (rPen K I) ())) ∧ D.nx Γ (y, n1.2)) : StW (mPen I) (tAsg te (gSub (tVar i) (tC (.int 1)) rSetL)) Γ n S D := fun M σ H c e E k =>
  h M σ H c e _ fun v y n1 H1 p1 e1 i1 r1 => by
    have r1 : v = .int y := r1
    subst r1
    obtain ⟨h1, h2⟩ := p1
    obtain ⟨u, q1, rfl, q2, q3⟩ := e.2 i _ h1
    obtain ⟨z1, z2, z3⟩ := pen_put (st := (y, n1.2)) c e e1 i1
    exact ⟨_, q1, _, _, 1, 1, rfl, rfl, i1.1, rfl, k.nx Γ _ σ _ h2 z1 z2 z3⟩
theorem s_pen2 {te : TE} {D : Dn (Int × Int) β} (h : EvW (mPen I) te Γ n rInt fun y n1 => Γ[i]? = some (some (.mk (rPen K I) ())) ∧ D.nx Γ (n1.1, y)) : StW (mPen I) (tAsg te (gSub (tVar i) (tC (.int 2)) rSetL)) Γ n S D := fun M σ H c e E k =>
  h M σ H c e _ fun v y n1 H1 p1 e1 i1 r1 => by
    have r1 : v = .int y := r1
    subst r1
    obtain ⟨h1, h2⟩ := p1
    obtain ⟨u, q1, rfl, q2, q3⟩ := e.2 i _ h1
    obtain ⟨z1, z2, z3⟩ := pen_put (st := (n1.1, y)) c e e1 i1
    exact ⟨_, q1, _, _, 2, 2, rfl, rfl, i1.1, rfl, k.nx Γ _ σ _ h2 z1 z2 z3⟩
/-- a fresh pen, as a law makes it -/

def rPen0 (_ : PySem.W.Frag) : Rl (List Int) := ⟨fun G v l => ∃ a c, v = .ref a ∧ G a = some (.lst [.ref c, .int 0, .int 0]) ∧ G c = some (.lst (l.map V.int)) ∧ l.length ≤ bigN, fun e ⟨a, c, h1, h2, h3, h4⟩ => ⟨a, c, h1, e _ _ h2, e _ _ h3, h4⟩⟩
end
end L2.Lc
end

-- part LcPenUp
section
set_option Elab.async false
set_option linter.all false
set_option maxRecDepth 100000
set_option maxHeartbeats 400000
/-! # a pen is made, and drawn from -/
namespace L2.Lc
open PySem PySem.Spec PyProof.Rows L2
open Evl (Ex ex_l ex_t)
section
variable {K : PySem.W.Frag} {α β γ : Type} {S : Rl β} {Γ : Gm}
theorem w_pen0mk {Z : Type} {m : Md Z} {n : Z} {te : TE} {Post : List Int → Z → Prop} (h : EvW m te Γ n (rLst K rInt) Post) : EvW m (tLst (tCons te (tCons (tC (.int 0)) (tCons (tC (.int 0)) tNil)))) Γ n (rPen0 K) Post := fun M σ H c e Q k =>
  h M σ H c e _ fun v l n1 H1 p1 e1 i1 r1 => by
    obtain ⟨ca, vs, rfl, h2, hA, hl⟩ := r1
    have hv := Al.ints hA
    subst hv
    refine ⟨by show 3 ≤ sizeLine; decide, fun q hq => ?_⟩
    have x := Evl.Ex.new (o := HO.lst [V.ref ca, .int 0, .int 0]) hq
    exact k _ l n1 _ p1 (e1.trans (.of x)) (m.kept i1 x) ⟨q, ca, rfl, new_l hq (c.go e1 i1).good, hid_mono x _ _ h2, hl⟩
/-- what a pen's maker promises -/
abbrev spPen (K : PySem.W.Frag) : Sp := spP (fun l : List Int => [Ent.mk (rSql K rInt) l]) (fun _ => True) (rPen0 K) fun l y => y = l.take 63
theorem s_penStart {i b : Nat} {l : List Int} {E0' : XK} {rest : TS} {D : Dn Unit β} (hb : Γ[b]? = some (some (.mk (rSql K rInt) l)))
    (h : ∀ I : PenI, I.cells = l.take 63 → StW (mPen I) rest (Γ.set i (some (.mk (rPen K I) ()))) (0, 0) S { nx := fun _ _ => False, rt := fun y _ => D.rt y () }) :
    StW pm (tSeq (tAsg (tCall (spPen K) [] E0' (tCons (tVar b) tNil)) (gName i)) rest) Γ () S D := fun M σ H c e E k => by
  obtain ⟨v, g1, g2⟩ := e.2 b _ hb
  obtain ⟨sa, vs, rfl, hs, hA, hl⟩ := g2
  have hv := Al.ints hA
  subst hv
  refine ⟨_, g1, ?_⟩
  show spPen K ([V.ref sa] ++ []) H _ E0'
  obtain ⟨N, gN, hsN, out⟩ : ∃ N : Addr → Prop, Good N H ∧ SqL K (hid N H) sa (l.map V.int) ∧ ∀ a, ¬ N a → H a = none ∨ (∃ xs, H a = some (.tup xs)) ∨ (¬ M a ∧ (H a = some (.lst (l.map V.int)) ∨ ∃ od, H a = some (.frz od (.lst (l.map V.int))))) := by
    have split : ∀ {a : Addr}, (¬ ∃ o, H a = some o ∧ NoT o) → H a = none ∨ ∃ xs, H a = some (.tup xs) := fun {a} na => by
      cases q : H a with
      | none => exact .inl rfl
      | some o =>
        right
        by_cases z : ∃ xs, o = .tup xs
        · obtain ⟨xs, rfl⟩ := z
          exact ⟨xs, rfl⟩
        · exact absurd ⟨o, q, fun xs e => z ⟨xs, e⟩⟩ na
    have dyn : ∀ o, hid M H sa = some o → (o = .lst (l.map V.int) ∨ ∃ od, o = .frz od (.lst (l.map V.int))) → ∃ N : Addr → Prop, Good N H ∧ hid N H sa = some o ∧ ∀ a, ¬ N a → H a = none ∨ (∃ xs, H a = some (.tup xs)) ∨ (¬ M a ∧ (H a = some (.lst (l.map V.int)) ∨ ∃ od, H a = some (.frz od (.lst (l.map V.int))))) := fun o q ho => by
      obtain ⟨nm, q⟩ := hid_some q
      refine ⟨fun a => (∃ o, H a = some o ∧ NoT o) ∧ a ≠ sa, fun a z => z.1, by rw [hid_no fun z => z.2 rfl]; exact q, fun a na => ?_⟩
      by_cases e : a = sa
      · subst e
        refine .inr (.inr ⟨nm, ?_⟩)
        rcases ho with rfl | ⟨od, rfl⟩
        · exact .inl q
        · exact .inr ⟨od, q⟩
      · exact (split fun z => na ⟨z, e⟩).elim .inl fun z => .inr (.inl z)
    rcases hs with (q | ⟨od, q⟩) | q
    · obtain ⟨N, n1, n2, n3⟩ := dyn _ q (.inl rfl)
      exact ⟨N, n1, .inl (.inl n2), n3⟩
    · obtain ⟨N, n1, n2, n3⟩ := dyn _ q (.inr ⟨od, rfl⟩)
      exact ⟨N, n1, .inl (.inr ⟨od, n2⟩), n3⟩
    · exact ⟨fun a => ∃ o, H a = some o ∧ NoT o, fun a z => z, .inr q, fun a na => (split na).elim .inl fun z => .inr (.inl z)⟩
  refine ⟨N, l, gN, ⟨⟨sa, _, rfl, hsN, hA.mono fun _ _ q => q, hl⟩, trivial⟩, trivial, fun v y H' po ex r => ?_⟩
  obtain rfl : y = l.take 63 := po
  obtain ⟨pa, ca, rfl, h2, h3, h4⟩ := r
  obtain ⟨np, h2⟩ := hid_some h2
  obtain ⟨nc, h3⟩ := hid_some h3
  have nInt : ∀ m : List Int, (HO.lst [V.ref ca, .int 0, .int 0] : HO) ≠ .lst (m.map V.int) := fun m z => by
    have z := HO.lst.inj z
    cases m with
    | nil => cases z
    | cons i m => cases (List.cons.inj z).1
  have free : H pa = none := by
    rcases out pa np with z | ⟨xs, z⟩ | ⟨_, z | ⟨od, z⟩⟩
    · exact z
    · have := ex _ _ z
      rw [h2] at this; cases this
    · have := ex _ _ z
      rw [h2] at this
      exact absurd (Option.some.inj this) (nInt l)
    · have := ex _ _ z
      rw [h2] at this; cases this
  have nMp : ¬ M pa := c.good.fresh free
  have nMc : ¬ M ca := by
    rcases out ca nc with z | ⟨xs, z⟩ | ⟨z, _⟩
    · exact c.good.fresh z
    · exact c.good.tup z
    · exact z
  have hne : pa ≠ ca := fun z => by
    rw [← z, h2] at h3
    exact nInt _ (Option.some.inj h3)
  have key := h ⟨pa, ca, l.take 63⟩ rfl
  refine key (fun a => M a ∨ a = pa) _ _ ⟨fun a ma => ?_, fun a z => .inr z, ⟨h2, h3, hne⟩⟩ ?_ E ⟨fun _ _ _ _ z => z.elim, ?_, fun _ _ _ _ z => z.elim, fun _ _ _ _ z => z.elim⟩
  · rcases ma with ma | rfl
    · obtain ⟨o, q1, q2⟩ := c.good a ma
      exact ⟨o, ex a o q1, q2⟩
    · exact ⟨_, h2, fun _ z => by cases z⟩
  · refine (e.mono fun a o q => ?_).set (e := .mk (rPen K ⟨pa, ca, l.take 63⟩) ()) ⟨rfl, ?_, h4⟩
    · obtain ⟨na, q⟩ := hid_some q
      rw [hid_no fun z => z.elim na fun z => by rw [z, free] at q; cases q]
      exact ex a o q
    · show hid _ _ ca = some (.lst ((l.take 63).map V.int))
      rw [hid_no fun z => z.elim nMc fun z => hne z.symm]
      exact h3
  · intro y n' v H2 p e1 i1 r1
    refine k.rt y () v H2 p (fun a o na q => e1 a o (fun z => by rw [show a = pa from z, free] at q; cases q) (ex a o q)) trivial ?_
    exact S.mono (fun a o q => by
      obtain ⟨na, q⟩ := hid_some q
      rw [hid_no fun z => na (.inl z)]; exact q) r1
end
end L2.Lc
end

-- part LcMix
section
set_option Elab.async false
set_option linter.all false
set_option maxRecDepth 100000
set_option maxHeartbeats 400000
/-! # a shuffled copy: two lists of one's own beside the pen -/
namespace L2.Lc
open PySem PySem.Spec PyProof.Rows L2
open Evl (Ex ex_l ex_t)
structure MixI where
  pen : PenI
  la : Addr
  fa : Addr
abbrev MixS (α : Type) : Type := (Int × Int) × List (V × α) × List (V × α)
def mixOk {α : Type} (I : MixI) (st : MixS α) (H : Hp) : Prop := penOk I.pen st.1 H ∧ H I.la = some (.lst (st.2.1.map Prod.fst)) ∧ H I.fa = some (.lst (st.2.2.map Prod.fst)) ∧
  I.la ≠ I.pen.pa ∧ I.la ≠ I.pen.ca ∧ I.fa ≠ I.pen.pa ∧ I.fa ≠ I.pen.ca ∧ I.fa ≠ I.la
def mMix (α : Type) (I : MixI) : Md (MixS α) := ⟨mixOk I, fun a => a = I.pen.pa ∨ a = I.pen.ca ∨ a = I.la ∨ a = I.fa, fun a => a = I.pen.pa ∨ a = I.la ∨ a = I.fa,
  (fun _ h => by rcases h with h | h | h <;> simp [h]),
  (fun {n H a} i f => by rcases f with rfl | rfl | rfl | rfl <;> simp [i.1.1, i.1.2.1, i.2.1, i.2.2.1]),
  (fun {n H H'} i f => ⟨⟨(f _ (.inl rfl)).trans i.1.1, (f _ (.inr (.inl rfl))).trans i.1.2.1, i.1.2.2⟩, (f _ (.inr (.inr (.inl rfl)))).trans i.2.1, (f _ (.inr (.inr (.inr rfl)))).trans i.2.2.1, i.2.2.2⟩),
  (fun {n H a} i f xs => by rcases f with rfl | rfl | rfl <;> simp [i.1.1, i.2.1, i.2.2.1])⟩
section
variable {K : PySem.W.Frag} {α β γ : Type} {I : MixI} {Γ : Gm} {st : MixS α} {R : Rl α} {S : Rl β} {T : Rl γ} {te : TE} {i j : Nat}
/-- what draws does so here, too -/
theorem w_pen {Post : γ → MixS α → Prop} (h : EvW (mPen I.pen) te Γ st.1 T fun x n => Post x (n, st.2)) : EvW (mMix α I) te Γ st T Post := fun M σ H c e Q k =>
  h M σ H ⟨c.good, fun a z => c.mm a (.inl z), c.inv.1⟩ e Q fun v x n' H' p e1 i1 r => by
    have ex : ExM (mMix α I) H H' := fun a o na q => e1 a o (fun z => na (.inl z)) q
    refine k v x (n', st.2) H' p ex ⟨i1, e1 _ _ ?_ c.inv.2.1, e1 _ _ ?_ c.inv.2.2.1, c.inv.2.2.2⟩ r
    · exact fun z => c.inv.2.2.2.1 z
    · exact fun z => c.inv.2.2.2.2.2.1 z
theorem w_penCall {δ : Type} {A : PenI → δ → List Ent} {pre : δ → Int × Int → Prop} {post : δ → Int × Int → γ → Int × Int → Prop} {E : XK} {t : TA} {Post : γ → MixS α → Prop}
    (h : ArW (mMix α I) t Γ st fun es st1 => ∃ x, es = A I.pen x ∧ pre x st1.1 ∧ ∀ y n2, post x st1.1 y n2 → Post y (n2, st1.2)) : EvW (mMix α I) (tCall (spS mPen A pre T post) [] E t) Γ st T Post := fun M σ H c e Q k =>
  h M σ H c e _ fun vs es st1 H1 p1 e1 i1 a1 => by
    obtain ⟨x, rfl, hp, hq⟩ := p1
    rw [List.append_nil]
    have c1 := c.go e1 i1
    refine ⟨I.pen, M, x, st1.1, ⟨c1.good, fun a z => c1.mm a (.inl z), c1.inv.1⟩, a1, hp, fun v y n' H' po x' iv r => ?_⟩
    have ex : ExM (mMix α I) H1 H' := fun a o na q => x' a o (fun z => na (.inl z)) q
    refine k v y (n', st1.2) H' (hq y n' po) (e1.trans ex) ⟨iv, x' _ _ ?_ c1.inv.2.1, x' _ _ ?_ c1.inv.2.2.1, c1.inv.2.2.2⟩ r
    · exact fun z => c1.inv.2.2.2.1 z
    · exact fun z => c1.inv.2.2.2.2.2.1 z
theorem w_mixLen {Post : Int → MixS α → Prop} (h : Γ[i]? = some (some (.mk (rAt I.la) ()))) (p : Post (st.2.1.length : Int) st) : EvW (mMix α I) (tCB (rLenOf K) (tCons (tVar i) tNil)) Γ st rInt Post := fun M σ H c e Q k => by
  obtain ⟨v, h1, h2⟩ := e.2 i _ h
  have h2 : v = .ref I.la := h2
  subst h2
  refine ⟨_, h1, _, st.2.1.length, rfl, .inl ⟨_, .of c.inv.2.1, by simp⟩, k _ _ st H p .refl c.inv rfl⟩
theorem erase_map {α β : Type} (f : α → β) : ∀ (l : List α) (k : Nat), (l.map f).eraseIdx k = (l.eraseIdx k).map f
  | [], _ => rfl
  | _ :: _, 0 => rfl
  | x :: l, k + 1 => by
    show f x :: (l.map f).eraseIdx k = f x :: (l.eraseIdx k).map f
    rw [erase_map f l k]
theorem seq_nat {k n : Nat} (h : k < n) : seqIndex? (k : Int) n = some k := by
  unfold seqIndex?
  simp
  omega
theorem s_mixStep {D : Dn (MixS α) β} (h2 : Γ[i]? = some (some (.mk (rAt I.la) ()))) (h3 : Γ[j]? = some (some (.mk (rAt I.fa) ())))
    (h : EvW (mMix α I) te Γ st rInt fun r st' => ∃ (k : Nat) (p : V × α), r = (k : Int) ∧ k < 2 ^ 60 ∧ st'.2.1[k]? = some p ∧ st'.2.2.length < bigN ∧ D.nx Γ (st'.1, st'.2.1.eraseIdx k, st'.2.2 ++ [p])) :
    StW (mMix α I) (tDrop (tBM K "list" rAppend (tVar j) (tCons (tBM K "list" rPopAt (tVar i) (tCons te tNil)) tNil))) Γ st S D := fun M σ H c e E k => by
  obtain ⟨u, f1, f2⟩ := e.2 j _ h3
  have f2 : u = .ref I.fa := f2
  subst f2
  obtain ⟨v, g1, g2⟩ := e.2 i _ h2
  have g2 : v = .ref I.la := g2
  subst g2
  refine ⟨_, f1, .inl ⟨rfl, _, .of c.inv.2.2.1⟩, _, g1, .inl ⟨rfl, _, .of c.inv.2.1⟩, ?_⟩
  refine h M σ H c e _ fun r x st' H' p e1 i1 rr => ?_
  obtain ⟨kk, pp, rfl, hk, hp, hl, hD⟩ := p
  have rr : r = .int (kk : Int) := rr
  subst rr
  have hlt : kk < st'.2.1.length := (List.getElem?_eq_some_iff.mp hp).1
  have nfl : I.fa ≠ I.la := i1.2.2.2.2.2.2.2
  refine ⟨I.la, _, (kk : Int), kk, pp.1, rfl, rfl, i1.2.1, by omega, by omega, seq_nat (by rw [List.length_map]; exact hlt), by rw [List.getElem?_map, hp]; rfl, ?_⟩
  refine ⟨I.fa, _, pp.1, rfl, rfl, by rw [upd_ne nfl]; exact i1.2.2.1, by rw [List.length_map]; exact Nat.lt_trans hl bigN_line, ?_⟩
  have ha : ∀ a, a ≠ I.la → a ≠ I.fa → upd (upd H' I.la (.lst ((st'.2.1.map Prod.fst).eraseIdx kk))) I.fa (.lst (st'.2.2.map Prod.fst ++ [pp.1])) a = H' a := fun a n1 n2 => by rw [upd_ne n2, upd_ne n1]
  refine k.nx Γ _ σ _ hD (fun a o na q => by rw [ha a (fun z => na (.inr (.inl z))) (fun z => na (.inr (.inr z)))]; exact e1 a o na q) ?_ ((e.mono (e1.hid c.mm)).mono fun a o q => ?_)
  · refine ⟨⟨?_, ?_, i1.1.2.2⟩, ?_, ?_, i1.2.2.2⟩
    · rw [ha _ (Ne.symm i1.2.2.2.1) (Ne.symm i1.2.2.2.2.2.1)]; exact i1.1.1
    · rw [ha _ (Ne.symm i1.2.2.2.2.1) (Ne.symm i1.2.2.2.2.2.2.1)]; exact i1.1.2.1
    · rw [upd_ne (Ne.symm nfl), upd_same, erase_map]
    · rw [upd_same, List.map_append]; rfl
  · obtain ⟨na, q⟩ := hid_some q
    rw [hid_no na, ha a (fun z => na (by rw [z]; exact c.mm I.la (.inr (.inl rfl)))) (fun z => na (by rw [z]; exact c.mm I.fa (.inr (.inr rfl))))]
    exact q
theorem zip_al {P : V → α → Prop} : ∀ {vs : List V} {l : List α}, Al P vs l → (vs.zip l).map Prod.fst = vs ∧ (vs.zip l).map Prod.snd = l ∧ ∀ p ∈ vs.zip l, P p.1 p.2
  | _, _, .nil => ⟨rfl, rfl, fun _ h => by cases h⟩
  | _, _, .cons h t => by
    obtain ⟨h1, h2, h3⟩ := zip_al t
    refine ⟨by simp [h1], by simp [h2], fun p hp => ?_⟩
    rcases List.mem_cons.mp (by simpa using hp) with rfl | hp
    · exact h
    · exact h3 p hp
theorem al_zip {P : V → α → Prop} : ∀ {l : List (V × α)}, (∀ p ∈ l, P p.1 p.2) → Al P (l.map Prod.fst) (l.map Prod.snd)
  | [], _ => .nil
  | p :: l, h => .cons (h p (List.mem_cons_self ..)) (al_zip fun q hq => h q (List.mem_cons_of_mem _ hq))
/-- left, found = list(some), [] -/
theorem s_mixStart {P : PenI} {n : Int × Int} {b : Nat} {l : List α} {rest : TS} {D : Dn (Int × Int) (List α)} (hb : Γ[b]? = some (some (.mk (rLst K R) l)))
    (h : ∀ la fa pl, pl.map Prod.snd = l → StW (mMix α ⟨P, la, fa⟩) rest ((Γ.set i (some (.mk (rAt la) ()))).set j (some (.mk (rAt fa) ()))) (n, pl, []) (rAt fa)
      { nx := fun _ _ => False, rt := fun _ st => st.2.2.Perm pl ∧ D.rt (st.2.2.map Prod.snd) st.1 }) :
    StW (mPen P) (tSeq (tPar i j (tCons (tCB (rListOf K) (tCons (tVar b) tNil)) (tCons (tLst tNil) tNil))) rest) Γ n (rLst K R) D := fun M σ H c e E k => by
  obtain ⟨v, g1, g2⟩ := e.2 b _ hb
  obtain ⟨a, vs, rfl, hs, hA, hl⟩ := g2
  refine ⟨_, g1, a, vs, rfl, .inl (.of (hid_le _ _ hs)), fun la hla => ?_⟩
  refine ⟨Nat.zero_le _, fun fa hfa => ?_⟩
  have nfl : fa ≠ la := fun z => by rw [z, upd_same] at hfa; cases hfa
  have hfa0 : H fa = none := by rw [upd_ne nfl] at hfa; exact hfa
  have x1 : Ex H (upd H la (.lst vs)) := Evl.Ex.new hla
  have x2 : Ex (upd H la (.lst vs)) (upd (upd H la (.lst vs)) fa (.lst [])) := Evl.Ex.new hfa
  have xx := x1.trans x2
  have nd : ∀ {x : Addr}, H x = none → ∀ {o : HO}, H a = some o → x ≠ a := fun h1 _ h2 z => by rw [z, h2] at h1; cases h1
  have ne : ∀ {x y : Addr} {o : HO}, H x = none → H y = some o → x ≠ y := fun h1 h2 z => by rw [z, h2] at h1; cases h1
  obtain ⟨z1, z2, z3⟩ := zip_al hA
  refine ⟨_, _, rfl, ?_⟩
  have key := h la fa (vs.zip l) z2
  refine key (fun x => M x ∨ x = la ∨ x = fa) _ _ ⟨?_, ?_, ?_⟩ ?_ E ⟨fun _ _ _ _ z => z.elim, ?_, fun _ _ _ _ z => z.elim, fun _ _ _ _ z => z.elim⟩
  · intro x hx
    rcases hx with hx | rfl | rfl
    · exact c.good.ex xx x hx
    · exact ⟨_, by rw [upd_ne (Ne.symm nfl), upd_same], fun _ z => by cases z⟩
    · exact ⟨_, upd_same, fun _ z => by cases z⟩
  · intro x hx
    rcases hx with hx | rfl | rfl
    · exact .inl (c.mm x hx)
    · exact .inr (.inl rfl)
    · exact .inr (.inr rfl)
  · refine ⟨⟨xx _ _ c.inv.1, xx _ _ c.inv.2.1, c.inv.2.2⟩, ?_, ?_, ne hla c.inv.1, ne hla c.inv.2.1, ne hfa0 c.inv.1, ne hfa0 c.inv.2.1, nfl⟩
    · show upd (upd H la (.lst vs)) fa (.lst []) la = some (.lst ((vs.zip l).map Prod.fst))
      rw [upd_ne (Ne.symm nfl), upd_same, z1]
    · exact upd_same
  · refine ((e.mono fun x o q => ?_).set (e := .mk (rAt la) ()) rfl).set (e := .mk (rAt fa) ()) rfl
    obtain ⟨nx, q⟩ := hid_some q
    rw [hid_no fun z => z.elim nx fun z => z.elim (fun z => ne hla q z.symm) fun z => ne hfa0 q z.symm]
    exact xx x o q
  · rintro ⟨⟩ st' v H' ⟨p1, p2⟩ e1 i1 r1
    have r1 : v = .ref fa := r1
    subst r1
    have eP : ExM (mPen P) H H' := fun x o nx q => e1 x o (fun z => z.elim nx fun z => z.elim (fun z => ne hla q z.symm) fun z => ne hfa0 q z.symm) (xx x o q)
    refine k.rt _ st'.1 _ H' p2 eP i1.1 ⟨fa, _, rfl, by rw [hid_no (c.good.fresh hfa0)]; exact i1.2.2.1, ?_, ?_⟩
    · refine al_zip fun p hp => R.mono (eP.hid c.mm) (z3 p ?_)
      exact p1.mem_iff.mp hp
    · rw [List.length_map, p1.length_eq, List.length_zip, hA.len, Nat.min_self]; exact hl
end
end L2.Lc
end

-- part LcKw
section
set_option Elab.async false
set_option linter.all false
set_option maxRecDepth 100000
set_option maxHeartbeats 400000
/-! # calls whose arguments are all told by name -/
namespace L2.Lc
open PySem PySem.Spec PyProof.Rows L2
def tCallKw (m : Nat) (sp : Sp) (gV : List V → List V) (E : XK) (tk : TA) : TE := fun σ H Q => tk σ H fun zs H2 => zs.length = m ∧ sp (gV zs) H2 Q E
section
variable {X : Cx} {CX : CXT} {k : Nat} {f : Addr} {fd : FuncData} {ps ks : List Str} {sp : Sp} {E : XK} {x : Str} {p pos : Pos} {kws : List Keyword} {tk : TA} {g : List Value → List Value} {gV : List V → List V}
theorem pe_callKw (F : FnOk X.prog X.w X.K X.mg X.base CX k f fd ps sp) (hr : Room k X.A) (hg : Gl X x) (hm : X.mg x = some (.ref f)) (hk : PySem.W.keepIn X.K (.ref f) = true) (hb : KBn X.K fd ps 0 ks (fun _ ws => g ws) (fun _ zs => gV zs)) (hx : Passes CX X E)
    (hkw : PK X kws tk) (hall : (backToKw pos (keywordEach kws X.env)).all (·.1.isSome) = true := by rfl) (hks : (backToKw pos (keywordEach kws X.env)).filterMap (·.1) = ks := by rfl)
    (hdb : (x == ("__debug__" : Str)) = false := by decide) (hpl : ((backTo pos (starEach [] X.env)).any (·.1) || (backToKw pos (keywordEach kws X.env)).any (·.1.isNone)) = false := by rfl) :
    PE X (.Call (.Name x p) [] kws pos) (tCallKw ks.length sp gV E tk) := by
  refine ⟨fun pins s σ H Q I h => wpAny_Call_Name_kw (ld_glob I hg hm ?_ hdb)⟩
  refine PySem.W.callWith_KW0 (h₀ := X.base) I.ok.mod.kin hk hall (thn (hkw.run pos pins s σ H _ I h) fun ws s2 ⟨zs, H2, I2, rz, l2, q2⟩ => ⟨I2.kIn, ?_⟩) hpl
  rw [hks]
  exact run_fnN (us := []) (vs := []) F hr hb hx I2 .nil rz rfl l2 q2
end
structure CalK (P : Program) (w : World) (K : PySem.W.Frag) (mg : Str → Option Value) (base : Heap) (x : Str) (k : Nat) (ps ks : List Str) (gV : List V → List V) (sp : Sp) : Prop where
  ex : ∃ (f : Addr) (fd : FuncData) (g : List Value → List Value), FnOk P w K mg base CX0 k f fd ps sp ∧ mg x = some (.ref f) ∧ PySem.W.keepIn K (.ref f) = true ∧ KBn K fd ps 0 ks (fun _ ws => g ws) (fun _ zs => gV zs)
section
variable {X : Cx} {x : Str} {k : Nat} {ps ks : List Str} {sp : Sp} {p pos : Pos} {kws : List Keyword} {tk : TA} {gV : List V → List V}
theorem pe_calK (c : CalK X.prog X.w X.K X.mg X.base x k ps ks gV sp) (hr : Room k X.A) (hg : Gl X x) (hkw : PK X kws tk) (hall : (backToKw pos (keywordEach kws X.env)).all (·.1.isSome) = true := by rfl) (hks : (backToKw pos (keywordEach kws X.env)).filterMap (·.1) = ks := by rfl)
    (hdb : (x == ("__debug__" : Str)) = false := by decide) (hpl : ((backTo pos (starEach [] X.env)).any (·.1) || (backToKw pos (keywordEach kws X.env)).any (·.1.isNone)) = false := by rfl) : PE X (.Call (.Name x p) [] kws pos) (tCallKw ks.length sp gV E0 tk) := by
  obtain ⟨f, fd, g, F, gm, kp, b⟩ := c.ex
  exact pe_callKw F hr hg gm kp b pass0 hkw hall hks hdb hpl
end
section
variable {P : Program} {w : World} {K : PySem.W.Frag} {mg : Str → Option Value} {base : Heap} {k : Nat} {x : Str} {st : Stmt} {ps ks : List Str} {sp : Sp}
theorem FG.calK (F : FG K mg x st) {gV : List V → List V} (g : List Value → List Value) (hrel : ∀ {zs : List V} {ws : List Value}, Vals zs ws → Vals (gV zs) (g ws))
    (hb : ∀ (kV doc pm : Value) (an : Option Addr) (cdv ct : Value) (ws : List Value), ws.length = ks.length → bindArgs (PySem.W.fnOf x x (defArgs st) (defBody st) (defScope st) .none kV doc pm an cdv ct) ⟨[], ks.zip ws⟩ = pure (ps.zip (g ws)))
    (h : ∀ f fd, FunD K x x (defArgs st) (defBody st) (defScope st) [] [] f fd → FnOk P w K mg base CX0 k f fd ps sp) : CalK P w K mg base x k ps ks gV sp := by
  obtain ⟨f, fd, F, gm⟩ := F.ex
  refine ⟨f, fd, g, h f fd F, gm, F.kp, ⟨fun s us ws X l1 l2 => ?_, fun _ r => hrel r⟩⟩
  have hu : us = [] := List.length_eq_zero_iff.mp l1
  subst hu
  obtain ⟨oc, od, dV, kV, doc, pm, an, cdv, ct, osl, rfl, lk, hcd, hD, hK⟩ := F.ex
  rcases hD with ⟨_, rfl⟩ | ⟨e, _⟩
  · exact .of_eq (hb kV doc pm an cdv ct ws l2)
  · exact absurd rfl e
end
theorem argsApp {G : Hp} : ∀ {vs ws : List V} {es fs : List Ent}, ArgsOk G vs es → ArgsOk G ws fs → ArgsOk G (vs ++ ws) (es ++ fs)
  | [], _, [], _, _, h => h
  | _ :: _, _, _ :: _, _, h1, h2 => ⟨h1.1, argsApp h1.2 h2⟩
  | [], _, _ :: _, _, h, _ => h.elim
  | _ :: _, _, [], _, h, _ => h.elim
theorem argsRev {G : Hp} : ∀ {vs : List V} {es : List Ent}, ArgsOk G vs es → ArgsOk G vs.reverse es.reverse
  | [], [], _ => trivial
  | v :: vs, e :: es, h => by
    rw [List.reverse_cons, List.reverse_cons]
    exact argsApp (argsRev h.2) ⟨h.1, trivial⟩
  | [], _ :: _, h => h.elim
  | _ :: _, [], h => h.elim
section
variable {Z : Type} {m : Md Z} {Γ : Gm} {n : Z} {α γ : Type} {T : Rl γ}
theorem w_callK {A : α → List Ent} {pre : α → Prop} {post : α → γ → Prop} {E : XK} {t : TA} {j : Nat} {gV : List V → List V} {Post : γ → Z → Prop} (gE : List Ent → List Ent) (hg : ∀ {G : Hp} {vs : List V} {es : List Ent}, ArgsOk G vs es → ArgsOk G (gV vs) (gE es))
    (h : ArW m t Γ n fun es n1 => es.length = j ∧ ∃ x, gE es = A x ∧ pre x ∧ ∀ y, post x y → Post y n1) : EvW m (tCallKw j (spP A pre T post) gV E t) Γ n T Post := fun M σ H c e Q k =>
  h M σ H c e _ fun vs es n1 H1 p1 e1 i1 a1 => by
    obtain ⟨hl, x, hx, hp, hq⟩ := p1
    exact ⟨a1.len.trans hl, M, x, (c.go e1 i1).good, by rw [← hx]; exact hg a1, hp, fun v y H' po x' r => k v y n1 H' (hq y po) (e1.trans (.of x')) (m.kept i1 x') r⟩
end
end L2.Lc
end

-- part LcId
section
set_option Elab.async false
set_option linter.all false
set_option maxRecDepth 100000
set_option maxHeartbeats 400000
/-! # which object it is; lists or tuples -/
namespace L2.Lc
open PySem PySem.Spec PyProof.Rows L2
open Evl (Ex ex_l ex_t)
/-- a datum, and which value bears it -/
def rId {α : Type} (R : Rl α) : Rl (V × α) := ⟨fun G v x => v = x.1 ∧ R.r G v x.2, fun e h => ⟨h.1, R.mono e h.2⟩⟩
/-- a list or a tuple -/
def rSq (K : PySem.W.Frag) {α : Type} (R : Rl α) : Rl (List α) := ⟨fun G v l => (rLst K R).r G v l ∨ (rTup K R).r G v l, fun e h => h.elim (fun h => .inl ((rLst K R).mono e h)) fun h => .inr ((rTup K R).mono e h)⟩
section
variable {Z : Type} {m : Md Z} {Γ : Gm} {n : Z} {α β γ : Type} {R : Rl α} {S : Rl β} {K : PySem.W.Frag} {ta : TE}
theorem w_id {Post : V × α → Z → Prop} (h : EvW m ta Γ n R fun x n1 => ∀ u, Post (u, x) n1) : EvW m ta Γ n (rId R) Post := fun M σ H c e Q k =>
  h M σ H c e _ fun v x n1 H1 p1 e1 i1 r1 => k v (v, x) n1 H1 (p1 v) e1 i1 ⟨rfl, r1⟩
theorem w_of {Post : α → Z → Prop} (h : EvW m ta Γ n (rId R) fun x n1 => Post x.2 n1) : EvW m ta Γ n R Post := w_as (R := rId R) (fun x : V × α => x.2) (fun _ _ _ r => And.right r) h
theorem w_sqL {Post : List α → Z → Prop} (h : EvW m ta Γ n (rLst K R) Post) : EvW m ta Γ n (rSq K R) Post := w_as (fun x => x) (fun _ _ _ r => .inl r) h
theorem w_sqT {Post : List α → Z → Prop} (h : EvW m ta Γ n (rTup K R) Post) : EvW m ta Γ n (rSq K R) Post := w_as (fun x => x) (fun _ _ _ r => .inr r) h
theorem i_mono {wi : TI} {Post Post' : List α → Z → Prop} (h : ItW m wi Γ n R Post) (w : ∀ l n, Post l n → Post' l n) : ItW m wi Γ n R Post' := fun M σ H c e Y k => h M σ H c e Y fun J l n' H' p => k J l n' H' (w l n' p)
end
section
variable {P : Program} {w : World} {K : PySem.W.Frag} {mg : Str → Option Value} {base : Heap} {k : Nat} {f : Addr} {fd : FuncData} {x : Str}
theorem fnSq {α γ : Type} {R : Rl α} {T : Rl γ} {pre : List α → Prop} {post : List α → γ → Prop} (h1 : FnOk P w K mg base CX0 k f fd [x] (spP (fun l => [Ent.mk (rLst K R) l]) pre T post)) (h2 : FnOk P w K mg base CX0 k f fd [x] (spP (fun l => [Ent.mk (rTup K R) l]) pre T post)) :
    FnOk P w K mg base CX0 k f fd [x] (spP (fun l => [Ent.mk (rSq K R) l]) pre T post) := by
  refine ⟨fun vs H Q E ⟨M, y, _, a, _⟩ => by rw [a.len]; rfl, fun A outer s H args us vs Q E hr he hb hv hs => ?_⟩
  obtain ⟨M, y, g, a, hp, q⟩ := hs
  obtain ⟨v, rfl, r⟩ := args1 a
  rcases (show (rLst K R).r (hid M H) v y ∨ (rTup K R).r (hid M H) v y from r) with r | r
  · exact h1.run A outer s H args us [v] Q E hr he hb hv ⟨M, y, g, ⟨r, trivial⟩, hp, q⟩
  · exact h2.run A outer s H args us [v] Q E hr he hb hv ⟨M, y, g, ⟨r, trivial⟩, hp, q⟩
end
end L2.Lc
end

-- part LcDT
section
set_option Elab.async false
set_option linter.all false
set_option maxRecDepth 100000
set_option maxHeartbeats 400000
/-! # dicts whose keys are tuples of integers -/
namespace L2.Lc
open PySem PySem.Spec PyProof.Rows L2
open Evl (Ex ex_l ex_t)
/-- a tuple of integers that is tracked -/
def rTk : Rl (List Int) := ⟨fun G v l => ∃ a, v = .ref a ∧ G a = some (.tup (l.map V.int)) ∧ l.length ≤ bigN, fun e ⟨a, h1, h2, h3⟩ => ⟨a, h1, e _ _ h2, h3⟩⟩
def putP {γ : Type} (acc : List (List Int × γ)) (k : List Int) (v : γ) : List (List Int × γ) := if (acc.any fun p => decide (p.1 = k)) = true then acc.map (fun p => if p.1 = k then (p.1, v) else p) else acc ++ [(k, v)]
def getP {γ : Type} (acc : List (List Int × γ)) (k : List Int) : Option γ := (acc.find? fun p => decide (p.1 = k)).map (·.2)
abbrev kOf (ns : List Int) : List Key := ns.map Sum.inl
theorem kOf_inj {a b : List Int} (h : kOf a = kOf b) : a = b := by
  induction a generalizing b with
  | nil => cases b with
    | nil => rfl
    | cons _ _ => cases h
  | cons x a ih => cases b with
    | nil => cases h
    | cons y b =>
      obtain ⟨h1, h2⟩ := List.cons.inj h
      rw [Sum.inl.inj h1, ih h2]
theorem kOf_dec (a b : List Int) : decide (kOf a = kOf b) = decide (a = b) := decide_eq_decide.mpr ⟨kOf_inj, fun h => by rw [h]⟩
theorem kOf_v (ns : List Int) : (kOf ns).map kV = ns.map V.int := by
  rw [List.map_map]; rfl
section
variable {β : Type}
abbrev toKv (d : List Int × V × β) : List Key × V := (kOf d.1, d.2.1)
abbrev toDt (d : List Int × V × β) : List Int × β := (d.1, d.2.2)
theorem put_kv (ds : List (List Int × V × β)) (k : List Int) (v : V) (b : β) : putK (ds.map toKv) (kOf k) v = (putP ds k (v, b)).map toKv := by
  unfold putK putP
  rw [List.any_map]
  have e : ((fun kv : List Key × V => decide (kv.1 = kOf k)) ∘ toKv) = fun p : List Int × V × β => decide (p.1 = k) := funext fun p => kOf_dec _ _
  rw [e]
  split
  · rw [List.map_map, List.map_map]
    apply List.map_congr_left
    intro p _
    show (if kOf p.1 = kOf k then (kOf p.1, v) else (kOf p.1, p.2.1)) = toKv (if p.1 = k then (p.1, (v, b)) else p)
    by_cases h : p.1 = k
    · rw [if_pos h, if_pos (by rw [h])]
    · rw [if_neg h, if_neg fun z => h (kOf_inj z)]
  · rw [List.map_append]; rfl
theorem put_dt (ds : List (List Int × V × β)) (k : List Int) (v : V) (b : β) : (putP ds k (v, b)).map toDt = putP (ds.map toDt) k b := by
  unfold putP
  rw [List.any_map]
  have e : ((fun p : List Int × β => decide (p.1 = k)) ∘ toDt) = fun p : List Int × V × β => decide (p.1 = k) := rfl
  rw [e]
  split
  · rw [List.map_map, List.map_map]
    apply List.map_congr_left
    intro p _
    show toDt (if p.1 = k then (p.1, (v, b)) else p) = if p.1 = k then (p.1, b) else (p.1, p.2.2)
    by_cases h : p.1 = k
    · rw [if_pos h, if_pos h]
    · rw [if_neg h, if_neg h]
  · rw [List.map_append]; rfl
theorem put_mem {γ : Type} {acc : List (List Int × γ)} {k : List Int} {v : γ} {p : List Int × γ} (h : p ∈ putP acc k v) : p ∈ acc ∨ p = (k, v) := by
  unfold putP at h
  split at h
  · obtain ⟨q, hq, rfl⟩ := List.mem_map.mp h
    by_cases z : q.1 = k
    · rw [if_pos z]; exact .inr (by rw [z])
    · rw [if_neg z]; exact .inl hq
  · rcases List.mem_append.mp h with h | h
    · exact .inl h
    · exact .inr (List.mem_singleton.mp h)
theorem put_len {γ : Type} (acc : List (List Int × γ)) (k : List Int) (v : γ) : (putP acc k v).length ≤ acc.length + 1 := by
  unfold putP
  split
  · rw [List.length_map]; omega
  · simp
theorem val_kv (ds : List (List Int × V × β)) (k : List Int) : valV (ds.map toKv) (kOf k) = (getP ds k).map (·.1) := by
  unfold valV getP
  rw [List.find?_map]
  have e : ((fun kv : List Key × V => decide (kv.1 = kOf k)) ∘ toKv) = fun p : List Int × V × β => decide (p.1 = k) := funext fun p => kOf_dec _ _
  rw [e]
  cases List.find? (fun p : List Int × V × β => decide (p.1 = k)) ds <;> rfl
theorem get_dt (ds : List (List Int × V × β)) (k : List Int) : getP (ds.map toDt) k = (getP ds k).map (·.2) := by
  unfold getP
  rw [List.find?_map]
  have e : ((fun p : List Int × β => decide (p.1 = k)) ∘ toDt) = fun p : List Int × V × β => decide (p.1 = k) := rfl
  rw [e]
  cases List.find? (fun p : List Int × V × β => decide (p.1 = k)) ds <;> rfl
theorem get_mem {γ : Type} {acc : List (List Int × γ)} {k : List Int} {v : γ} (h : getP acc k = some v) : (k, v) ∈ acc := by
  unfold getP at h
  cases q : List.find? (fun p : List Int × γ => decide (p.1 = k)) acc with
  | none => rw [q] at h; cases h
  | some p =>
    rw [q] at h
    cases h
    have h1 := List.find?_some q
    have h1 : p.1 = k := of_decide_eq_true h1
    rw [← h1]
    exact List.mem_of_find?_eq_some q
/-- a dict whose keys are tuples of integers -/
def rDT (S : Rl β) : Rl (List (List Int × β)) := ⟨fun G v l => ∃ (a : Addr) (ds : List (List Int × V × β)), v = .ref a ∧ G a = some (.dT (ds.map toKv)) ∧ l = ds.map toDt ∧ (∀ d ∈ ds, S.r G d.2.1 d.2.2) ∧ l.length ≤ bigN,
  fun e ⟨a, ds, h1, h2, h3, h4, h5⟩ => ⟨a, ds, h1, e _ _ h2, h3, fun d hd => S.mono e (h4 d hd), h5⟩⟩
end
section
variable {Z : Type} {m : Md Z} {Γ : Gm} {n : Z} {α β γ : Type} {R : Rl α} {S : Rl β} {K : PySem.W.Frag} {ta tb : TE}
/-- {f(x): g(x) for x in ..}, nothing changes -/
theorem w_dcT {wi : TI} {g : TG} {tk tv : TE} {vs is : List Nat} {Post : List (List Int × β) → Z → Prop} (f : α → List Int) (gg : α → β)
    (h : ItW m wi Γ n R fun l n1 => l.length ≤ bigN ∧ (∀ x ∈ l, TgI is g R x (wg Γ vs) fun Γ2 => EvW m tk Γ2 n1 rTk fun y n2 => y = f x ∧ n2 = n1 ∧ EvW m tv Γ2 n1 S fun z n3 => z = gg x ∧ n3 = n1) ∧
      Post (l.foldl (fun acc x => putP acc (f x) (gg x)) []) n1) (hs : ∀ i ∈ is, i ∈ vs := by decide) : EvW m (tDcT wi g tYes tk tv vs) Γ n (rDT S) Post := fun M σ H c e Q k =>
  h M σ H c e _ fun J l n1 H1 ⟨hl, pt, pd⟩ e1 i1 ok => by
    intro D hD
    have c1 := c.go e1 i1
    have nD : ¬ m.foot D := fun z => m.live i1 z hD
    have nDc : ¬ m.chg D := fun z => nD (m.sub D z)
    have nDM : ¬ M D := c1.good.fresh hD
    let acc : Nat → List (List Int × β) := fun i => (l.take i).foldl (fun acc x => putP acc (f x) (gg x)) []
    let W : Nat → Nat → Hp → Prop := fun i k H => k = l.length - i ∧ i ≤ l.length ∧ ∃ ds : List (List Int × V × β), H D = some (.dT (ds.map toKv)) ∧ ds.map toDt = acc i ∧ ds.length ≤ i ∧ (∀ d ∈ ds, S.r (hid (fun a => M a ∨ a = D) H) d.2.1 d.2.2) ∧ m.inv n1 H ∧ ∀ a o, ¬ m.chg a → a ≠ D → H1 a = some o → H a = some o
    refine ⟨W, ⟨l.length, by simp, Nat.zero_le _, [], upd_same, rfl, Nat.le_refl _, (fun _ h => by cases h), m.frame i1 (fun a fa => upd_ne fun z => nD (z ▸ fa)), (fun a o _ hb q => by rw [upd_ne hb]; exact q)⟩, ?_⟩
    rintro i kk H2 ⟨rfl, hi, ds, hacc, hdt, hlen, hS, hinv, hkeep⟩
    have x12 : Ex (hid M H1) (hid (fun a => M a ∨ a = D) H2) := fun a o q => by
      obtain ⟨na, q⟩ := hid_some q
      have nd : a ≠ D := fun z => by rw [z, hD] at q; cases q
      rw [hid_no (fun z => z.elim na nd)]
      exact hkeep a o (fun z => na (c.mm a z)) nd q
    have g2 : Good (fun a => M a ∨ a = D) H2 := fun a ma => by
      rcases ma with ma | rfl
      · by_cases z : m.chg a
        · exact Md.has hinv z
        · obtain ⟨o, q, q2⟩ := c1.good a ma
          exact ⟨o, hkeep a o z (fun z => by rw [z, hD] at q; cases q) q, q2⟩
      · exact ⟨_, hacc, fun _ z => by cases z⟩
    have it := ok _ H2 g2 x12
    by_cases hlt : i < l.length
    · right
      obtain ⟨x, hx⟩ : ∃ x, l[i]? = some x := ⟨l[i], List.getElem?_eq_getElem hlt⟩
      obtain ⟨go, yld⟩ := it.1 i x hx
      obtain ⟨tk', _⟩ := take_get hx
      refine ⟨go, W (i + 1) (l.length - (i + 1)), fun H' w => ⟨_, by omega, w⟩, fun v H3 hy => ?_⟩
      obtain ⟨ey, ry⟩ := yld v H3 hy
      have hinv3 := m.kept hinv ey
      have g3 := g2.ex ey
      have c3 : Cond m (fun a => M a ∨ a = D) H3 n1 := ⟨g3, fun a z => .inl (c.mm a z), hinv3⟩
      have en3 : EnvOk (hid (fun a => M a ∨ a = D) H3) (wipe σ vs) (wg Γ vs) := ((e.mono (e1.hid c.mm)).mono (fun a o q => hid_mono ey a o (x12 a o q))).wipe vs
      have tg := pt x (List.mem_of_getElem? hx)
      refine tg _ _ H3 v en3 ry _ fun σ4 Γ4 t4 en4 up => ⟨up.wipe hs, ?_⟩
      show tk σ4 H3 _
      refine t4 _ σ4 H3 c3 en4 _ fun u y n5 H5 ⟨py, pn, pv⟩ e5 i5 ry5 => ?_
      subst py
      have c5 := c3.go e5 i5
      rw [pn] at c5 i5
      refine pv _ σ4 H5 c5 (en4.mono (e5.hid c3.mm)) _ fun u2 z n6 H6 ⟨pz, pn6⟩ e6 i6 rz => ?_
      subst pz
      rw [pn6] at i6
      have d6 : H6 D = some (.dT (ds.map toKv)) := e6 D _ nDc (e5 D _ nDc (ey D _ hacc))
      obtain ⟨b, hub, hb, _⟩ := rTk.mono (e6.hid c5.mm) ry5
      have hub : u = .ref b := hub
      subst hub
      have hb6 : H6 b = some (.tup ((kOf (f x)).map kV)) := by rw [kOf_v]; exact hid_le _ _ hb
      refine ⟨_, DPut.t d6 hb6 (by rw [List.length_map]; exact Nat.lt_of_le_of_lt (by omega) bigN_line), rfl, hlt, putP ds (f x) (u2, gg x), ?_, ?_, ?_, ?_, ?_, ?_⟩
      · rw [upd_same, put_kv ds (f x) u2 (gg x)]
      · rw [put_dt, hdt]
        show putP ((l.take i).foldl _ []) (f x) (gg x) = (l.take (i + 1)).foldl _ []
        rw [tk', List.foldl_append]
        rfl
      · have := put_len ds (f x) (u2, gg x)
        omega
      · have hh : hid (fun a => M a ∨ a = D) (upd H6 D (.dT (putK (ds.map toKv) (kOf (f x)) u2))) = hid (fun a => M a ∨ a = D) H6 := by
          funext a
          by_cases q : M a ∨ a = D
          · rw [hid_yes q, hid_yes q]
          · rw [hid_no q, hid_no q]; exact upd_ne fun z => q (.inr z)
        intro d hd
        rw [hh]
        rcases put_mem hd with hd | rfl
        · exact S.mono (fun a o q => e6.hid c5.mm a o (e5.hid c3.mm a o (hid_mono ey a o q))) (hS d hd)
        · exact rz
      · exact m.frame i6 fun a fa => upd_ne fun z => nD (z ▸ fa)
      · intro a o nc nd q
        rw [upd_ne nd]
        exact e6 a o nc (e5 a o nc (ey a o (hkeep a o nc nd q)))
    · left
      have hie : i = l.length := by omega
      subst hie
      refine ⟨it.2, ?_⟩
      have ha : acc l.length = l.foldl (fun acc x => putP acc (f x) (gg x)) [] := by
        show (l.take l.length).foldl _ [] = _
        rw [List.take_length]
      refine k _ _ n1 H2 (ha ▸ pd) (fun a o nc q => ?_) hinv ⟨D, ds, rfl, by rw [hid_no nDM]; exact hacc, hdt.symm, fun d hd => S.mono (fun a o q => by
        obtain ⟨n1', q⟩ := hid_some q
        rw [hid_no fun z => n1' (.inl z)]; exact q) (hS d hd), by rw [← hdt, List.length_map]; omega⟩
      by_cases z : a = D
      · subst z
        have := e1 a o nc q
        rw [hD] at this; cases this
      · exact hkeep a o nc z (e1 a o nc q)
/-- d[k] -/
theorem w_getT {Post : β → Z → Prop} (h : EvW m ta Γ n (rDT S) fun l n1 => EvW m tb Γ n1 rTk fun key n2 => ∃ b, getP l key = some b ∧ Post b n2) : EvW m (tDGet ta tb) Γ n S Post := fun M σ H c e Q k =>
  h M σ H c e _ fun v l n1 H1 p1 e1 i1 r1 => p1 M σ H1 (c.go e1 i1) (e.mono (e1.hid c.mm)) _ fun u key n2 H2 p2 e2 i2 r2 => by
    obtain ⟨b, hb, p⟩ := p2
    obtain ⟨a, ds, rfl, h2, rfl, h4, _⟩ := (rDT S).mono (e2.hid c.mm) r1
    obtain ⟨q, rfl, h5, _⟩ := r2
    rw [get_dt] at hb
    cases hq : getP ds key with
    | none => rw [hq] at hb; cases hb
    | some d =>
      rw [hq] at hb
      cases hb
      refine ⟨a, d.1, rfl, ?_, k d.1 d.2 n2 H2 p (e1.trans e2) i2 (h4 _ (get_mem hq))⟩
      have := DGet.t (k := kOf key) (hid_le _ _ h2) (by rw [kOf_v]; exact hid_le _ _ h5)
      rw [val_kv, hq] at this
      exact this
/-- a built-in's call whose answer is not just one -/
def CbP {γ : Type} (r : List V → Hp → VK → Prop) (es : List Ent) (T : Rl γ) (Φ : γ → Prop) : Prop :=
  ∀ (M : Addr → Prop) (H : Hp) (vs : List V), Good M H → ArgsOk (hid M H) vs es → ∀ Q : VK, (∀ z H' y, Φ y → Ex H H' → T.r (hid M H') z y → Q z H') → r vs H Q
theorem w_cbP {T : Rl γ} {r : List V → Hp → VK → Prop} {t : TA} {Post : γ → Z → Prop} (h : ArW m t Γ n fun es n1 => ∃ Φ, CbP r es T Φ ∧ ∀ y, Φ y → Post y n1) : EvW m (tCB r t) Γ n T Post := fun M σ H c e Q k =>
  h M σ H c e _ fun vs es n1 H1 p1 e1 i1 a1 => by
    obtain ⟨Φ, hc, p⟩ := p1
    exact hc M H1 vs (c.go e1 i1).good a1 Q fun z H' y hy ex rz => k z y n1 H' (p y hy) (e1.trans (.of ex)) (m.kept i1 ex) rz
theorem keys_al {H : Hp} {M : Addr → Prop} (g : Good M H) : ∀ {ds : List (List Int × V × β)} {bs : List Addr}, IsKeys H (ds.map toKv) bs → (∀ d ∈ ds, d.1.length ≤ bigN) → Al (fun v x => rTk.r (hid M H) v x) (bs.map V.ref) (ds.map (·.1))
  | [], _, .nil, _ => .nil
  | d :: ds, b :: bs, .cons h t, hl => by
    have h : H b = some (.tup ((kOf d.1).map kV)) := h
    rw [kOf_v] at h
    exact .cons ⟨b, rfl, by rw [hid_no (g.tup h)]; exact h, hl d (List.mem_cons_self ..)⟩ (keys_al g t fun e he => hl e (List.mem_cons_of_mem _ he))
abbrev rListDT : List V → Hp → VK → Prop := fun xs H Q => ∃ d kvs, xs = [V.ref d] ∧ Rd H d (.dT kvs) ∧ ∀ p bs, H p = none → IsKeys H kvs bs → Q (.ref p) (upd H p (.lst (bs.map V.ref)))
/-- list(d) -/
theorem c_listDT {l : List (List Int × β)} (hl : ∀ p ∈ l, p.1.length ≤ bigN) : CbW rListDT [.mk (rDT S) l] (rLst K rTk) (l.map (·.1)) := fun M H vs g a Q k => by
  obtain ⟨v, rfl, r⟩ := args1 a
  obtain ⟨ad, ds, rfl, h2, rfl, h4, h5⟩ := r
  refine ⟨ad, _, rfl, .inl (hid_le _ _ h2), fun p bs hp hk => ?_⟩
  have x := Evl.Ex.new (o := HO.lst (bs.map V.ref)) hp
  refine k _ _ x ⟨p, _, rfl, new_l hp g, ?_, by rw [List.length_map]; exact h5⟩
  rw [List.map_map]
  refine (keys_al g hk fun d hd => hl (toDt d) (List.mem_map_of_mem hd)).mono fun _ _ q => rTk.mono (hid_mono x) q
theorem perm_lift {γ δ : Type} {f : γ → δ} {l1 l2 : List δ} (h : l1.Perm l2) : ∀ ps : List γ, ps.map f = l2 → ∃ qs : List γ, qs.map f = l1 ∧ qs.Perm ps := by
  induction h with
  | nil => intro ps e; exact ⟨ps, e, List.Perm.refl _⟩
  | @cons x l1 l2 h ih =>
    intro ps e
    cases ps with
    | nil => cases e
    | cons p ps =>
      obtain ⟨rfl, e2⟩ := List.cons.inj e
      obtain ⟨qs, h1, h2⟩ := ih ps e2
      exact ⟨p :: qs, by rw [List.map_cons, h1], h2.cons p⟩
  | @swap x y l =>
    intro ps e
    cases ps with
    | nil => cases e
    | cons p ps => cases ps with
      | nil => cases (List.cons.inj e).2
      | cons q ps =>
        obtain ⟨rfl, e2⟩ := List.cons.inj e
        obtain ⟨rfl, e3⟩ := List.cons.inj e2
        exact ⟨q :: p :: ps, by rw [List.map_cons, List.map_cons, e3], List.Perm.swap _ _ _⟩
  | trans _ _ ih1 ih2 =>
    intro ps e
    obtain ⟨qs, h1, h2⟩ := ih2 ps e
    obtain ⟨rs, h3, h4⟩ := ih1 qs h1
    exact ⟨rs, h3, h4.trans h2⟩
/-- sorted of tuples of integers -/
theorem c_sortZ {l : List (List Int)} (hne : ∀ x ∈ l, x ≠ []) : CbP (rSortZ K) [.mk (rLst K rTk) l] (rLst K rTk) fun y => y.Perm l ∧ y.Pairwise fun a b => lexI b a = false := fun M H vs g a Q k => by
  obtain ⟨v, rfl, r⟩ := args1 a
  obtain ⟨ad, xs, rfl, hs, hA, hl⟩ := r
  have zl : (xs.zip l).map Prod.fst = xs ∧ (xs.zip l).map Prod.snd = l ∧ ∀ p ∈ xs.zip l, rTk.r (hid M H) p.1 p.2 := by
    have hlen := hA.len
    refine ⟨List.map_fst_zip (Nat.le_of_eq hlen), List.map_snd_zip (Nat.le_of_eq hlen.symm), fun p hp => ?_⟩
    obtain ⟨i, hi, e⟩ := List.getElem_of_mem hp
    have hz : (xs.zip l)[i]? = some p := by rw [List.getElem?_eq_getElem hi, e]
    obtain ⟨g1, g2⟩ := zip_get (x := p.1) (y := p.2) hz
    obtain ⟨w, hw, rw'⟩ := hA.get g2
    rw [g1] at hw
    cases hw
    exact rw'
  obtain ⟨z1, z2, z3⟩ := zl
  refine ⟨ad, xs, rfl, .of (hid_le _ _ hs), fun x hx => ?_, fun ys p hp hord hfree => ?_⟩
  · obtain ⟨i, hi, e⟩ := List.getElem_of_mem hx
    obtain ⟨y, hy, t, rfl, h2, _⟩ := hA.getV (v := x) (by rw [List.getElem?_eq_getElem hi, e])
    exact ⟨y, ⟨t, rfl, hid_le _ _ h2⟩, hne y (List.mem_of_getElem? hy)⟩
  · obtain ⟨qs, q1, q2⟩ := perm_lift hp (xs.zip l) z1
    have x := Evl.Ex.new (o := HO.lst ys) hfree
    have hq : ∀ p ∈ qs, rTk.r (hid M H) p.1 p.2 := fun p hp => z3 p (q2.mem_iff.mp hp)
    have hperm : (qs.map Prod.snd).Perm l := by
      have := q2.map Prod.snd
      rwa [z2] at this
    refine k _ _ (qs.map Prod.snd) ⟨hperm, ?_⟩ x ⟨p, ys, rfl, new_l hfree g, ?_, by rw [hperm.length_eq]; exact hl⟩
    · rw [List.pairwise_map]
      rw [← q1, List.pairwise_map] at hord
      refine List.Pairwise.imp_of_mem (fun {a b} ha hb hab => ?_) hord
      obtain ⟨t, et, ht, _⟩ := hq a ha
      obtain ⟨t', et', ht', _⟩ := hq b hb
      exact hab a.2 b.2 ⟨t, et, hid_le _ _ ht⟩ ⟨t', et', hid_le _ _ ht'⟩
    · rw [← q1]
      have : ∀ ps : List (V × List Int), (∀ p ∈ ps, rTk.r (hid M H) p.1 p.2) → Al (fun v x => rTk.r (hid M (upd H p (.lst (qs.map Prod.fst)))) v x) (ps.map Prod.fst) (ps.map Prod.snd) := by
        intro ps
        induction ps with
        | nil => intro _; exact .nil
        | cons q ps ih =>
          intro h
          refine .cons (rTk.mono (hid_mono (by rw [q1]; exact x)) (h q (List.mem_cons_self ..))) (ih fun r hr => h r (List.mem_cons_of_mem _ hr))
      exact this qs hq
/-- a new tuple of integers -/
theorem c_tupK {l : List Int} : CbW (rTupOf K) [.mk (rLst K rInt) l] rTk l := fun M H vs g a Q k => by
  obtain ⟨v, rfl, r⟩ := args1 a
  obtain ⟨ad, vs, rfl, hs, hA, hl⟩ := lst_sql r
  refine ⟨ad, vs, rfl, .inl ⟨ex_l hid_le hs, fun p hp => ?_⟩⟩
  have x := Evl.Ex.new (o := HO.tup vs) hp
  exact k _ _ x ⟨p, rfl, by rw [hid_no (g.fresh hp), upd_same, Al.ints hA], hl⟩
end
end L2.Lc
end

-- part LcDict
section
set_option Elab.async false
set_option linter.all false
set_option maxRecDepth 100000
set_option maxHeartbeats 400000
/-! # dicts from texts to integers -/
namespace L2.Lc
open PySem PySem.Spec PyProof.Rows L2
open Evl (Ex ex_l ex_t)
abbrev SD : Type := List (Str × Int)
def dk (l : SD) : List (Key × V) := l.map fun p => ((Sum.inr p.1 : Key), V.int p.2)
def lk (l : SD) (s : Str) : Option Int := (l.find? fun p => decide (p.1 = s)).map (·.2)
def rDic : Rl SD := ⟨fun G v l => ∃ a, v = .ref a ∧ G a = some (.dK (dk l)) ∧ l.length ≤ bigN, fun e ⟨a, h1, h2, h3⟩ => ⟨a, h1, e _ _ h2, h3⟩⟩
theorem inr_dec (a b : Str) : decide ((Sum.inr a : Key) = Sum.inr b) = decide (a = b) := decide_eq_decide.mpr ⟨fun h => Sum.inr.inj h, fun h => by rw [h]⟩
theorem val_dk (l : SD) (s : Str) : valV (dk l) (Sum.inr s : Key) = (lk l s).map V.int := by
  unfold valV dk lk
  rw [List.find?_map]
  have e : ((fun kv : Key × V => decide (kv.1 = Sum.inr s)) ∘ fun p : Str × Int => ((Sum.inr p.1 : Key), V.int p.2)) = fun p : Str × Int => decide (p.1 = s) := funext fun p => inr_dec _ _
  rw [e]
  cases List.find? (fun p : Str × Int => decide (p.1 = s)) l <;> rfl
theorem lk_mem {l : SD} {s : Str} {i : Int} (h : lk l s = some i) : (s, i) ∈ l := by
  unfold lk at h
  cases q : List.find? (fun p : Str × Int => decide (p.1 = s)) l with
  | none => rw [q] at h; cases h
  | some p =>
    rw [q] at h
    cases h
    have h1 := List.find?_some q
    have h1 : p.1 = s := of_decide_eq_true h1
    rw [← h1]
    exact List.mem_of_find?_eq_some q
theorem lk_none {l : SD} {s : Str} (h : s ∉ l.map (·.1)) : lk l s = none := by
  cases q : lk l s with
  | none => rfl
  | some i => exact absurd (List.mem_map_of_mem (f := fun p : Str × Int => p.1) (lk_mem q)) h
theorem lk_nodup {l : SD} (hn : (l.map (·.1)).Nodup) {s : Str} {i : Int} (h : (s, i) ∈ l) : lk l s = some i := by
  unfold lk
  induction l with
  | nil => cases h
  | cons p l ih =>
    rw [List.map_cons, List.nodup_cons] at hn
    rcases List.mem_cons.mp h with rfl | h
    · simp
    · have : p.1 ≠ s := fun z => hn.1 (by rw [z]; exact List.mem_map_of_mem (f := fun p : Str × Int => p.1) h)
      rw [List.find?_cons, decide_eq_false this]
      exact ih hn.2 h
theorem put_new {kvs : List (Key × V)} {s : Str} {v : V} (h : ∀ p ∈ kvs, p.1 ≠ Sum.inr s) : putK kvs (Sum.inr s : Key) v = kvs ++ [(Sum.inr s, v)] := by
  unfold putK
  have : (kvs.any fun kv => decide (kv.1 = Sum.inr s)) = false := by
    rw [List.any_eq_false]
    intro p hp z
    exact h p hp (of_decide_eq_true z)
  rw [this]
  rfl
theorem merge_dk {l : SD} (hn : (l.map (·.1)).Nodup) : mergeK [] (dk l) = dk l := by
  have key : ∀ (l pre : SD), ((pre ++ l).map (·.1)).Nodup → mergeK (dk pre) (dk l) = dk (pre ++ l) := by
    intro l
    induction l with
    | nil => intro pre _; rw [List.append_nil]; rfl
    | cons p l ih =>
      intro pre h
      show mergeK (putK (dk pre) (Sum.inr p.1) (V.int p.2)) (dk l) = _
      rw [put_new]
      · have e : dk pre ++ [((Sum.inr p.1 : Key), V.int p.2)] = dk (pre ++ [p]) := by unfold dk; rw [List.map_append]; rfl
        rw [e, ih (pre ++ [p]) (by rw [List.append_assoc]; exact h), List.append_assoc]
        rfl
      · intro q hq z
        obtain ⟨r, hr, rfl⟩ := List.mem_map.mp hq
        have z : r.1 = p.1 := Sum.inr.inj z
        rw [List.map_append, List.nodup_append] at h
        exact h.2.2 r.1 (List.mem_map_of_mem (f := fun p : Str × Int => p.1) hr) p.1 (by simp) z
  exact key l [] hn
section
variable {Z : Type} {m : Md Z} {Γ : Gm} {n : Z} {α β γ : Type} {R : Rl α} {S : Rl β} {K : PySem.W.Frag} {ta tb tc : TE}
/-- d.get(k, x) -/
theorem w_get2 {Post : Int → Z → Prop} (h : EvW m ta Γ n rDic fun l n1 => EvW m tb Γ n1 rStr fun s n2 => EvW m tc Γ n2 rInt fun d n3 => Post ((lk l s).getD d) n3) : EvW m (tDGet2 ta tb tc) Γ n rInt Post := fun M σ H c e Q k =>
  h M σ H c e _ fun v l n1 H1 p1 e1 i1 r1 => by
    obtain ⟨a, rfl, h2, _⟩ := id r1
    refine ⟨a, rfl, .inl ⟨_, .inl (hid_le _ _ h2)⟩, ?_⟩
    refine p1 M σ H1 (c.go e1 i1) (e.mono (e1.hid c.mm)) _ fun u s n2 H2 p2 e2 i2 r2 => ?_
    refine p2 M σ H2 (c.go (e1.trans e2) i2) (e.mono ((e1.trans e2).hid c.mm)) _ fun w d n3 H3 p3 e3 i3 r3 => ?_
    have r2 : u = .str s := r2
    have r3 : w = .int d := r3
    subst r2 r3
    have h3 : H3 a = some (.dK (dk l)) := hid_le _ _ ((e2.trans e3).hid (M := M) c.mm _ _ h2)
    refine ⟨_, DGet.k (k := (Sum.inr s : Key)) h3, k _ _ n3 H3 p3 ((e1.trans e2).trans e3) i3 ?_⟩
    rw [val_dk]
    cases lk l s <;> rfl
/-- d[k] -/
theorem w_getS {Post : Int → Z → Prop} (h : EvW m ta Γ n rDic fun l n1 => EvW m tb Γ n1 rStr fun s n2 => ∃ i, lk l s = some i ∧ Post i n2) : EvW m (tDGet ta tb) Γ n rInt Post := fun M σ H c e Q k =>
  h M σ H c e _ fun v l n1 H1 p1 e1 i1 r1 => p1 M σ H1 (c.go e1 i1) (e.mono (e1.hid c.mm)) _ fun u s n2 H2 p2 e2 i2 r2 => by
    obtain ⟨i, hi, p⟩ := p2
    obtain ⟨a, rfl, h2, _⟩ := rDic.mono (e2.hid c.mm) r1
    have r2 : u = .str s := r2
    subst r2
    refine ⟨a, .int i, rfl, ?_, k _ _ n2 H2 p (e1.trans e2) i2 rfl⟩
    have := DGet.k (k := (Sum.inr s : Key)) (hid_le _ _ h2)
    rw [val_dk, hi] at this
    exact this
abbrev rDictP (K : PySem.W.Frag) : List V → Hp → VK → Prop := fun xs H Q => ∃ (a : Addr) (ps : List Addr) (kvs : List (Key × V)), xs = [.ref a] ∧ SqL K H a (ps.map V.ref) ∧ Paired (fun p kv => SqT K H p [kV kv.1, kv.2]) ps kvs ∧
    ∀ p, H p = none → Q (.ref p) (upd H p (.dK (mergeK [] kvs)))
theorem pairs_of {G H : Hp} (hGH : Ex G H) : ∀ {vs : List V} {l : SD}, Al (fun v x => (rPr K rStr rInt).r G v x) vs l → ∃ ps : List Addr, vs = ps.map V.ref ∧ Paired (fun p kv => SqT K H p [kV kv.1, kv.2]) ps (dk l)
  | _, _, .nil => ⟨[], rfl, .nil⟩
  | _, _, .cons h t => by
    obtain ⟨a, x, y, rfl, h1, h2, h3⟩ := h
    obtain ⟨ps, rfl, hp⟩ := pairs_of hGH t
    rw [show x = V.str _ from h2, show y = V.int _ from h3] at h1
    exact ⟨a :: ps, rfl, .cons (ex_t hGH h1) hp⟩
/-- dict(pairs) -/
theorem c_dictP {l : SD} (hn : (l.map (·.1)).Nodup) : CbW (rDictP K) [.mk (rLst K (rPr K rStr rInt)) l] rDic l := fun M H vs g a Q k => by
  obtain ⟨v, rfl, r⟩ := args1 a
  obtain ⟨ad, xs, rfl, hs, hA, hl⟩ := r
  obtain ⟨ps, rfl, hp⟩ := pairs_of (K := K) hid_le hA
  refine ⟨ad, ps, dk l, rfl, .of (hid_le _ _ hs), hp, fun p hfree => ?_⟩
  rw [merge_dk hn]
  have x := Evl.Ex.new (o := HO.dK (dk l)) hfree
  exact k _ _ x ⟨p, rfl, by rw [hid_no (g.fresh hfree), upd_same], hl⟩
abbrev rDictD : List V → Hp → VK → Prop := fun xs H Q => ∃ (a : Addr) (kvs : List (Key × V)), xs = [.ref a] ∧ Rd H a (.dK kvs) ∧ ∀ p, H p = none → Q (.ref p) (upd H p (.dK kvs))
/-- dict(d) -/
theorem c_dictD {l : SD} : CbW rDictD [.mk rDic l] rDic l := fun M H vs g a Q k => by
  obtain ⟨v, rfl, r⟩ := args1 a
  obtain ⟨ad, rfl, h2, hl⟩ := r
  refine ⟨ad, _, rfl, .inl (hid_le _ _ h2), fun p hfree => ?_⟩
  have x := Evl.Ex.new (o := HO.dK (dk l)) hfree
  exact k _ _ x ⟨p, rfl, by rw [hid_no (g.fresh hfree), upd_same], hl⟩
/-- d = dict(e); d[k] = v -/
theorem s_dictPut {D : Dn Z β} {i : Nat} {s : Str} {j : Int} {rest : TS} (h : EvW m ta Γ n rDic fun l n1 => l.length < bigN ∧ s ∉ l.map (·.1) ∧ StW m rest (Γ.set i (some (.mk rDic (l ++ [(s, j)])))) n1 S D) (hi : i < Γ.length) :
    StW m (tSeq (tAsg (tCB rDictD (tCons ta tNil)) (gName i)) (tSeq (sDPut (tVar i) (tC (.str s)) (tC (.int j))) rest)) Γ n S D := fun M σ H c e E k =>
  h M σ H c e _ fun v l n1 H1 p1 e1 i1 r1 => by
    obtain ⟨h1, h2, h3⟩ := p1
    obtain ⟨ad, rfl, hd, hl⟩ := r1
    refine ⟨ad, _, rfl, .inl (hid_le _ _ hd), fun p hfree => ?_⟩
    have c1 := c.go e1 i1
    have en1 := e.mono (e1.hid c.mm)
    have hlen : i < σ.length := by rw [en1.1]; exact hi
    refine ⟨V.ref p, by rw [List.getElem?_set_self hlen], p, upd (upd H1 p (.dK (dk l))) p (.dK (putK (dk l) (Sum.inr s) (.int j))), rfl, DPut.k (k := (Sum.inr s : Key)) upd_same (by unfold dk; rw [List.length_map]; exact Nat.lt_trans h1 bigN_line), ?_⟩
    have e2 : upd (upd H1 p (.dK (dk l))) p (.dK (putK (dk l) (Sum.inr s) (.int j))) = upd H1 p (.dK (dk (l ++ [(s, j)]))) := by
      rw [put_new]
      · funext a
        by_cases z : a = p
        · subst z; rw [upd_same, upd_same]; unfold dk; rw [List.map_append]; rfl
        · rw [upd_ne z, upd_ne z, upd_ne z]
      · intro q hq z
        obtain ⟨r, hr, rfl⟩ := List.mem_map.mp hq
        exact h2 (List.mem_map.mpr ⟨r, hr, Sum.inr.inj z⟩)
    rw [e2]
    have x := Evl.Ex.new (o := HO.dK (dk (l ++ [(s, j)]))) hfree
    refine h3 M _ _ (c1.go (.of x) (m.kept i1 x)) ((en1.mono (hid_mono x)).set (e := .mk rDic (l ++ [(s, j)])) ⟨p, rfl, by rw [hid_no (c1.good.fresh hfree), upd_same], by rw [List.length_append]; exact h1⟩) E (k.at (e1.trans (.of x)))
/-- {'k': v} -/
theorem w_disp1 {s : Str} {j : Int} {Post : SD → Z → Prop} (p : Post [(s, j)] n) : EvW m (tDisp [(tC (.str s), tC (.int j))]) Γ n rDic Post := fun M σ H c e Q k => by
  intro q hfree
  have x : Ex H (upd (upd H q (.dK [])) q (.dK (dk [(s, j)]))) := fun a o h => by
    have : a ≠ q := fun z => by rw [z, hfree] at h; cases h
    rw [upd_ne this, upd_ne this]; exact h
  refine ⟨upd_same, [((Sum.inr s : Key), V.int j)], rfl, (show 1 ≤ 15 by decide), ?_⟩
  refine k _ _ n _ p (.of x) (m.kept c.inv x) ⟨q, rfl, ?_, (show 1 ≤ bigN by decide)⟩
  rw [hid_no (c.good.fresh hfree)]
  exact upd_same
end
end L2.Lc
end

-- part LcGuard
section
set_option Elab.async false
set_option linter.all false
set_option maxRecDepth 100000
set_option maxHeartbeats 400000
/-! # defs that are run where no repr is under way: repr of plain data; the law's end -/
namespace L2.Lc
open PySem PySem.Spec PyProof.Rows L2
open Evl (Ex ex_l ex_t)
structure FnG (P : Program) (w : World) (K : PySem.W.Frag) (mg : Str → Option Value) (base : Heap) (k : Nat) (f : Addr) (fd : FuncData) (ps : List Str) (sp : Sp) : Prop where
  len : ∀ {vs H Q E}, sp vs H Q E → vs.length = ps.length
  go : ∀ {A : Around} {outer : List Env} {s : Shared} {H : Hp} {args : Args} {us : List Value} {vs : List V} {Q : VK} {E : XK}, Room k A → A.guards = some [] → Env0 P w K mg base A outer s H → BindsTo s fd args (ps.zip us) → Vals vs us → sp vs H Q E →
    codeAny (model P w) A (.call (.ref f) args) (CR CX0 outer P w H s Q E) s
section
variable {P : Program} {w : World} {K : PySem.W.Frag} {mg : Str → Option Value} {base : Heap} {k : Nat} {x qual : Str} {params : Arguments} {body : List Stmt} {scope : Scope} {dvs : List V} {kws : List (Str × V)} {f : Addr} {fd : FuncData} {N ps : List Str} {sp : Sp}
theorem FnG.of (F : FunD K x qual params body scope dvs kws f fd) (S : FnScope N ps scope) (len : ∀ {vs H Q E}, sp vs H Q E → vs.length = ps.length)
    (hb : ∀ (cdv : Value) (A : Around) (outer : List Env) (s : Shared) (H : Hp) (vs : List V) (Q : VK) (E : XK), Room k (A.deeper (envOfC qual scope s.heap.objs.size f cdv)) → A.guards = some [] → sp vs H Q E →
      ∃ t, PSs (cxOf CX0 P w K mg base N qual scope f cdv A outer s H E) body t ∧ t { nx := fun _ H' => Q .non H', rt := Q } (start N vs) H) : FnG P w K mg base (k + 1) f fd ps sp := by
  obtain ⟨oc, od, dV, kV, doc, pm, an, cdv, ct, osl, rfl, found, hcode, _, _⟩ := F.ex
  refine ⟨len, fun {A outer s H args us vs Q E} room hg e0 bind rel want => ?_⟩
  have keep0 : ∀ b o, base.get? b = some o → s.heap.get? b = some o := fun b o e => (e0.bs b o e).1
  have inK : K.In s.heap := e0.mod.kin.keeps keep0
  have kinds : ∀ y ∈ ps.zip us, scope.names.lookup y.1 = some .local ∨ (scope.names.lookup y.1 = some .cell ∧ ((cellsFrom (s.heap.objs.size + 1) scope.names []).lookup y.1).isSome = true) := by
    intro y hy
    refine (S.par y.1 (List.of_mem_zip (a := y.1) (b := y.2) hy).1).elim .inl fun q => .inr ⟨q, ?_⟩
    exact PySem.W.cellsFrom_some _ _ _ (.inl q)
  refine codeAny_call_function room.depth (inK _ _ found) rfl S.co S.gen rfl (PySem.W.codeRec_of inK hcode) (bind _ _ _ _ (wpAny_newFunctionEnv_cells S.kind kinds ?_))
  rintro env rfl s1 inCall
  refine ⟨(e0.mod.nolimit.keeps keep0).keeps inCall.toInCall.keep, codeAny_func ?_⟩
  obtain ⟨t, run, ok⟩ := hb cdv A outer s H vs Q E (room.deeper _) hg want
  have J0 : Inv (cxOf CX0 P w K mg base N qual scope f cdv A outer s H E) [] (start N vs) H s1 := inv_start S room.hd e0 (len want) rel inCall
  refine wpAny_mono (run.run [] s1 (start N vs) H _ J0 ok) (fun out s' done => ?_) (fun _ _ z => z)
  rcases out with _ | _ | _ | u
  all_goals first
    | (obtain ⟨σ', H', J, q⟩ := done
       exact ⟨V.non, H', J.os, J.bare, J.base, J.hok, rfl, q⟩)
    | (obtain ⟨v, σ', H', J, rv, q⟩ := done
       exact ⟨v, H', J.os, J.bare, J.base, J.hok, rv, q⟩)
    | (obtain ⟨_, _, _, q⟩ := done
       exact q.elim)
theorem fnPG {α β : Type} {A : α → List Ent} {pre : α → Prop} {R : Rl β} {post : α → β → Prop} (F : FunD K x qual params body scope dvs kws f fd) (S : FnScope N ps scope) (hA : ∀ x, (A x).length = ps.length)
    (hd : ∀ (cdv : Value) (B : Around) (outer : List Env) (s : Shared) (H : Hp) (E : XK), Room k (B.deeper (envOfC qual scope s.heap.objs.size f cdv)) → B.guards = some [] → ∃ t, PSs (cxOf CX0 P w K mg base N qual scope f cdv B outer s H E).nox body t ∧
      ∀ x, pre x → StW pm t ((A x).map some ++ List.replicate (N.length - ps.length) none) () R { nx := fun _ _ => False, rt := fun y _ => post x y }) : FnG P w K mg base (k + 1) f fd ps (spP A pre R post) := by
  refine FnG.of F S (fun {vs H Q E} ⟨M, x, _, a, _⟩ => a.len.trans (hA x)) fun cdv A' outer s H vs Q E hr hg ⟨M, x, g, a, hp, q⟩ => ?_
  obtain ⟨t, d, h⟩ := hd cdv A' outer s H E hr hg
  refine ⟨t, d.nox, ?_⟩
  have hl : vs.length = ps.length := a.len.trans (hA x)
  unfold start
  rw [hl]
  exact h x hp M _ H ⟨g, fun _ z => z.elim, trivial⟩ (start_ok a _) _ ⟨fun _ _ _ _ z => z.elim, fun y n v H' po e _ r => q v y H' po (fun b o z => e b o (fun z => z.elim) z) r, fun _ _ _ _ z => z.elim, fun _ _ _ _ z => z.elim⟩
end
structure CalG (P : Program) (w : World) (K : PySem.W.Frag) (mg : Str → Option Value) (base : Heap) (x : Str) (k : Nat) (ps : List Str) (sp : Sp) : Prop where
  ex : ∃ f fd, FnG P w K mg base k f fd ps sp ∧ mg x = some (.ref f) ∧ PySem.W.keepIn K (.ref f) = true ∧ Binds K fd ps []
theorem FG.calG {P : Program} {w : World} {K : PySem.W.Frag} {mg : Str → Option Value} {base : Heap} {k : Nat} {x : Str} {st : Stmt} {ps : List Str} {sp : Sp} (F : FG K mg x st) (hb : BindN x x st ps)
    (h : ∀ f fd, FunD K x x (defArgs st) (defBody st) (defScope st) [] [] f fd → FnG P w K mg base k f fd ps sp) : CalG P w K mg base x k ps sp := by
  obtain ⟨f, fd, F, g⟩ := F.ex
  exact ⟨f, fd, h f fd F, g, F.kp, F.bindsN hb⟩
section
variable {X : Cx} {x : Str} {k : Nat} {ps : List Str} {sp : Sp} {e : Expr} {es : List Expr} {t : TA} {p pos : Pos}
theorem pe_calG (c : CalG X.prog X.w X.K X.mg X.base x k ps sp) (hr : Room k X.A) (hgd : X.A.guards = some []) (hg : Gl X x) (ha : PA X (e :: es) t) (hdb : (x == ("__debug__" : Str)) = false := by decide) (he : starEach (e :: es) X.env = (false, eval e X.env) :: starEach es X.env := by rfl)
    (hpl : (backTo pos (starEach es X.env)).any (·.1) = false := by rfl) : PE X (.Call (.Name x p) (e :: es) [] pos) (tCall sp [] E0 t) := by
  obtain ⟨f, fd, F, gm, kp, b⟩ := c.ex
  refine ⟨fun pins s σ H Q I h => wpAny_Call_Name_kw (ld_glob I hg gm (PySem.W.callWith_K (h₀ := X.base) I.ok.mod.kin kp (thn (ha.run pos pins s σ H _ I h) ?_) he hpl) hdb)⟩
  rintro us s1 ⟨vs, H1, I1, r, q⟩
  refine ⟨I1.kIn, ?_⟩
  rw [List.append_nil] at q
  have hlen := F.len q
  have bind := b s1 us I1.kIn (by rw [List.append_nil, ← r.length]; exact hlen)
  rw [List.append_nil] at bind
  refine wpAny_call (codeAny_mono (F.go hr hgd I1.env0 bind r q) fun out s' z => ?_)
  rcases out with e | (_ | _ | _ | u)
  · exact z.elim
  all_goals first
    | exact I1.after z
    | exact z.elim
/-- the text of a tuple of integers -/
def tupTxt (ns : List Int) : Str := tupleText (ns.map fun i => ((toString i : String) : Str))
/-- repr of a tuple of integers -/
def rReprT (K : PySem.W.Frag) : List V → Hp → VK → Prop := fun xs H Q => ∃ (a : Addr) (ns : List Int), xs = [.ref a] ∧ SqT K H a (ns.map V.int) ∧ (∀ i ∈ ns, i.natAbs.log2 < 1920) ∧ (tupTxt ns).length ≤ sizeLine ∧ Q (.str (tupTxt ns)) H
theorem reprs_ints {s : Shared} : ∀ {ns : List Int} {us : List Value}, Vals (ns.map V.int) us → (∀ i ∈ ns, i.natAbs.log2 < 1920) → ReprAllK X.prog X.w [] s.heap 0 us (ns.map fun i => ((toString i : String) : Str))
  | [], _, .nil, _ => .nil
  | i :: ns, _, .cons r t, h => by
    obtain ⟨k, rfl⟩ := r
    exact .cons (ReprK.of_is (ReprIs.int k (h i (List.mem_cons_self ..))) _ _ _) (reprs_ints t fun j hj => h j (List.mem_cons_of_mem _ hj))
theorem cr_reprT (hgd : X.A.guards = some []) (hu : X.A.units + 64 < cLine) : CallR X (.builtin "repr") (rReprT X.K) := by
  intro pins s σ H xs us Q I r h
  obtain ⟨a, ns, rfl, hs, hl, hz, q⟩ := h
  obtain ⟨u, rfl, rx⟩ := vals1 r
  obtain rfl : u = .ref a := rx
  obtain ⟨its, rv, ⟨o, ho, hc, n, hd⟩, _⟩ := I.tuple hs
  have hT : s.TypeIs (.ref a) "tuple" := ⟨o, ho, hc⟩
  refine Calls.call_function_entry F.kind_repr F.plain_repr F.entry_repr (F.args_repr1 _) ?_
  unfold Builtin.«repr»
  refine wpAny_bind (m := oneArg "repr" _) (wpAny_pure (wpAny_bind (wpAny_cRoomFor (by show X.A.units + 1 < cLine; omega) ?_)))
  refine wpAny_bind (wpAny_specialOf (name := Str.ofString "__repr__") hT F.slot_tuple_repr.lookup ?_)
  refine wpAny_bind (m := callSpecialIfBound? (.ref a) (Str.ofString "__repr__")) (wpAny_callSpecialIfBound?_slotG (name := Str.ofString "__repr__") hT F.slot_tuple_repr ?_)
  refine call_tuple_reprK (as := []) (h₀ := s.heap) (d := 0) ho hc hd (by simp) (by simpa using reprs_ints rv hl) (g := []) hgd (fun b _ => Clear.nil b) (by show X.A.units + 1 + (0 + 1) < cLine; omega) (fun _ _ e => e) (fun h' u tk hk => ?_) hz
  refine wpAny_bind (wpAny_isInstance (T := "str") (b := true) rfl isSubtype_str_str ?_)
  exact wpAny_pure ⟨_, rfl, .str (tupTxt ns), H, I.kept (t' := tk) hk, ⟨u, rfl⟩, q⟩
end
section
variable {K : PySem.W.Frag}
theorem c_reprP {x y : Int} (h1 : x.natAbs.log2 < 1920) (h2 : y.natAbs.log2 < 1920) (hz : (tupTxt [x, y]).length ≤ sizeLine) : CbW (rReprT K) [.mk (rPr K rInt rInt) (x, y)] rStr (tupTxt [x, y]) := fun M H vs g a Q k => by
  obtain ⟨v, rfl, r⟩ := args1 a
  obtain ⟨ad, u, w, rfl, hs, hu, hw⟩ := r
  rw [show u = V.int x from hu, show w = V.int y from hw] at hs
  refine ⟨ad, [x, y], rfl, ex_t hid_le hs, fun i hi => ?_, hz, k _ H (fun _ _ h => h) rfl⟩
  rcases List.mem_cons.mp hi with rfl | hi
  · exact h1
  · rw [List.mem_singleton.mp hi]; exact h2
end
end L2.Lc
end

-- part LcEnd
section
set_option Elab.async false
set_option linter.all false
set_option maxRecDepth 100000
set_option maxHeartbeats 400000
/-! # a law's end, for a def that is run where no repr is under way -/
namespace L2.Lc
open PySem PySem.Spec PyProof.Rows L2
section
variable {P : Program} {w : World} {K : PySem.W.Frag} {mg mb : Str → Option Value} {k : Nat} {fa a : Addr} {fd : FuncData} {x : Str} {sp : Sp} {s₁ : Shared} {vs : List Value} {ns : List Int}
/-- what is wanted of the heap in which the script alone may be told -/
structure Alone (P : Program) (w : World) (K : PySem.W.Frag) (s₁ : Shared) (a : Addr) (ns : List Int) (H : Hp) : Prop where
  only : Only H
  scr : SqL K H a (ns.map V.int)
  ok : HOk P w H s₁.heap
  at_ : ∀ b, H b ≠ none → b = a
  own : H a ≠ none → K.lookup a = none
theorem alone_end (KX : K.In s₁.heap) (hns : s₁.heap.Ns mainGlobals mg) (hb : s₁.heap.Ns builtinsNs mb) (hbb : ∀ x : Str, x ≠ "__name__" → mb x = bootBuiltins x) (hlim : s₁.heap.NoLimit) (hg : s₁.gens = #[])
    (ha : s₁.heap.get? a = some { cls := .type "list", data := .seq vs.toArray }) (hr : Room k callerA)
    (F : ∀ base : Heap, K.In base → base.Ns mainGlobals mg → FnG P w K mg base k fa fd [x] sp) (hbind : ∀ (s : Shared) (u : Value), BindsTo s fd ⟨[u], []⟩ [(x, u)])
    {H : Hp} (Al : Alone P w K s₁ a ns H) (hsp : sp [.ref a] H (fun v _ => v = .bl true) fun _ _ _ => False) :
    codeAny (model P w) callerA (.call (.ref fa) ⟨[.ref a], []⟩) (fun r s' => r = .ok (.ret (.bool true)) ∧ OldK s₁.heap s'.heap ∧ s'.os = s₁.os ∧ AllBare s'.gens) s₁ := by
  have lone : ∀ {b : Addr} {o : Obj}, s₁.heap.get? b = some o → (b = a → False) → (hidT s₁.heap H).get? b = some o := by
    intro b o e no
    refine hidT_get e ?_
    cases q : H b with
    | none => rfl
    | some u => exact (no (Al.at_ b (by rw [q]; exact fun z => by cases z))).elim
  have dicts : ∀ {b : Addr} {m : Str → Option Value}, s₁.heap.Ns b m → (hidT s₁.heap H).Ns b m := by
    rintro b m ⟨o, es, ep, e, d, r⟩
    refine ⟨o, es, ep, lone e fun z => ?_, d, r⟩
    rw [z, ha] at e
    rw [← Option.some.inj e] at d
    cases d
  have inB : K.In (hidT s₁.heap H) := by
    intro b o e
    refine hidT_get (KX b o e) ?_
    cases q : H b with
    | none => rfl
    | some u =>
      have e' : b = a := Al.at_ b (by rw [q]; exact fun z => by cases z)
      rw [e'] at q e
      rw [Al.own (by rw [q]; exact fun z => by cases z)] at e
      cases e
  obtain ⟨mc, c1, c2⟩ := hlim
  have md : Mod K mg (hidT s₁.heap H) := ⟨inB, dicts hns, ⟨mb, dicts hb, hbb⟩, mc, dicts c1, c2⟩
  have start : Env0 P w K mg (hidT s₁.heap H) callerA [] s₁ H := ⟨rfl, md, (fun b o e => of_hidT e), Nat.le_of_eq (hidT_size _ _), trivial, (fun b hb => by cases hb), Al.ok, .of_eq hg⟩
  refine codeAny_mono ((F _ inB (dicts hns)).go (args := ⟨[.ref a], []⟩) (us := [.ref a]) (vs := [V.ref a]) hr rfl start (hbind s₁ (.ref a)) (.cons rfl .nil) hsp) fun out s' z => ?_
  rcases out with e | (_ | _ | _ | u)
  all_goals first
    | exact z.elim
    | skip
  obtain ⟨v, H', os, bare, un, hok', rel, rfl⟩ := z
  obtain rfl : u = Value.bool true := rel
  refine ⟨rfl, OldK.of_keep fun b o e => ?_, os, bare⟩
  cases q : H b with
  | none => exact un.keep b o e q (fun z => by cases z) (fun z => by cases z)
  | some u =>
    rcases Al.only b with z | ⟨ob, xs, z⟩
    · rw [q] at z; cases z
    · obtain ⟨e1, _⟩ := Al.ok b _ z
      obtain ⟨e2, _⟩ := hok' b _ (un.frzs b ob _ z)
      rw [e] at e1
      cases e1
      exact e2
theorem law_end (KX : K.In s₁.heap) (hns : s₁.heap.Ns mainGlobals mg) (hb : s₁.heap.Ns builtinsNs mb) (hbb : ∀ x : Str, x ≠ "__name__" → mb x = bootBuiltins x) (hlim : s₁.heap.NoLimit) (hg : s₁.gens = #[])
    (ha : s₁.heap.get? a = some { cls := .type "list", data := .seq vs.toArray }) (hi : IntsAre vs ns) (hl : ns.length ≤ sizeLine) (hr : Room k callerA)
    (F : ∀ base : Heap, K.In base → base.Ns mainGlobals mg → FnG P w K mg base k fa fd [x] sp) (hbind : ∀ (s : Shared) (u : Value), BindsTo s fd ⟨[u], []⟩ [(x, u)])
    (hsp : ∀ H : Hp, Only H → SqL K H a (ns.map V.int) → sp [.ref a] H (fun v _ => v = .bl true) fun _ _ _ => False) :
    codeAny (model P w) callerA (.call (.ref fa) ⟨[.ref a], []⟩) (fun r s' => r = .ok (.ret (.bool true)) ∧ OldK s₁.heap s'.heap ∧ s'.os = s₁.os ∧ AllBare s'.gens) s₁ := by
  have rv := vals_ints hi
  have fin : ∀ {H : Hp}, Alone P w K s₁ a ns H → _ := fun {H} Al => alone_end KX hns hb hbb hlim hg ha hr F hbind Al (hsp H Al.only Al.scr)
  cases hk : K.lookup a with
  | some o =>
    have e := KX a o hk
    rw [ha] at e
    cases e
    exact fin (H := fun _ => none) ⟨fun _ => .inl rfl, .inr ⟨_, vs.toArray, _, hk, rfl, rfl, rfl, by rw [List.size_toArray, hi.length]; exact hl, by simpa using rv⟩, (fun b u z => by cases z), fun b z => absurd rfl z, fun z => absurd rfl z⟩
  | none =>
    let scr : HO := .frz { cls := .type "list", data := .seq vs.toArray } (.lst (ns.map V.int))
    have yes : ∀ {b : Addr} {u : HO}, (if b = a then some scr else none) = some u → b = a ∧ u = scr := by
      intro b u z
      by_cases e : b = a
      · rw [if_pos e] at z; exact ⟨e, (Option.some.inj z).symm⟩
      · rw [if_neg e] at z; cases z
    refine fin (H := fun b => if b = a then some scr else none) ⟨fun b => ?_, .inl (.inr ⟨_, if_pos rfl⟩), fun b u z => ?_, fun b z => ?_, fun _ => hk⟩
    · by_cases e : b = a
      · exact .inr ⟨_, _, if_pos e⟩
      · exact .inl (if_neg e)
    · obtain ⟨rfl, rfl⟩ := yes z
      exact ⟨ha, by rw [List.length_map]; exact hl, vs, _, rv, ha⟩
    · cases q : (if b = a then some scr else none : Option HO) with
      | none => exact absurd q z
      | some u => exact (yes q).1
end
theorem walkG {l : PySem.W.OpenLaw} {n k : Nat} {q : Program} {loose : List Str} {XP : (Str → Option Value) → Heap → Prop} {YP : World → Heap → Prop} {d : DefRec} {x : Str}
    (hn : l.most = some n) (hn2 : n ≤ sizeLine) (hdf : d.params.defaults = []) (hr : Room k callerA)
    (F : ∀ (w : World) (mg : Str → Option Value) (fa : Addr) (h : Heap), YP w h → h.Ns mainGlobals mg → mg d.name = some (.ref fa) →
      ∃ (K : PySem.W.Frag) (fd : FuncData) (sp : Sp), K.In h ∧ (∀ (s : Shared) (u : Value), BindsTo s fd ⟨[u], []⟩ [(x, u)]) ∧
        (∀ (H : Hp) (a : Addr) (ns : List Int), ns.length ≤ n → Only H → SqL K H a (ns.map V.int) → sp [.ref a] H (fun v _ => v = .bl true) fun _ _ _ => False) ∧
        ∀ base : Heap, K.In base → base.Ns mainGlobals mg → FnG l.prog w K mg base k fa fd [x] sp) :
    PySem.W.WalkO q loose XP YP l.row.toRowW d [] (fun f vs => PySem.call f vs) := by
  refine Att.attach_call hn hdf fun w s₀ s₁ mg mb fa o pm cd doc a vs ns G Y ho hd hcd hmg hobj hints hlen hg => ?_
  obtain ⟨K, fd, sp, KX, hb, hsp, hF⟩ := F w mg fa _ Y G.T.g hmg
  exact law_end KX G.T.g G.T.b G.T.builtins G.T.nolimit hg hobj hints (Nat.le_trans hlen hn2) hr hF hb fun H hO hS => hsp H a ns hlen hO hS
end L2.Lc
end

-- part LcMore
section
set_option Elab.async false
set_option linter.all false
set_option maxRecDepth 100000
set_option maxHeartbeats 400000
namespace L2.Lc
open PySem PySem.Spec PyProof.Rows L2
open Evl (Ex ex_l ex_t)
section
variable {X : Cx} {K : PySem.W.Frag}
/-! ### t != u, the very same items -/
def rNeId (K : PySem.W.Frag) : R2 := fun x y H Q => ∃ (a b : Addr) (ps : List Addr), x = .ref a ∧ y = .ref b ∧ SqT K H a (ps.map V.ref) ∧ SqT K H b (ps.map V.ref) ∧ Q (.bl false) H
theorem refs_vals : ∀ {ps : List Addr} {us : List Value}, Vals (ps.map V.ref) us → us = ps.map Value.ref
  | [], _, .nil => rfl
  | p :: ps, _, .cons r t => by
    obtain rfl := (show _ = Value.ref p from r)
    rw [refs_vals t]; rfl
theorem op_neId (hK : X.K = K) (hu : X.A.units < cLine) : OpR X (compareOp .NotEq) (rNeId K) := by
  subst hK
  intro pins s σ H x y v u Q I rx ry h
  obtain ⟨a, b, ps, rfl, rfl, ha, hb, q⟩ := h
  obtain rfl : v = .ref a := rx
  obtain rfl : u = .ref b := ry
  obtain ⟨its, rv, ⟨o1, a1, a2, n1, a3⟩, _⟩ := I.tuple ha
  obtain ⟨its2, rv2, ⟨o2, b1, b2, n2, b3⟩, _⟩ := I.tuple hb
  have e1 := refs_vals rv
  have e2 := refs_vals rv2
  subst e1 e2
  have key := SeqAt.RcNeAt.tuples (A := X.A) (s := s) (e := fun _ => true) ⟨o1, a1, a2, n1, a3⟩ ⟨o2, b1, b2, n2, b3⟩ hu (fun j h1 h2 => by
    have := SeqAt.EqAt.same (A := X.A.in1) (s := s) ((ps.map Value.ref).toArray[j])
    exact this)
  show wpAny _ _ (richCompare .NotEq (.ref a) (.ref b)) _ _ _
  refine key X.prog X.w _ _ ⟨.bl false, H, I, ?_, q⟩
  show Value.bool _ = Value.bool false
  simp
theorem w_neId {Z : Type} {m : Md Z} {Γ : Gm} {n : Z} {α : Type} {R : Rl α} {ta tb : TE} {Post : Bool → Z → Prop} (hr : ∀ {G : Hp} {v : V} {x : α}, R.r G v x → ∃ a, v = .ref a)
    (h : EvW m ta Γ n (rTup K (rId R)) fun x n1 => EvW m tb Γ n1 (rTup K (rId R)) fun y n2 => x = y ∧ Post false n2) : EvW m (tOp (rNeId K) ta tb) Γ n rBl Post := fun M σ H c e Q k =>
  h M σ H c e _ fun v x n1 H1 p1 e1 i1 r1 => p1 M σ H1 (c.go e1 i1) (e.mono (e1.hid c.mm)) _ fun u y n2 H2 p2 e2 i2 r2 => by
    obtain ⟨rfl, p⟩ := p2
    obtain ⟨a, vs, rfl, hs, hA, _⟩ := (rTup K (rId R)).mono (e2.hid c.mm) r1
    obtain ⟨b, ws, rfl, ht, hB, _⟩ := r2
    have key : ∀ {vs : List V} {l : List (V × α)}, Al (fun v x => (rId R).r (hid M H2) v x) vs l → vs = l.map Prod.fst ∧ ∃ ps : List Addr, vs = ps.map V.ref := by
      intro vs l h
      induction h with
      | nil => exact ⟨rfl, [], rfl⟩
      | @cons v x vs xs h _ ih =>
        obtain ⟨e1, ps, e2⟩ := ih
        obtain ⟨a, rfl⟩ := hr h.2
        exact ⟨by rw [List.map_cons, ← e1, ← h.1], a :: ps, by rw [e2]; rfl⟩
    obtain ⟨k1, ps, k2⟩ := key hA
    obtain ⟨k3, _⟩ := key hB
    rw [← k1] at k3
    subst k3
    rw [k2] at hs ht
    exact ⟨a, b, ps, rfl, rfl, ex_t hid_le hs, ex_t hid_le ht, k _ false n2 H2 p (e1.trans e2) i2 rfl⟩
/-! ### d != {} -/
def rNeD0 : R2 := fun x y H Q => ∃ a b ks, x = .ref a ∧ y = .ref b ∧ H a = some (.dK ks) ∧ H b = some (.dK []) ∧ Q (.bl (!decide (ks = []))) H
theorem op_neD0 (hu : X.A.units < cLine) : OpR X (compareOp .NotEq) rNeD0 := by
  intro pins s σ H x y v u Q I rx ry h
  obtain ⟨a, b, ks, rfl, rfl, ea, eb, q⟩ := h
  obtain rfl : v = Value.ref a := rx
  obtain rfl : u = Value.ref b := ry
  obtain ⟨_, ya, va, ra, da⟩ := (show ObjOk X.prog X.w H s.heap a (.dK ks) from I.hok a _ ea)
  obtain ⟨_, yb, vb, rb, db⟩ := (show ObjOk X.prog X.w H s.heap b (.dK []) from I.hok b _ eb)
  have hb : vb = [] := by cases rb; rfl
  subst hb
  refine PySem.W.keq_ne (knd := mixKind X.prog X.w) (r := true) ya yb da db hu (fun hl => ?_) ⟨.bl (!decide (ks = [])), H, I, ?_, q⟩
  · have h0 : va = [] := List.length_eq_zero_iff.mp hl
    subst h0
    have hk : ks = [] := by cases ra; rfl
    subst hk
    exact hits_all rb ra fun p hp => by cases hp
  · show Value.bool _ = Value.bool _
    have : va.length = ks.length := ra.length.symm
    cases ks with
    | nil => cases ra; rfl
    | cons p ks => cases ra; rfl
theorem ty_tup {α : Type} {R : Rl α} : TyW K (rTup K R) (.type "tuple") := fun G H v x r e => by
  obtain ⟨a, vs, rfl, hs, _⟩ := r
  rcases hs with (z | ⟨od, z⟩) | ⟨o, _, _, h1, h2, _⟩
  · exact .base (.tup (e _ _ z))
  · exact .fTuple (e _ _ z)
  · exact .kTuple h1 h2
/-! ### sorted of texts -/
theorem c_sortedS {l : List Str} (h64 : l.length < 64) : CbP (rSortedS K) [.mk (rLst K rStr) l] (rLst K rStr) fun y => y.Perm l := fun M H vs g a Q k => by
  obtain ⟨v, rfl, r⟩ := args1 a
  obtain ⟨ad, xs, rfl, hs, hA, hl⟩ := r
  have key : ∀ {vs : List V} {l : List Str} {G : Hp}, Al (fun v x => rStr.r G v x) vs l → vs = l.map V.str := by
    intro vs l G h
    induction h with
    | nil => rfl
    | cons h _ ih => rw [show _ = V.str _ from h, ih]; rfl
  have e := key hA
  subst e
  refine ⟨ad, l, rfl, .of (hid_le _ _ hs), h64, fun ys p hp _ hfree => ?_⟩
  have x := Evl.Ex.new (o := HO.lst (ys.map V.str)) hfree
  exact k _ _ ys hp x ⟨p, _, rfl, new_l hfree g, Al.map (P := fun v x => rStr.r _ v x) (fun _ => rfl) ys, by rw [hp.length_eq]; exact hl⟩
end
/-! ### a dict that is walked -/
def rFz (d : Addr) (od : Obj) (l : SD) : Rl Unit := ⟨fun G v _ => v = .ref d ∧ G d = some (.frz od (.dK (dk l))), fun e h => ⟨h.1, e _ _ h.2⟩⟩
section
variable {Z : Type} {m : Md Z} {Γ : Gm} {n : Z} {α β : Type} {R : Rl α} {K : PySem.W.Frag} {i : Nat} {d : Addr} {od : Obj} {l : SD} {tb : TE}
theorem i_keysFz {Post : List Str → Z → Prop} (h : Γ[i]? = some (some (.mk (rFz d od l) ()))) (p : Post (l.map (·.1)) n) : ItW m (iKeys (tVar i)) Γ n rStr Post := fun M σ H c e Y k => by
  obtain ⟨v, h1, rfl, h2⟩ := e.2 i _ h
  refine ⟨_, h1, d, od, rfl, .inl ⟨dk l, hid_le _ _ h2, k _ _ n H p .refl c.inv fun M' H' g x => ?_⟩⟩
  have hd : H' d = some (.frz od (.dK (dk l))) := hid_le _ _ (x _ _ h2)
  refine ⟨fun j y hy => ?_, ⟨hd, by unfold dk; rw [List.length_map, List.length_map]; exact Nat.le_refl _⟩⟩
  obtain ⟨hj, rfl⟩ := List.getElem?_eq_some_iff.mp hy
  have hj' : j < l.length := by simpa using hj
  refine ⟨⟨hd, by unfold dk; rw [List.length_map]; exact hj'⟩, fun v H2 hv => ?_⟩
  obtain ⟨rfl, k', w, e1, rfl⟩ := hv
  refine ⟨fun _ _ h => h, ?_⟩
  unfold dk at e1
  rw [List.getElem?_map, List.getElem?_eq_getElem hj'] at e1
  cases e1
  show V.str _ = V.str _
  rw [List.getElem_map]
theorem w_getFz {Post : Int → Z → Prop} (h : Γ[i]? = some (some (.mk (rFz d od l) ()))) (hb : EvW m tb Γ n rStr fun s n2 => ∃ j, lk l s = some j ∧ Post j n2) : EvW m (tDGet (tVar i) tb) Γ n rInt Post := fun M σ H c e Q k => by
  obtain ⟨v, h1, rfl, h2⟩ := e.2 i _ h
  refine ⟨_, h1, hb M σ H c e _ fun u s n2 H2 p2 e2 i2 r2 => ?_⟩
  obtain ⟨j, hj, p⟩ := p2
  have r2 : u = .str s := r2
  subst r2
  have h3 := hid_le _ _ (e2.hid (M := M) c.mm _ _ h2)
  refine ⟨d, .int j, rfl, .inl ⟨dk l, (Sum.inr s : Key), .inr ⟨od, h3⟩, rfl, ?_⟩, k _ j n2 H2 p e2 i2 rfl⟩
  rw [val_dk, hj]; rfl
/-- what is told of the data does not lean on a walked dict -/
def Skips (R : Rl α) : Prop := ∀ {G G' : Hp} {d : Addr} {od : Obj} {kvs : List (Key × V)} {v : V} {x : α}, (∀ a o, a ≠ d → G a = some o → G' a = some o) → G d = some (.frz od (.dK kvs)) → R.r G v x → R.r G' v x
theorem skips_prs : Skips (rLst K (rPr K rStr rInt)) := fun {G G' d od kvs v x} hk hd h => by
  obtain ⟨a, vs, rfl, h2, hA, hl⟩ := h
  refine ⟨a, vs, rfl, hk _ _ (fun z => by rw [z, hd] at h2; cases h2) h2, hA.mono fun v y q => ?_, hl⟩
  obtain ⟨b, u, w, rfl, q2, q3, q4⟩ := q
  refine ⟨b, u, w, rfl, ?_, q3, q4⟩
  rcases q2 with (z | ⟨o, z⟩) | z
  · exact .inl (.inl (hk _ _ (fun y => by rw [y, hd] at z; cases z) z))
  · exact .inl (.inr ⟨o, hk _ _ (fun y => by rw [y, hd] at z; cases z) z⟩)
  · exact .inr z
theorem w_lock {t : TE} {Post : α → Z → Prop} (hi : Γ[i]? = some (some (.mk rDic l))) (hf : ∀ {H : Hp} {n : Z} {d : Addr} {o : HO}, m.inv n H → (H d = some (.dK (dk l)) ∨ ∃ od, H d = some (.frz od (.dK (dk l)))) → ¬ m.foot d) (hR : Skips R)
    (h : ∀ d od, EvW m t ((List.replicate Γ.length none).set i (some (.mk (rFz d od l) ()))) n R Post) : EvW m (tLockE t) Γ n R Post := fun M σ H c e Q k => by
  obtain ⟨v, h1, d, rfl, h2, h3⟩ := e.2 i _ hi
  obtain ⟨nd, h2⟩ := hid_some h2
  refine ⟨d, _, h2, trivial, fun od => ?_⟩
  have nf : ¬ m.foot d := hf (o := .lst []) c.inv (.inl h2)
  have same : ∀ a, a ≠ d → upd H d (.frz od (.dK (dk l))) a = H a := fun a z => upd_ne z
  have c1 : Cond m M (upd H d (.frz od (.dK (dk l)))) n := ⟨fun a ma => by
    obtain ⟨o, q1, q2⟩ := c.good a ma
    exact ⟨o, by rw [same a fun z => nd (z ▸ ma)]; exact q1, q2⟩, c.mm, m.frame c.inv fun a fa => same a fun z => nf (z ▸ fa)⟩
  have hil : i < Γ.length := (List.getElem?_eq_some_iff.mp hi).1
  have en : EnvOk (hid M (upd H d (.frz od (.dK (dk l))))) σ ((List.replicate Γ.length none).set i (some (.mk (rFz d od l) ()))) := by
    refine ⟨by rw [List.length_set, List.length_replicate]; exact e.1, fun j f q => ?_⟩
    by_cases hj : i = j
    · subst hj
      rw [List.getElem?_set_self (by rw [List.length_replicate]; exact hil)] at q
      cases q
      exact ⟨_, h1, rfl, by rw [hid_no nd, upd_same]⟩
    · rw [List.getElem?_set_ne hj, List.getElem?_replicate] at q
      split at q <;> cases q
  refine h d od M σ _ c1 en _ fun v x n1 H2 p e2 i2 r2 => ?_
  have d2 : H2 d = some (.frz od (.dK (dk l))) := e2 d _ (fun z => nf (m.sub d z)) upd_same
  refine ⟨d2, k v x n1 _ p (fun a o na q => ?_) (m.frame i2 fun a fa => upd_ne fun z => nf (z ▸ fa)) ?_⟩
  · by_cases z : a = d
    · subst z
      rw [upd_same, ← q, h2]
    · rw [upd_ne z]
      exact e2 a o na (by rw [same a z]; exact q)
  · refine hR (G := hid M H2) (d := d) (od := od) (kvs := dk l) (fun a o z q => ?_) (by rw [hid_no nd]; exact d2) r2
    obtain ⟨na, q⟩ := hid_some q
    rw [hid_no na, upd_ne z]; exact q
end
end L2.Lc
end

-- part K05Text
section
set_option Elab.async false
set_option linter.all false
set_option maxRecDepth 100000
set_option maxHeartbeats 400000
namespace K05
open PySem PySem.Spec PyProof.Rows L2 L2.Lc
def top (i : Nat) : Stmt := PySem.Challenge.pw_longchances_k05_f_points_in_order_and_wh.main.body.getD i (.Pass ⟨0, 0, 0, 0⟩)
def clsBody : Stmt → List Stmt
  | .ClassDef _ _ _ b .. => b
  | _ => []
def mth (i j : Nat) : Stmt := (clsBody (top i)).getD j (.Pass ⟨0, 0, 0, 0⟩)
abbrev s_is_integer : Stmt := top 3
theorem sc_is_integer : FnScope ["value"] ["value"] (defScope s_is_integer) := ⟨rfl, rfl, rfl, by decide +kernel, rfl, by decide +kernel, by decide +kernel⟩
abbrev s_top_of : Stmt := top 9
theorem sc_top_of : FnScope ["value"] ["value"] (defScope s_top_of) := ⟨rfl, rfl, rfl, by decide +kernel, rfl, by decide +kernel, by decide +kernel⟩
abbrev s_bottom_of : Stmt := top 10
theorem sc_bottom_of : FnScope ["value"] ["value"] (defScope s_bottom_of) := ⟨rfl, rfl, rfl, by decide +kernel, rfl, by decide +kernel, by decide +kernel⟩
abbrev s_ascending_ratios : Stmt := top 12
theorem sc_ascending_ratios : FnScope ["values", "point", "value"] ["values"] (defScope s_ascending_ratios) := ⟨rfl, rfl, rfl, by decide +kernel, rfl, by decide +kernel, by decide +kernel⟩
abbrev s_ascending_points : Stmt := top 13
theorem sc_ascending_points : FnScope ["points", "whole", "point", "ratio", "known", "key"] ["points"] (defScope s_ascending_points) := ⟨rfl, rfl, rfl, by decide +kernel, rfl, by decide +kernel, by decide +kernel⟩
abbrev s_at_form : Stmt := top 14
theorem sc_at_form : FnScope ["form", "measures", "point", "found", "name", "ratio"] ["form", "measures", "point"] (defScope s_at_form) := ⟨rfl, rfl, rfl, by decide +kernel, rfl, by decide +kernel, by decide +kernel⟩
abbrev s_law_pen : Stmt := top 16
theorem sc_law_pen : FnScope ["script", "cell"] ["script"] (defScope s_law_pen) := ⟨rfl, rfl, rfl, by decide +kernel, rfl, by decide +kernel, by decide +kernel⟩
abbrev s_law_draw : Stmt := top 17
theorem sc_law_draw : FnScope ["pen", "many", "left", "turn", "cell", "mixed"] ["pen", "many"] (defScope s_law_draw) := ⟨rfl, rfl, rfl, by decide +kernel, rfl, by decide +kernel, by decide +kernel⟩
abbrev s_law_pick : Stmt := top 18
theorem sc_law_pick : FnScope ["pen", "some"] ["pen", "some"] (defScope s_law_pick) := ⟨rfl, rfl, rfl, by decide +kernel, rfl, by decide +kernel, by decide +kernel⟩
abbrev s_law_mixed : Stmt := top 19
theorem sc_law_mixed : FnScope ["pen", "some", "left", "found", "turn"] ["pen", "some"] (defScope s_law_mixed) := ⟨rfl, rfl, rfl, by decide +kernel, rfl, by decide +kernel, by decide +kernel⟩
abbrev s_law_unlike : Stmt := top 20
theorem sc_law_unlike : FnScope ["told", "due"] ["told", "due"] (defScope s_law_unlike) := ⟨rfl, rfl, rfl, by decide +kernel, rfl, by decide +kernel, by decide +kernel⟩
abbrev s_law_shared : Stmt := top 21
theorem sc_law_shared : FnScope ["one", "other"] ["one", "other"] (defScope s_law_shared) := ⟨rfl, rfl, rfl, by decide +kernel, rfl, by decide +kernel, by decide +kernel⟩
abbrev s_law_low : Stmt := top 22
theorem sc_law_low : FnScope ["top", "bottom", "shared"] ["top", "bottom"] (defScope s_law_low) := ⟨rfl, rfl, rfl, by decide +kernel, rfl, by decide +kernel, by decide +kernel⟩
abbrev s_law_plus : Stmt := top 23
theorem sc_law_plus : FnScope ["one", "other"] ["one", "other"] (defScope s_law_plus) := ⟨rfl, rfl, rfl, by decide +kernel, rfl, by decide +kernel, by decide +kernel⟩
abbrev s_law_is_less : Stmt := top 24
theorem sc_law_is_less : FnScope ["one", "other"] ["one", "other"] (defScope s_law_is_less) := ⟨rfl, rfl, rfl, by decide +kernel, rfl, by decide +kernel, by decide +kernel⟩
abbrev s_law_ratio : Stmt := top 25
theorem sc_law_ratio : FnScope ["one"] ["one"] (defScope s_law_ratio) := ⟨rfl, rfl, rfl, by decide +kernel, rfl, by decide +kernel, by decide +kernel⟩
abbrev s_law_pair : Stmt := top 26
theorem sc_law_pair : FnScope ["told"] ["told"] (defScope s_law_pair) := ⟨rfl, rfl, rfl, by decide +kernel, rfl, by decide +kernel, by decide +kernel⟩
abbrev s_law_form : Stmt := top 27
theorem sc_law_form : FnScope ["pen", "names", "most", "some", "name"] ["pen", "names", "most"] (defScope s_law_form) := ⟨rfl, rfl, rfl, by decide +kernel, rfl, by decide +kernel, by decide +kernel⟩
abbrev s_law_is_ahead : Stmt := top 28
theorem sc_law_is_ahead : FnScope ["one", "other", "mine", "its"] ["one", "other"] (defScope s_law_is_ahead) := ⟨rfl, rfl, rfl, by decide +kernel, rfl, by decide +kernel, by decide +kernel⟩
abbrev s_law_put_in : Stmt := top 29
theorem sc_law_put_in : FnScope ["points", "found", "point", "at", "one"] ["points"] (defScope s_law_put_in) := ⟨rfl, rfl, rfl, by decide +kernel, rfl, by decide +kernel, by decide +kernel⟩
abbrev s_law_drawn_pair : Stmt := top 30
theorem sc_law_drawn_pair : FnScope ["pen", "bottom"] ["pen"] (defScope s_law_drawn_pair) := ⟨rfl, rfl, rfl, by decide +kernel, rfl, by decide +kernel, by decide +kernel⟩
abbrev s_law : Stmt := top 31
theorem sc_law : FnScope ["script", "pen", "turn", "wide", "pool", "lap", "points", "spot", "told", "top", "bottom", "point", "due", "some", "found", "one", "single", "names", "pairs", "name", "pair", "other", "more", "both"] ["script"] (defScope s_law) := ⟨rfl, rfl, rfl, by decide +kernel, rfl, by decide +kernel, by decide +kernel⟩
abbrev s_Ratio___init__ : Stmt := mth 11 0
theorem sc_Ratio___init__ : FnScope ["self", "top", "bottom", "shared"] ["self", "top", "bottom"] (defScope s_Ratio___init__) := ⟨rfl, rfl, rfl, by decide +kernel, rfl, by decide +kernel, by decide +kernel⟩
abbrev s_Ratio___add__ : Stmt := mth 11 2
theorem sc_Ratio___add__ : FnScope ["self", "other"] ["self", "other"] (defScope s_Ratio___add__) := ⟨rfl, rfl, rfl, by decide +kernel, rfl, by decide +kernel, by decide +kernel⟩
abbrev s_Ratio___mul__ : Stmt := mth 11 6
theorem sc_Ratio___mul__ : FnScope ["self", "other"] ["self", "other"] (defScope s_Ratio___mul__) := ⟨rfl, rfl, rfl, by decide +kernel, rfl, by decide +kernel, by decide +kernel⟩
abbrev s_Ratio___eq__ : Stmt := mth 11 9
theorem sc_Ratio___eq__ : FnScope ["self", "other"] ["self", "other"] (defScope s_Ratio___eq__) := ⟨rfl, rfl, rfl, by decide +kernel, rfl, by decide +kernel, by decide +kernel⟩
def fn : List He.DefD := [
  ⟨("is_integer", none), "is_integer", "is_integer", defArgs s_is_integer, defBody s_is_integer, defScope s_is_integer, [], []⟩,
  ⟨("top_of", none), "top_of", "top_of", defArgs s_top_of, defBody s_top_of, defScope s_top_of, [], []⟩,
  ⟨("bottom_of", none), "bottom_of", "bottom_of", defArgs s_bottom_of, defBody s_bottom_of, defScope s_bottom_of, [], []⟩,
  ⟨("ascending_ratios", none), "ascending_ratios", "ascending_ratios", defArgs s_ascending_ratios, defBody s_ascending_ratios, defScope s_ascending_ratios, [], []⟩,
  ⟨("ascending_points", none), "ascending_points", "ascending_points", defArgs s_ascending_points, defBody s_ascending_points, defScope s_ascending_points, [], []⟩,
  ⟨("at_form", none), "at_form", "at_form", defArgs s_at_form, defBody s_at_form, defScope s_at_form, [], []⟩,
  ⟨("_law_pen", none), "_law_pen", "_law_pen", defArgs s_law_pen, defBody s_law_pen, defScope s_law_pen, [], []⟩,
  ⟨("_law_draw", none), "_law_draw", "_law_draw", defArgs s_law_draw, defBody s_law_draw, defScope s_law_draw, [], []⟩,
  ⟨("_law_pick", none), "_law_pick", "_law_pick", defArgs s_law_pick, defBody s_law_pick, defScope s_law_pick, [], []⟩,
  ⟨("_law_mixed", none), "_law_mixed", "_law_mixed", defArgs s_law_mixed, defBody s_law_mixed, defScope s_law_mixed, [], []⟩,
  ⟨("_law_unlike", none), "_law_unlike", "_law_unlike", defArgs s_law_unlike, defBody s_law_unlike, defScope s_law_unlike, [], []⟩,
  ⟨("_law_shared", none), "_law_shared", "_law_shared", defArgs s_law_shared, defBody s_law_shared, defScope s_law_shared, [], []⟩,
  ⟨("_law_low", none), "_law_low", "_law_low", defArgs s_law_low, defBody s_law_low, defScope s_law_low, [], []⟩,
  ⟨("_law_plus", none), "_law_plus", "_law_plus", defArgs s_law_plus, defBody s_law_plus, defScope s_law_plus, [], []⟩,
  ⟨("_law_is_less", none), "_law_is_less", "_law_is_less", defArgs s_law_is_less, defBody s_law_is_less, defScope s_law_is_less, [], []⟩,
  ⟨("_law_ratio", none), "_law_ratio", "_law_ratio", defArgs s_law_ratio, defBody s_law_ratio, defScope s_law_ratio, [], []⟩,
  ⟨("_law_pair", none), "_law_pair", "_law_pair", defArgs s_law_pair, defBody s_law_pair, defScope s_law_pair, [], []⟩,
  ⟨("_law_form", none), "_law_form", "_law_form", defArgs s_law_form, defBody s_law_form, defScope s_law_form, [], []⟩,
  ⟨("_law_is_ahead", none), "_law_is_ahead", "_law_is_ahead", defArgs s_law_is_ahead, defBody s_law_is_ahead, defScope s_law_is_ahead, [], []⟩,
  ⟨("_law_put_in", none), "_law_put_in", "_law_put_in", defArgs s_law_put_in, defBody s_law_put_in, defScope s_law_put_in, [], []⟩,
  ⟨("_law_drawn_pair", none), "_law_drawn_pair", "_law_drawn_pair", defArgs s_law_drawn_pair, defBody s_law_drawn_pair, defScope s_law_drawn_pair, [], []⟩,
  ⟨("law", none), "law", "law", defArgs s_law, defBody s_law, defScope s_law, [], []⟩,
  ⟨("Ratio", some "__init__"), "__init__", "Ratio.__init__", defArgs s_Ratio___init__, defBody s_Ratio___init__, defScope s_Ratio___init__, [.int 1], []⟩,
  ⟨("Ratio", some "__add__"), "__add__", "Ratio.__add__", defArgs s_Ratio___add__, defBody s_Ratio___add__, defScope s_Ratio___add__, [], []⟩,
  ⟨("Ratio", some "__mul__"), "__mul__", "Ratio.__mul__", defArgs s_Ratio___mul__, defBody s_Ratio___mul__, defScope s_Ratio___mul__, [], []⟩,
  ⟨("Ratio", some "__eq__"), "__eq__", "Ratio.__eq__", defArgs s_Ratio___eq__, defBody s_Ratio___eq__, defScope s_Ratio___eq__, [], []⟩]
def fa : List He.Fa := [.glo "is_integer", .glo "top_of", .glo "bottom_of", .glo "ascending_ratios", .glo "ascending_points", .glo "at_form", .glo "_law_pen", .glo "_law_draw", .glo "_law_pick", .glo "_law_mixed", .glo "_law_unlike", .glo "_law_shared", .glo "_law_low", .glo "_law_plus", .glo "_law_is_less", .glo "_law_ratio", .glo "_law_pair", .glo "_law_form", .glo "_law_is_ahead", .glo "_law_put_in", .glo "_law_drawn_pair", .glo "law", .free "len", .free "abs", .free "int", .free "tuple", .free "list", .free "dict", .free "sorted", .free "isinstance", .free "bool", .free "repr", .free "zip", .free "range", .glo "Ratio", .cls "Ratio", .noat "Ratio" "top", .noat "Ratio" "bottom", .meth "Ratio" "__init__", .meth "Ratio" "__add__", .meth "Ratio" "__mul__", .meth "Ratio" "__eq__", .mkr "Ratio"]
end K05
end

-- part K05Tx
section
set_option Elab.async false
set_option linter.all false
set_option maxRecDepth 100000
set_option maxHeartbeats 400000
namespace K05
open PySem PySem.Spec PyProof.Rows L2 L2.Lc
abbrev C0 (K : PySem.W.Frag) : Addr := He.ga K "Ratio"
def isRef : Option (Option Value) → Bool
  | some (some (.ref _)) => true
  | _ => false
def isSome : Option (Option Value) → Bool
  | some _ => true
  | _ => false
def ex (K : PySem.W.Frag) : Bool :=
  He.eqO (PySem.W.nsIn K mainGlobals "gcd") (some (some (.builtin "math.gcd"))) && (He.eqO (PySem.W.nsIn K mainGlobals "lcm") (some (some (.builtin "math.lcm"))) && (PySem.W.selfFirst K (C0 K) &&
  (He.eqO (PySem.W.findIn K (.ref (C0 K)) "__ne__") (some (some (.builtin "object.__ne__"))) && (decide (PySem.W.subIn K (.ref (C0 K)) (.type "object") = some true) && (decide (PySem.W.subIn K (.type "int") (.ref (C0 K)) = some false) &&
  (isRef (PySem.W.findIn K (.ref (C0 K)) "__rmul__") && (isSome (PySem.W.findIn K (.type "int") "__mul__") && (isSome (PySem.W.findIn K (.type "int") "__rmul__") &&
  (decide (PySem.W.kitOne K (.ref (C0 K)) (.ref (C0 K)) = some true) && (decide (PySem.W.kitOne K (.type "int") (.ref (C0 K)) = some false) && (decide (PySem.W.kitOne K (.type "int") (.type "int") = some true) && (decide (PySem.W.kitOne K (.type "int") (.type "bool") = some false) && (decide (PySem.W.kitOne K (.type "tuple") (.type "tuple") = some true) &&
  (He.eqO (PySem.W.findIn K (.ref (C0 K)) "__class__") (some (some (.builtin "object.__class__"))) && (He.eqO (PySem.W.specialIn K (.builtin "object.__class__") "__get__") (some (some (.builtin "getset_descriptor.__get__"))) && (decide (PySem.W.takesIn K (.builtin "object.__class__") = some true) && (decide (PySem.W.mroIn K (C0 K) (.type "object") = some true) && He.eqO (PySem.W.findIn K (.ref (C0 K)) "__hash__") (some (some .none)))))))))))))))))))
structure Tx (K : PySem.W.Frag) (mg : Str → Option Value) (C : Addr) : Prop where
  d_is_integer : FG K mg "is_integer" s_is_integer
  d_top_of : FG K mg "top_of" s_top_of
  d_bottom_of : FG K mg "bottom_of" s_bottom_of
  d_ascending_ratios : FG K mg "ascending_ratios" s_ascending_ratios
  d_ascending_points : FG K mg "ascending_points" s_ascending_points
  d_at_form : FG K mg "at_form" s_at_form
  d_law_pen : FG K mg "_law_pen" s_law_pen
  d_law_draw : FG K mg "_law_draw" s_law_draw
  d_law_pick : FG K mg "_law_pick" s_law_pick
  d_law_mixed : FG K mg "_law_mixed" s_law_mixed
  d_law_unlike : FG K mg "_law_unlike" s_law_unlike
  d_law_shared : FG K mg "_law_shared" s_law_shared
  d_law_low : FG K mg "_law_low" s_law_low
  d_law_plus : FG K mg "_law_plus" s_law_plus
  d_law_is_less : FG K mg "_law_is_less" s_law_is_less
  d_law_ratio : FG K mg "_law_ratio" s_law_ratio
  d_law_pair : FG K mg "_law_pair" s_law_pair
  d_law_form : FG K mg "_law_form" s_law_form
  d_law_is_ahead : FG K mg "_law_is_ahead" s_law_is_ahead
  d_law_put_in : FG K mg "_law_put_in" s_law_put_in
  d_law_drawn_pair : FG K mg "_law_drawn_pair" s_law_drawn_pair
  d_law : FG K mg "law" s_law
  m_init : FM K C "__init__" "Ratio.__init__" s_Ratio___init__ [.int 1]
  m_add : FM K C "__add__" "Ratio.__add__" s_Ratio___add__ []
  m_mul : FM K C "__mul__" "Ratio.__mul__" s_Ratio___mul__ []
  m_eq : FM K C "__eq__" "Ratio.__eq__" s_Ratio___eq__ []
  f_len : mg "len" = none
  f_abs : mg "abs" = none
  f_int : mg "int" = none
  f_tuple : mg "tuple" = none
  f_list : mg "list" = none
  f_dict : mg "dict" = none
  f_sorted : mg "sorted" = none
  f_isinstance : mg "isinstance" = none
  f_bool : mg "bool" = none
  f_repr : mg "repr" = none
  f_zip : mg "zip" = none
  f_range : mg "range" = none
  g_Ratio : mg "Ratio" = some (.ref C)
  g_gcd : mg "gcd" = some (.builtin "math.gcd")
  g_lcm : mg "lcm" = some (.builtin "math.lcm")
  cls : Cls K C
  no_top : NoAttr K C "top"
  no_bottom : NoAttr K C "bottom"
  makes : PySem.W.makesIn K C = true
  kpC : PySem.W.keepIn K (.ref C) = true
  first : PySem.W.selfFirst K C = true
  ne : PySem.W.findIn K (.ref C) "__ne__" = some (some (.builtin "object.__ne__"))
  obj : PySem.W.subIn K (.ref C) (.type "object") = some true
  int_sub : PySem.W.subIn K (.type "int") (.ref C) = some false
  rmul : ∃ g : Addr, PySem.W.findIn K (.ref C) "__rmul__" = some (some (.ref g))
  int_mul : ∃ o, PySem.W.findIn K (.type "int") "__mul__" = some o
  int_rmul : ∃ o, PySem.W.findIn K (.type "int") "__rmul__" = some o
  kitCC : PySem.W.kitOne K (.ref C) (.ref C) = some true
  kitIC : PySem.W.kitOne K (.type "int") (.ref C) = some false
  kitII : PySem.W.kitOne K (.type "int") (.type "int") = some true
  kitIB : PySem.W.kitOne K (.type "int") (.type "bool") = some false
  kitTT : PySem.W.kitOne K (.type "tuple") (.type "tuple") = some true
  isi : IsiC K C
theorem isRef_ok {o : Option (Option Value)} (h : isRef o = true) : ∃ g : Addr, o = some (some (.ref g)) := by
  unfold isRef at h
  split at h
  · exact ⟨_, rfl⟩
  · cases h
theorem isSome_ok {o : Option (Option Value)} (h : isSome o = true) : ∃ g, o = some g := by
  unfold isSome at h
  split at h
  · exact ⟨_, rfl⟩
  · cases h
theorem fg_of {K : PySem.W.Frag} {h : Heap} {mg : Str → Option Value} (X : K.In h) (G : h.Ns mainGlobals mg) {x : Str} {st : Stmt} (c : (He.Fa.glo x).ok K = true) (d : ∃ fd, FunD K x x (defArgs st) (defBody st) (defScope st) [] [] (He.ga K x) fd) : FG K mg x st := by
  obtain ⟨fd, F⟩ := d
  exact ⟨_, fd, F, He.glo_ok X G c⟩
theorem fm_of {K : PySem.W.Frag} {x m qual : Str} {st : Stmt} {dvs : List V} (c : (He.Fa.meth x m).ok K = true) (d : ∃ fd, FunD K m qual (defArgs st) (defBody st) (defScope st) dvs [] (He.ma K (He.ga K x) m) fd) : FM K (He.ga K x) m qual st dvs := by
  obtain ⟨fd, F⟩ := d
  have M := He.meth_ok c
  exact ⟨_, fd, F, M.at_, M.fn⟩
theorem tx {K : PySem.W.Frag} {h : Heap} {mg : Str → Option Value} (X : K.In h) (G : h.Ns mainGlobals mg) (c : SaysL fa ex fn K) : Tx K mg (C0 K) := by
  have e := c.e
  unfold ex at e
  simp only [Bool.and_eq_true, decide_eq_true_eq] at e
  obtain ⟨e1, e2, e3, e4, e5, e6, e7, e8, e9, e10, e11, e12, e13, e14, e15, e16, e17, e18, e19⟩ := e
  exact ⟨fg_of X G (c.d.fact 0 (f := .glo "is_integer") rfl) (c.d.def_ 0 rfl),
    fg_of X G (c.d.fact 1 (f := .glo "top_of") rfl) (c.d.def_ 1 rfl),
    fg_of X G (c.d.fact 2 (f := .glo "bottom_of") rfl) (c.d.def_ 2 rfl),
    fg_of X G (c.d.fact 3 (f := .glo "ascending_ratios") rfl) (c.d.def_ 3 rfl),
    fg_of X G (c.d.fact 4 (f := .glo "ascending_points") rfl) (c.d.def_ 4 rfl),
    fg_of X G (c.d.fact 5 (f := .glo "at_form") rfl) (c.d.def_ 5 rfl),
    fg_of X G (c.d.fact 6 (f := .glo "_law_pen") rfl) (c.d.def_ 6 rfl),
    fg_of X G (c.d.fact 7 (f := .glo "_law_draw") rfl) (c.d.def_ 7 rfl),
    fg_of X G (c.d.fact 8 (f := .glo "_law_pick") rfl) (c.d.def_ 8 rfl),
    fg_of X G (c.d.fact 9 (f := .glo "_law_mixed") rfl) (c.d.def_ 9 rfl),
    fg_of X G (c.d.fact 10 (f := .glo "_law_unlike") rfl) (c.d.def_ 10 rfl),
    fg_of X G (c.d.fact 11 (f := .glo "_law_shared") rfl) (c.d.def_ 11 rfl),
    fg_of X G (c.d.fact 12 (f := .glo "_law_low") rfl) (c.d.def_ 12 rfl),
    fg_of X G (c.d.fact 13 (f := .glo "_law_plus") rfl) (c.d.def_ 13 rfl),
    fg_of X G (c.d.fact 14 (f := .glo "_law_is_less") rfl) (c.d.def_ 14 rfl),
    fg_of X G (c.d.fact 15 (f := .glo "_law_ratio") rfl) (c.d.def_ 15 rfl),
    fg_of X G (c.d.fact 16 (f := .glo "_law_pair") rfl) (c.d.def_ 16 rfl),
    fg_of X G (c.d.fact 17 (f := .glo "_law_form") rfl) (c.d.def_ 17 rfl),
    fg_of X G (c.d.fact 18 (f := .glo "_law_is_ahead") rfl) (c.d.def_ 18 rfl),
    fg_of X G (c.d.fact 19 (f := .glo "_law_put_in") rfl) (c.d.def_ 19 rfl),
    fg_of X G (c.d.fact 20 (f := .glo "_law_drawn_pair") rfl) (c.d.def_ 20 rfl),
    fg_of X G (c.d.fact 21 (f := .glo "law") rfl) (c.d.def_ 21 rfl),
    fm_of (c.d.fact 38 (f := .meth "Ratio" "__init__") rfl) (c.d.def_ 22 rfl),
    fm_of (c.d.fact 39 (f := .meth "Ratio" "__add__") rfl) (c.d.def_ 23 rfl),
    fm_of (c.d.fact 40 (f := .meth "Ratio" "__mul__") rfl) (c.d.def_ 24 rfl),
    fm_of (c.d.fact 41 (f := .meth "Ratio" "__eq__") rfl) (c.d.def_ 25 rfl),
    He.free_ok X G (c.d.fact 22 (f := .free "len") rfl),
    He.free_ok X G (c.d.fact 23 (f := .free "abs") rfl),
    He.free_ok X G (c.d.fact 24 (f := .free "int") rfl),
    He.free_ok X G (c.d.fact 25 (f := .free "tuple") rfl),
    He.free_ok X G (c.d.fact 26 (f := .free "list") rfl),
    He.free_ok X G (c.d.fact 27 (f := .free "dict") rfl),
    He.free_ok X G (c.d.fact 28 (f := .free "sorted") rfl),
    He.free_ok X G (c.d.fact 29 (f := .free "isinstance") rfl),
    He.free_ok X G (c.d.fact 30 (f := .free "bool") rfl),
    He.free_ok X G (c.d.fact 31 (f := .free "repr") rfl),
    He.free_ok X G (c.d.fact 32 (f := .free "zip") rfl),
    He.free_ok X G (c.d.fact 33 (f := .free "range") rfl),
    He.glo_ok X G (c.d.fact 34 (f := .glo "Ratio") rfl),
    PySem.W.mg_of X G (He.eqO_ok e1),
    PySem.W.mg_of X G (He.eqO_ok e2),
    He.cls_ok (c.d.fact 35 (f := .cls "Ratio") rfl),
    He.noat_ok (c.d.fact 36 (f := .noat "Ratio" "top") rfl),
    He.noat_ok (c.d.fact 37 (f := .noat "Ratio" "bottom") rfl),
    (He.mkr_ok (c.d.fact 42 (f := .mkr "Ratio") rfl)).makes,
    (He.mkr_ok (c.d.fact 42 (f := .mkr "Ratio") rfl)).kp,
    e3,
    He.eqO_ok e4,
    e5,
    e6,
    isRef_ok e7,
    isSome_ok e8,
    isSome_ok e9,
    e10,
    e11,
    e12,
    e13,
    e14,
    ⟨He.cls_ok (c.d.fact 35 (f := .cls "Ratio") rfl), He.eqO_ok e15, He.eqO_ok e16, e17, e18⟩⟩
end K05
end

-- part K05A
section
set_option Elab.async false
set_option linter.all false
set_option maxRecDepth 100000
set_option maxHeartbeats 400000
namespace K05
open PySem PySem.Spec PyProof.Rows L2 L2.Lc
section
variable {P : Program} {w : World} {K : PySem.W.Frag} {mg : Str → Option Value} {base : Heap} {C : Addr}
/-- a Ratio is a fraction -/
def rRat (C : Addr) : Rl Rat := rIns C fun q => [("top", .mk rInt q.num), ("bottom", .mk rInt (q.den : Int))]
abbrev A1 {α : Type} (R : Rl α) : α → List Ent := fun x => [.mk R x]
abbrev A2 {α β : Type} (R : Rl α) (S : Rl β) : α × β → List Ent := fun p => [.mk R p.1, .mk S p.2]
abbrev spIsInt : Sp := spP (A1 rInt) (fun _ => True) rBl fun _ b => b = true
theorem c_is_integer (T : Tx K mg C) : Cal P w K mg base "is_integer" 1 ["value"] spIsInt :=
  T.d_is_integer.cal (fun _ _ _ _ _ _ us hl => match us, hl with | [_], _ => rfl) fun f fd F => fnP F sc_is_integer (fun _ => rfl) fun cdv A outer s H E hr => ⟨_, (pss_one (ps_ret (pe_and (pe_callB (r := rIsi K) call_isi (by rfl) T.f_isinstance boot_isinstance (pa_cons (pv 0) (pa_cons (pe_bltn (v := .ty "int") rfl T.f_int boot_int rfl) pa_nil))) (pe_one (pe_not (pe_callB (r := rIsi K) call_isi (by rfl) T.f_isinstance boot_isinstance (pa_cons (pv 0) (pa_cons (pe_bltn (v := .ty "bool") rfl T.f_bool boot_bool rfl) pa_nil)))))))),
    fun x _ => by
      refine s_ret (w_andV (w_cb (a_cons (w_var rfl (a_cons (w_ty (a_nil ⟨true, c_isiT ty_int T.kitII, fun _ => ?_, fun z => by cases z⟩)))))))
      exact w_notV (w_cb (a_cons (w_var rfl (a_cons (w_ty (a_nil ⟨false, c_isiT ty_int T.kitIB, rfl⟩))))))⟩

abbrev spBotR (C : Addr) : Sp := spP (A1 (rRat C)) (fun _ => True) rInt fun q b => b = (q.den : Int)
theorem c_bottom_ofR (T : Tx K mg C) : Cal P w K mg base "bottom_of" 1 ["value"] (spBotR C) :=
  T.d_bottom_of.cal (fun _ _ _ _ _ _ us hl => match us, hl with | [_], _ => rfl) fun f fd F => fnP F sc_bottom_of (fun _ => rfl) fun cdv A outer s H E hr => ⟨_, (pss_one (ps_ret (pe_ifExp (pt_val (pe_callB (r := rIsi K) call_isi (by rfl) T.f_isinstance boot_isinstance (pa_cons (pv 0) (pa_cons (pe_glob (v := .ref C) rfl T.g_Ratio rfl) pa_nil)))) (kfld (K := K) rfl (pv 0) rfl) pe_int))),
    fun x _ => by
      refine s_ret (w_if (t_B (w_cb (a_cons (w_var rfl (a_cons (w_at (a_nil ⟨true, c_isiC (ty_ins T.isi) T.kitCC, fun _ => ?_, fun z => by cases z⟩))))))))
      exact w_fld T.cls T.no_bottom (w_var rfl ⟨_, rfl, rfl⟩)⟩
abbrev spBotI : Sp := spP (A1 rInt) (fun _ => True) rInt fun _ b => b = 1
theorem c_bottom_ofI (T : Tx K mg C) : Cal P w K mg base "bottom_of" 1 ["value"] spBotI :=
  T.d_bottom_of.cal (fun _ _ _ _ _ _ us hl => match us, hl with | [_], _ => rfl) fun f fd F => fnP F sc_bottom_of (fun _ => rfl) fun cdv A outer s H E hr => ⟨_, (pss_one (ps_ret (pe_ifExp (pt_val (pe_callB (r := rIsi K) call_isi (by rfl) T.f_isinstance boot_isinstance (pa_cons (pv 0) (pa_cons (pe_glob (v := .ref C) rfl T.g_Ratio rfl) pa_nil)))) (kfld (K := K) rfl (pv 0) rfl) pe_int))),
    fun x _ => by
      refine s_ret (w_if (t_B (w_cb (a_cons (w_var rfl (a_cons (w_at (a_nil ⟨false, c_isiC ty_int T.kitIC, (fun z => by cases z), fun _ => ?_⟩))))))))
      exact w_int rfl⟩
abbrev spTopR (C : Addr) : Sp := spP (A1 (rRat C)) (fun _ => True) rInt fun q b => b = q.num
theorem c_top_ofR (T : Tx K mg C) : Cal P w K mg base "top_of" 2 ["value"] (spTopR C) :=
  T.d_top_of.cal (fun _ _ _ _ _ _ us hl => match us, hl with | [_], _ => rfl) fun f fd F => fnP F sc_top_of (fun _ => rfl) fun cdv A outer s H E hr => ⟨_, (pss_cons (ps_if (pt_val (pe_callB (r := rIsi K) call_isi (by rfl) T.f_isinstance boot_isinstance (pa_cons (pv 0) (pa_cons (pe_glob (v := .ref C) rfl T.g_Ratio rfl) pa_nil)))) (pss_one (ps_ret (kfld (K := K) rfl (pv 0) rfl))) pss_nil)
  (pss_cons (ps_if (pt_not (pt_val (pe_cal (c_is_integer T) (hr.mono (by decide)) rfl (pa_cons (pv 0) pa_nil)))) pss_never pss_nil)
  (pss_one (ps_ret (pv 0))))),
    fun x _ => by
      refine s_seq (s_if (t_B (w_cb (a_cons (w_var rfl (a_cons (w_at (a_nil ⟨true, c_isiC (ty_ins T.isi) T.kitCC, fun _ => ?_, fun z => by cases z⟩))))))))
      exact s_ret (w_fld T.cls T.no_top (w_var rfl ⟨_, rfl, rfl⟩))⟩
abbrev spTopI : Sp := spP (A1 rInt) (fun _ => True) rInt fun i b => b = i
theorem c_top_ofI (T : Tx K mg C) : Cal P w K mg base "top_of" 2 ["value"] spTopI :=
  T.d_top_of.cal (fun _ _ _ _ _ _ us hl => match us, hl with | [_], _ => rfl) fun f fd F => fnP F sc_top_of (fun _ => rfl) fun cdv A outer s H E hr => ⟨_, (pss_cons (ps_if (pt_val (pe_callB (r := rIsi K) call_isi (by rfl) T.f_isinstance boot_isinstance (pa_cons (pv 0) (pa_cons (pe_glob (v := .ref C) rfl T.g_Ratio rfl) pa_nil)))) (pss_one (ps_ret (kfld (K := K) rfl (pv 0) rfl))) pss_nil)
  (pss_cons (ps_if (pt_not (pt_val (pe_cal (c_is_integer T) (hr.mono (by decide)) rfl (pa_cons (pv 0) pa_nil)))) pss_never pss_nil)
  (pss_one (ps_ret (pv 0))))),
    fun x _ => by
      refine s_seq (s_if (t_B (w_cb (a_cons (w_var rfl (a_cons (w_at (a_nil ⟨false, c_isiC ty_int T.kitIC, (fun z => by cases z), fun _ => s_next ?_⟩))))))))
      refine s_seq (s_if (t_not (t_B (w_callP (a_cons (w_var rfl (a_nil ⟨x, rfl, trivial, fun y hy => ⟨fun z => ?_, fun _ => s_next ?_⟩⟩)))))))
      · subst hy; cases z
      · exact s_ret (w_var rfl rfl)⟩
end
end K05
end

-- part K05B
section
set_option Elab.async false
set_option linter.all false
set_option maxRecDepth 100000
set_option maxHeartbeats 400000
namespace K05
open PySem PySem.Spec PyProof.Rows L2 L2.Lc
theorem gcd_log {a b : Int} (hb : 0 < b) (hl : b.natAbs.log2 < 9000) : ((Nat.gcd a.natAbs b.natAbs : Nat) : Int).natAbs.log2 < 9000 := by
  rw [Int.natAbs_natCast]
  have h1 : Nat.gcd a.natAbs b.natAbs ≤ b.natAbs := Nat.gcd_le_right _ (by omega)
  have h2 : Nat.gcd a.natAbs b.natAbs ≠ 0 := by
    intro z
    have := Nat.eq_zero_of_gcd_eq_zero_right z
    omega
  refine Nat.lt_of_le_of_lt ?_ hl
  exact (Nat.le_log2 (by omega)).2 (Nat.le_trans (Nat.log2_self_le h2) h1)
theorem num_div {a b : Int} (hb : 0 < b) : a / ((Nat.gcd a.natAbs b.natAbs : Nat) : Int) = (Rat.divInt a b).num := by
  rw [Rat.num_divInt, Int.sign_eq_one_of_pos hb, Int.one_mul]
  show _ = a / ((Nat.gcd b.natAbs a.natAbs : Nat) : Int)
  rw [Nat.gcd_comm]
theorem den_div {a b : Int} (hb : 0 < b) : b / ((Nat.gcd a.natAbs b.natAbs : Nat) : Int) = ((Rat.divInt a b).den : Int) := by
  rw [Rat.den_divInt, if_neg (by omega)]
  show _ = (((b.natAbs / Nat.gcd b.natAbs a.natAbs : Nat)) : Int)
  rw [Nat.gcd_comm, Int.natCast_ediv, Int.natAbs_of_nonneg (by omega)]
section
variable {P : Program} {w : World} {K : PySem.W.Frag} {mg : Str → Option Value} {base : Heap} {C : Addr}
abbrev fsRat : Rat → List (Str × Ent) := fun q => [("top", .mk rInt q.num), ("bottom", .mk rInt (q.den : Int))]
abbrev preR : Int × Int → Prop := fun p => 0 < p.2 ∧ p.2.natAbs.log2 < 9000
abbrev spInit (C : Addr) : Sp := spI C (A2 rInt rInt) preR fun p => fsRat (Rat.divInt p.1 p.2)
theorem ok_init (T : Tx K mg C) (f : Addr) (fd : FuncData) (F : FunD K "__init__" "Ratio.__init__" (defArgs s_Ratio___init__) (defBody s_Ratio___init__) (defScope s_Ratio___init__) [.int 1] [] f fd) : FnOk P w K mg base CX0 2 f fd ["self", "top", "bottom"] (spInit C) :=
  fnI F sc_Ratio___init__ (fun _ => rfl) fun cdv A outer s H E hr => ⟨_, (pss_cons (ps_if (pt_not (pt_val (pe_cal (c_is_integer T) (hr.mono (by decide)) rfl (pa_cons (pv 1) pa_nil)))) pss_never pss_nil)
  (pss_cons (ps_if (PW.pt (pw_or (pt_not (pt_val (pe_cal (c_is_integer T) (hr.mono (by decide)) rfl (pa_cons (pv 2) pa_nil)))) (pw_or1 (pt_cmpR op_eq (pv 2) pe_int (nomark _))))) pss_never pss_nil)
  (pss_cons (ps_set (i := 3) sc_Ratio___init__.nd rfl (by first | exact Or.inl rfl | exact Or.inr rfl) (pe_ifExp (pt_cmpR op_gt (pv 2) pe_int (nomark _)) (pe_callBfun cr_gcd (by rfl) T.g_gcd (pa_cons (pv 1) (pa_cons (pv 2) pa_nil))) (pe_un un_neg (pe_callBfun cr_gcd (by rfl) T.g_gcd (pa_cons (pv 1) (pa_cons (pv 2) pa_nil))))))
  (pss_cons (ksfld (K := K) rfl (pv 0) (pe_op op_fdivW (pv 1) (pv 3)) rfl)
  (pss_one (ksfld (K := K) rfl (pv 0) (pe_op op_fdivW (pv 2) (pv 3)) rfl)))))),
    fun a dx x hp => by
      obtain ⟨p, q⟩ := x
      obtain ⟨h1, h2⟩ := hp
      have h1 : 0 < q := h1
      have h2 : q.natAbs.log2 < 9000 := h2
      have hz : q ≠ 0 := by omega
      refine s_seq (s_if (t_not (t_B (w_callP (a_cons (w_var rfl (a_nil ⟨p, rfl, trivial, fun y hy => ⟨fun z => ?_, fun _ => s_next ?_⟩⟩)))))))
      · subst hy; cases z
      refine s_seq (s_if (t_or (t_not (t_B (w_callP (a_cons (w_var rfl (a_nil ⟨q, rfl, trivial, fun y hy => ⟨fun z => t_test (w_op0 o_eqI (w_var rfl (w_int ⟨fun z => ?_, fun _ => s_next ?_⟩))), fun z => ?_⟩⟩))))))))
      · exact absurd (of_decide_eq_true z) hz
      · refine s_seq (s_set (R := rInt) (w_if (t_test (w_op0 o_cmp (w_var rfl (w_int ⟨fun _ => ?_, fun z => ?_⟩))))))
        · refine w_cb (a_cons (w_var rfl (a_cons (w_var rfl (a_nil ⟨_, c_gcd, ?_⟩)))))
          refine s_seq (s_fldI T.cls T.no_top (w_op o_intC (w_var rfl (w_var rfl ⟨⟨?_, gcd_log h1 h2⟩, w_var rfl ⟨by simp, ?_⟩⟩))))
          · have : Nat.gcd p.natAbs q.natAbs ≠ 0 := fun z => by have := Nat.eq_zero_of_gcd_eq_zero_right z; omega
            show (0 : Int) < ((Nat.gcd p.natAbs q.natAbs : Nat) : Int)
            omega
          refine s_fldI T.cls T.no_bottom (w_op o_intC (w_var rfl (w_var rfl ⟨⟨?_, gcd_log h1 h2⟩, w_var rfl ⟨by simp [putF], ?_⟩⟩)))
          · have : Nat.gcd p.natAbs q.natAbs ≠ 0 := fun z => by have := Nat.eq_zero_of_gcd_eq_zero_right z; omega
            show (0 : Int) < ((Nat.gcd p.natAbs q.natAbs : Nat) : Int)
            omega
          refine ⟨rfl, ?_, rfl, ?_, trivial⟩
          · exact congrArg V.int (num_div h1)
          · exact congrArg V.int (den_div h1)
        · exact absurd h1 (of_decide_eq_false z)
      · subst hy; cases z⟩
theorem mk_Ratio (T : Tx K mg C) : MkC P w K mg base "Ratio" C 2 ["self", "top", "bottom"] [] (spInit C) :=
  mkC_of T.m_init rfl T.makes T.kpC T.g_Ratio [] (fun f fd F => F.binds1 3 1 (by simp) rfl fun _ _ _ _ _ _ _ us its h1 h2 => match us, its, h1, h2 with | [_, _, _], [_], _, _ => ⟨_, rfl, rfl⟩) (ok_init T)
theorem mk_Ratio_d (T : Tx K mg C) : MkC P w K mg base "Ratio" C 2 ["self", "top", "bottom"] [.int 1] (spInit C) :=
  mkC_of T.m_init rfl T.makes T.kpC T.g_Ratio [.int 1] (fun f fd F => F.binds1 2 0 (by simp) rfl fun _ _ _ _ _ _ _ us its h1 h2 => match us, its, h1, h2 with | [_, _], [_], _, _ => ⟨_, rfl, rfl⟩) (ok_init T)
variable {Z : Type} {m : Md Z} {Γ : Gm} {n : Z}
theorem w_ratio {t : TA} {E : XK} {Post : Rat → Z → Prop} (h : ArW m t Γ n fun es n1 => ∃ a b : Int, es = [.mk rInt a, .mk rInt b] ∧ (0 < b ∧ b.natAbs.log2 < 9000) ∧ Post (Rat.divInt a b) n1) : EvW m (tMake C (spInit C) [] E t) Γ n (rRat C) Post :=
  w_as (fun p => Rat.divInt p.1 p.2) (fun _ _ _ r => r) (w_make [] (fun _ => trivial) fun M σ H c e Q k => h M σ H c e Q fun vs es n' H' ⟨a, b, h1, h2, h3⟩ => k vs es n' H' ⟨(a, b), by rw [h1]; rfl, h2, h3⟩)
theorem w_ratio1 {t : TA} {E : XK} {Post : Rat → Z → Prop} (h : ArW m t Γ n fun es n1 => ∃ a : Int, es = [.mk rInt a] ∧ Post (a : Rat) n1) : EvW m (tMake C (spInit C) [.int 1] E t) Γ n (rRat C) Post :=
  w_as (fun p => Rat.divInt p.1 p.2) (fun _ _ _ r => r) (w_make [.mk rInt 1] (fun _ => ⟨rfl, trivial⟩) fun M σ H c e Q k => h M σ H c e Q fun vs es n' H' ⟨a, h1, h3⟩ => k vs es n' H' ⟨(a, 1), by rw [h1]; rfl, ⟨show (0 : Int) < 1 by decide, show (1 : Int).natAbs.log2 < 9000 by decide⟩, by
    have : Rat.divInt a 1 = (a : Rat) := by
      exact Rat.num_divInt_den (a : Rat)
    show Post (Rat.divInt a 1) n'
    rw [this]; exact h3⟩)
end
end K05
end

-- part K05C
section
set_option Elab.async false
set_option linter.all false
set_option maxRecDepth 100000
set_option maxHeartbeats 400000
namespace K05
open PySem PySem.Spec PyProof.Rows L2 L2.Lc
/-! ### sizes -/
def Sz (n : Nat) (q : Rat) : Prop := q.num.natAbs < 2 ^ n ∧ q.den < 2 ^ n
theorem Sz.mono {m n : Nat} {q : Rat} (h : Sz m q) (l : m ≤ n) : Sz n q := ⟨Nat.lt_of_lt_of_le h.1 (Nat.pow_le_pow_right (by decide) l), Nat.lt_of_lt_of_le h.2 (Nat.pow_le_pow_right (by decide) l)⟩
theorem Sz.mk {m : Nat} {a : Int} {d : Nat} (h1 : a.natAbs < 2 ^ m) (h2 : d < 2 ^ m) (h3 : d ≠ 0) : Sz m (mkRat a d) := by
  refine ⟨?_, ?_⟩
  · rw [Rat.num_mkRat, if_neg h3]
    exact Nat.lt_of_le_of_lt (Int.natAbs_ediv_le_natAbs _ _) h1
  · rw [Rat.den_mkRat, if_neg h3]
    exact Nat.lt_of_le_of_lt (Nat.div_le_self _ _) h2
theorem mul_pow {a b m n : Nat} (h1 : a < 2 ^ m) (h2 : b < 2 ^ n) : a * b < 2 ^ (m + n) := by
  rw [Nat.pow_add]; exact Nat.mul_lt_mul'' h1 h2
theorem Sz.add {m n : Nat} {q r : Rat} (h : Sz m q) (g : Sz n r) : Sz (m + n + 1) (q + r) := by
  rw [Rat.add_def']
  have a1 := mul_pow h.1 g.2
  have a2 := mul_pow g.1 h.2
  have a3 := mul_pow h.2 g.2
  rw [Nat.add_comm n m] at a2
  have e : (2 : Nat) ^ (m + n + 1) = 2 ^ (m + n) + 2 ^ (m + n) := by rw [Nat.pow_succ]; omega
  refine .mk ?_ ?_ (Nat.mul_ne_zero q.den_nz r.den_nz)
  · have t := Int.natAbs_add_le (q.num * (r.den : Int)) (r.num * (q.den : Int))
    rw [Int.natAbs_mul, Int.natAbs_mul, Int.natAbs_natCast, Int.natAbs_natCast] at t
    omega
  · omega
theorem Sz.mul {m n : Nat} {q : Rat} {i : Int} (h : Sz m q) (g : i.natAbs < 2 ^ n) : Sz (m + n) (q * (i : Rat)) := by
  rw [Rat.mul_def']
  refine .mk ?_ ?_ (Nat.mul_ne_zero q.den_nz (i : Rat).den_nz)
  · show (q.num * i).natAbs < _
    rw [Int.natAbs_mul]
    exact mul_pow h.1 g
  · show q.den * 1 < _
    rw [Nat.mul_one]
    exact Nat.lt_of_lt_of_le h.2 (Nat.pow_le_pow_right (by decide) (by omega))
theorem Sz.num {m : Nat} {q : Rat} (h : Sz m q) (hm : 0 < m) : q.num.natAbs.log2 < m := PySem.Flt.log2_lt_of hm h.1
theorem Sz.den {m : Nat} {q : Rat} (h : Sz m q) (hm : 0 < m) : (q.den : Int).natAbs.log2 < m := by rw [Int.natAbs_natCast]; exact PySem.Flt.log2_lt_of hm h.2
theorem add_as (q r : Rat) : Rat.divInt (q.num * (r.den : Int) + r.num * (q.den : Int)) ((q.den : Int) * (r.den : Int)) = q + r := by
  rw [Rat.add_def', ← Int.natCast_mul, Rat.divInt_ofNat]
theorem mul_as (q : Rat) (i : Int) : Rat.divInt (q.num * i) ((q.den : Int) * 1) = q * (i : Rat) := by
  rw [Rat.mul_def', Int.mul_one, Rat.divInt_ofNat]
  show _ = mkRat (q.num * i) (q.den * 1)
  rw [Nat.mul_one]
theorem den_pos (q : Rat) : (0 : Int) < (q.den : Int) := by have := q.den_pos; omega
section
variable {P : Program} {w : World} {K : PySem.W.Frag} {mg : Str → Option Value} {base : Heap} {C : Addr}
abbrev spAdd (C : Addr) : Sp := spP (A2 (rRat C) (rRat C)) (fun p => Sz 4000 p.1 ∧ Sz 4000 p.2) (rRat C) fun p y => y = p.1 + p.2
theorem o_add (T : Tx K mg C) : OwnM P w K mg base C "__add__" 4 ["self", "other"] (spAdd C) :=
  T.m_add.own (fun _ _ _ _ _ _ us hl => match us, hl with | [_, _], _ => rfl) T.cls T.first fun f fd F => fnP F sc_Ratio___add__ (fun _ => rfl) fun cdv A outer s H E hr => ⟨_, (pss_one (ps_ret (pe_mkC (mk_Ratio T) (hr.mono (by decide)) rfl (pa_cons (pe_op op_add (pe_op op_mulW (kfld (K := K) rfl (pv 0) rfl) (pe_cal (c_bottom_ofR T) (hr.mono (by decide)) rfl (pa_cons (pv 1) pa_nil))) (pe_op op_mulW (pe_cal (c_top_ofR T) (hr.mono (by decide)) rfl (pa_cons (pv 1) pa_nil)) (kfld (K := K) rfl (pv 0) rfl))) (pa_cons (pe_op op_mulW (kfld (K := K) rfl (pv 0) rfl) (pe_cal (c_bottom_ofR T) (hr.mono (by decide)) rfl (pa_cons (pv 1) pa_nil))) pa_nil))))),
    fun x hp => by
      obtain ⟨q, r⟩ := x
      obtain ⟨h1, h2⟩ := hp
      have a1 := h1.num (by decide)
      have a2 := h1.den (by decide)
      have b1 := h2.num (by decide)
      have b2 := h2.den (by decide)
      dsimp only at a1 a2 b1 b2
      refine s_ret (w_ratio (a_cons (w_op0 o_int (w_op o_intC (w_fld T.cls T.no_top (w_var rfl ⟨_, rfl, w_callP (a_cons (w_var rfl (a_nil ⟨r, rfl, trivial, fun y hy => ⟨?_, ?_⟩⟩)))⟩))))))
      · subst y
        show CMulW _ _
        unfold CMulW
        dsimp only
        omega
      subst y
      refine w_op o_intC (w_callP (a_cons (w_var rfl (a_nil ⟨r, rfl, trivial, fun y hy => w_fld T.cls T.no_bottom (w_var rfl ⟨_, rfl, ?_, ?_⟩)⟩))))
      · subst y
        show CMulW _ _
        unfold CMulW
        dsimp only
        omega
      subst y
      refine a_cons (w_op o_intC (w_fld T.cls T.no_bottom (w_var rfl ⟨_, rfl, w_callP (a_cons (w_var rfl (a_nil ⟨r, rfl, trivial, fun y hy => ⟨?_, ?_⟩⟩)))⟩)))
      · subst y
        show CMulW _ _
        unfold CMulW
        dsimp only
        omega
      subst y
      refine a_nil ⟨_, _, rfl, ⟨Int.mul_pos (den_pos _) (den_pos _), ?_⟩, add_as q r⟩
      have := mul_pow h1.2 h2.2
      rw [← Int.natCast_mul, Int.natAbs_natCast]
      exact Nat.lt_trans (PySem.Flt.log2_lt_of (by decide) this) (by decide)⟩
abbrev spMulI (C : Addr) : Sp := spP (A2 (rRat C) rInt) (fun p => Sz 4000 p.1 ∧ p.2.natAbs < 2 ^ 4000) (rRat C) fun p y => y = p.1 * (p.2 : Rat)
theorem o_mulI (T : Tx K mg C) : OwnM P w K mg base C "__mul__" 4 ["self", "other"] (spMulI C) :=
  T.m_mul.own (fun _ _ _ _ _ _ us hl => match us, hl with | [_, _], _ => rfl) T.cls T.first fun f fd F => fnP F sc_Ratio___mul__ (fun _ => rfl) fun cdv A outer s H E hr => ⟨_, (pss_one (ps_ret (pe_mkC (mk_Ratio T) (hr.mono (by decide)) rfl (pa_cons (pe_op op_mulW (kfld (K := K) rfl (pv 0) rfl) (pe_cal (c_top_ofI T) (hr.mono (by decide)) rfl (pa_cons (pv 1) pa_nil))) (pa_cons (pe_op op_mulW (kfld (K := K) rfl (pv 0) rfl) (pe_cal (c_bottom_ofI T) (hr.mono (by decide)) rfl (pa_cons (pv 1) pa_nil))) pa_nil))))),
    fun x hp => by
      obtain ⟨q, i⟩ := x
      obtain ⟨h1, h2⟩ := hp
      have a1 := h1.num (by decide)
      have a2 := h1.den (by decide)
      have b1 : i.natAbs.log2 < 4000 := PySem.Flt.log2_lt_of (by decide) h2
      dsimp only at a1 a2
      refine s_ret (w_ratio (a_cons (w_op o_intC (w_fld T.cls T.no_top (w_var rfl ⟨_, rfl, w_callP (a_cons (w_var rfl (a_nil ⟨i, rfl, trivial, fun y hy => ⟨?_, ?_⟩⟩)))⟩)))))
      · subst y
        show CMulW _ _
        unfold CMulW
        dsimp only
        omega
      subst y
      refine a_cons (w_op o_intC (w_fld T.cls T.no_bottom (w_var rfl ⟨_, rfl, w_callP (a_cons (w_var rfl (a_nil ⟨i, rfl, trivial, fun z hz => ⟨?_, ?_⟩⟩)))⟩)))
      · subst z
        show CMulW _ _
        unfold CMulW
        dsimp only
        have : (1 : Int).natAbs.log2 = 0 := by decide
        omega
      subst z
      refine a_nil ⟨_, _, rfl, ⟨?_, ?_⟩, mul_as q i⟩
      · have := den_pos q
        dsimp only
        omega
      · dsimp only
        rw [Int.mul_one]
        omega⟩
abbrev spEq (C : Addr) : Sp := spP (A2 (rRat C) (rRat C)) (fun _ => True) rBl fun p y => y = decide (p.1 = p.2)
theorem o_eq (T : Tx K mg C) : OwnM P w K mg base C "__eq__" 1 ["self", "other"] (spEq C) :=
  T.m_eq.own (fun _ _ _ _ _ _ us hl => match us, hl with | [_, _], _ => rfl) T.cls T.first fun f fd F => fnP F sc_Ratio___eq__ (fun _ => rfl) fun cdv A outer s H E hr => ⟨_, (pss_one (ps_ret (pe_and (pe_callB (r := rIsi K) call_isi (by rfl) T.f_isinstance boot_isinstance (pa_cons (pv 1) (pa_cons (pe_glob (v := .ref C) rfl T.g_Ratio rfl) pa_nil))) (pe_and (pe_cmpR op_eq (kfld (K := K) rfl (pv 0) rfl) (kfld (K := K) rfl (pv 1) rfl) (nomark _)) (pe_one (pe_cmpR op_eq (kfld (K := K) rfl (pv 0) rfl) (kfld (K := K) rfl (pv 1) rfl) (nomark _))))))),
    fun x hp => by
      obtain ⟨q, r⟩ := x
      refine s_ret (w_andV (w_cb (a_cons (w_var rfl (a_cons (w_at (a_nil ⟨true, c_isiC (ty_ins T.isi) T.kitCC, fun _ => ?_, fun z => by cases z⟩)))))))
      refine w_andV (w_op0 o_eqI (w_fld T.cls T.no_top (w_var rfl ⟨_, rfl, w_fld T.cls T.no_top (w_var rfl ⟨_, rfl, fun z => ?_, fun z => ?_⟩)⟩)))
      · refine w_op0 o_eqI (w_fld T.cls T.no_bottom (w_var rfl ⟨_, rfl, w_fld T.cls T.no_bottom (w_var rfl ⟨_, rfl, ?_⟩)⟩))
        have z := of_decide_eq_true z
        show decide ((q.den : Int) = (r.den : Int)) = decide (q = r)
        refine decide_eq_decide.mpr ⟨fun h => Rat.ext z (by omega), fun h => by rw [h]⟩
      · have z := of_decide_eq_false z
        show false = decide (q = r)
        exact (decide_eq_false fun h => z (by rw [h])).symm⟩
end
section
variable {X : Cx} {C : Addr}
theorem op_multI (T : Tx X.K X.mg C) (hr : Room 4 X.A) : OpR X (binaryOp .Mult) (rOwnI C (spMulI C)) := by
  obtain ⟨g, hg⟩ := T.rmul
  obtain ⟨o1, h1⟩ := T.int_mul
  obtain ⟨o2, h2⟩ := T.int_rmul
  exact op_ownI (o_mulI T) hr rfl hg (.inr ⟨g, rfl⟩) h1 h2 T.int_sub
end
end K05
end

-- part K05D
section
set_option Elab.async false
set_option linter.all false
set_option maxRecDepth 100000
set_option maxHeartbeats 400000
namespace K05
open PySem PySem.Spec PyProof.Rows L2 L2.Lc
section
variable {P : Program} {w : World} {K : PySem.W.Frag} {mg : Str → Option Value} {base : Heap} {C : Addr}
abbrev preDraw : Int → Int × Int → Prop := fun many n => 0 ≤ n.1 ∧ n.1 < 1000000 ∧ many < 2 ^ 8000
abbrev postDraw : Int → Int × Int → Int → Int × Int → Prop := fun many n r n' => (n.1 ≤ n'.1 ∧ n'.1 ≤ n.1 + 1) ∧ 0 ≤ r ∧ (2 ≤ many → r < many) ∧ (many < 2 → r = 0)
abbrev spDraw (K : PySem.W.Frag) : Sp := spS mPen (fun I many => [.mk (rPen K I) (), .mk rInt many]) preDraw rInt postDraw
theorem log_lt {i : Int} {k : Nat} (hk : 0 < k) (h0 : 0 ≤ i) (h : i < 2 ^ k) : i.natAbs.log2 < k := PySem.Flt.log2_lt_of hk (by
  have e : ((2 ^ k : Nat) : Int) = 2 ^ k := by simp
  omega)
set_option maxHeartbeats 1000000 in
theorem c_law_draw (T : Tx K mg C) : Cal P w K mg base "_law_draw" 1 ["pen", "many"] (spDraw K) :=
  T.d_law_draw.cal (fun _ _ _ _ _ _ us hl => match us, hl with | [_, _], _ => rfl) fun f fd F => fnS F sc_law_draw (fun _ _ => rfl) fun cdv A outer s H E hr => ⟨_, (pss_cons (ps_if (pt_cmpR op_lt (pv 1) pe_int (nomark _)) (pss_one (ps_ret pe_int)) pss_nil)
  (pss_cons (ps_if (pt_cmpR op_gt (pe_ix (ix_listK (K := K) rfl) (pv 0) pe_int (fun _ _ => rfl)) pe_int (nomark _)) (pss_cons (ps_set (i := 2) sc_law_draw.nd rfl (by first | exact Or.inl rfl | exact Or.inr rfl) (pe_callTy (r := rIntOf) call_int1 (by rfl) T.f_int boot_int (pa_cons (pe_ix (ix_listK (K := K) rfl) (pv 0) pe_int (fun _ _ => rfl)) pa_nil)))
  (pss_cons (ps_asg (pe_op op_fdivW (pv 2) (pv 1)) (pg_sub (pv 0) pe_int set_list))
  (pss_one (ps_ret (pe_op op_mod (pe_callTy (r := rIntOf) call_int1 (by rfl) T.f_int boot_int (pa_cons (pv 2) pa_nil)) (pv 1)))))) pss_nil)
  (pss_cons (ps_set (i := 3) sc_law_draw.nd rfl (by first | exact Or.inl rfl | exact Or.inr rfl) (pe_ix (ix_listK (K := K) rfl) (pv 0) pe_int (fun _ _ => rfl)))
  (pss_cons (ps_asg (pe_op op_add (pv 3) pe_int) (pg_sub (pv 0) pe_int set_list))
  (pss_cons (ps_set (i := 4) sc_law_draw.nd rfl (by first | exact Or.inl rfl | exact Or.inr rfl) (pe_op op_add (pe_op op_mul pe_int (pv 3)) pe_int))
  (pss_cons (ps_if (pt_cmpR (op_neDK (K := K) rfl hr.units) (pe_ix (ix_listK (K := K) rfl) (pv 0) pe_int (fun _ _ => rfl)) (pe_lst pa_nil) (nomark _)) (pss_one (ps_set (i := 4) sc_law_draw.nd rfl (by first | exact Or.inl rfl | exact Or.inr rfl) (pe_ix (ix_listK (K := K) rfl) (pe_ix (ix_listK (K := K) rfl) (pv 0) pe_int (fun _ _ => rfl)) (pe_op op_mod (pe_callTy (r := rIntOf) call_int1 (by rfl) T.f_int boot_int (pa_cons (pv 3) pa_nil)) (pe_callB (r := rLenOf K) call_len (by rfl) T.f_len boot_len (pa_cons (pe_ix (ix_listK (K := K) rfl) (pv 0) pe_int (fun _ _ => rfl)) pa_nil))) (fun _ _ => rfl)))) pss_nil)
  (pss_cons (ps_if (PW.pt (pw_and (pt_cmpR op_lt (pv 3) (pe_callB (r := rLenOf K) call_len (by rfl) T.f_len boot_len (pa_cons (pe_ix (ix_listK (K := K) rfl) (pv 0) pe_int (fun _ _ => rfl)) pa_nil)) (nomark _)) (pw_and1 (pt_cmpR op_ge (pe_callB call_abs (by rfl) T.f_abs boot_abs (pa_cons (pv 4) pa_nil)) (pe_op op_pow pe_int pe_int) (nomark _))))) (pss_cons (ps_set (i := 2) sc_law_draw.nd rfl (by first | exact Or.inl rfl | exact Or.inr rfl) (pe_op op_add (pe_op op_mul pe_int (pe_op op_sub (pe_callB call_abs (by rfl) T.f_abs boot_abs (pa_cons (pv 4) pa_nil)) (pe_op op_pow pe_int pe_int))) (pe_callTy (r := rIntOf) call_int1 (by rfl) T.f_int boot_int (pa_cons (pe_cmpR op_lt (pv 4) pe_int (nomark _)) pa_nil))))
  (pss_cons (ps_asg (pe_op op_fdivW (pv 2) (pv 1)) (pg_sub (pv 0) pe_int set_list))
  (pss_one (ps_ret (pe_op op_mod (pe_callTy (r := rIntOf) call_int1 (by rfl) T.f_int boot_int (pa_cons (pv 2) pa_nil)) (pv 1)))))) pss_nil)
  (pss_cons (ps_set (i := 5) sc_law_draw.nd rfl (by first | exact Or.inl rfl | exact Or.inr rfl) (pe_op op_mod (pe_callTy (r := rIntOf) call_int1 (by rfl) T.f_int boot_int (pa_cons (pe_op op_pow (pe_op op_add (pe_op op_add (pe_op op_mod (pe_callTy (r := rIntOf) call_int1 (by rfl) T.f_int boot_int (pa_cons (pv 4) pa_nil)) pe_int) (pe_op op_mul pe_int (pv 3))) pe_int) pe_int) pa_nil)) pe_int))
  (pss_cons (ps_set (i := 5) sc_law_draw.nd rfl (by first | exact Or.inl rfl | exact Or.inr rfl) (pe_op op_mod (pe_callTy (r := rIntOf) call_int1 (by rfl) T.f_int boot_int (pa_cons (pe_op op_pow (pe_op op_add (pe_op op_add (pe_op op_mulW (pv 5) (pe_op op_add (pe_op op_mul pe_int (pv 3)) pe_int)) (pe_op op_mulW (pe_op op_mul pe_int (pv 3)) (pv 3))) pe_int) pe_int) pa_nil)) pe_int))
  (pss_one (ps_ret (pe_op op_mod (pe_callTy (r := rIntOf) call_int1 (by rfl) T.f_int boot_int (pa_cons (pe_op op_fdivW (pv 5) pe_int) pa_nil)) (pv 1))))))))))))),
    fun I many n hp => by
      obtain ⟨turn, left⟩ := n
      obtain ⟨h1, h2, h3⟩ := hp
      dsimp only at h1 h2
      refine s_seq (s_if (t_test (w_op0 o_cmp (w_var rfl (w_int ⟨fun z => s_ret (w_int ?_), fun z => s_next ?_⟩)))))
      · have z := of_decide_eq_true z
        exact ⟨by dsimp only; omega, by omega, by omega, by omega⟩
      have z2 : 2 ≤ many := by have := of_decide_eq_false z; omega
      clear z
      have hm : 0 < many := by omega
      have hl : many.natAbs.log2 < 9000 := Nat.lt_trans (log_lt (by decide) (by omega) h3) (by decide)
      have modok : ∀ x : Int, 0 ≤ x % many ∧ (2 ≤ many → x % many < many) ∧ (many < 2 → x % many = 0) := fun x => ⟨Int.emod_nonneg _ (by omega), fun _ => Int.emod_lt_of_pos _ hm, fun z => by omega⟩
      refine s_seq (s_if (t_test (w_op0 o_cmp (w_pen2 rfl (w_int ⟨fun z => ?_, fun z => s_next ?_⟩)))))
      · refine s_seq (s_set (w_cb (a_cons (w_pen2 rfl (a_nil ⟨_, c_int, ?_⟩)))))
        refine s_seq (s_pen2 (w_op o_intC (w_var rfl (w_var rfl ⟨⟨hm, hl⟩, rfl, ?_⟩))))
        refine s_ret (w_op o_intC (w_cb (a_cons (w_var rfl (a_nil ⟨_, c_int, w_var rfl ⟨hm, ?_⟩⟩)))))
        exact ⟨by dsimp only; omega, modok _⟩
      refine s_seq (s_set (w_pen1 rfl ?_))
      refine s_seq (s_pen1 (w_op0 o_int (w_var rfl (w_int ⟨rfl, ?_⟩))))
      refine s_seq (s_set (w_op0 o_int (w_op o_intC (w_int (w_var rfl ⟨.inl ⟨by decide, by decide⟩, w_int ?_⟩)))))
      refine s_mid (fun Γ1 n1 => ∃ cell : Int, Γ1 = [some (.mk (rPen K I) ()), some (.mk rInt many), none, some (.mk rInt turn), some (.mk rInt cell), none] ∧ n1 = (turn + 1, left)) ?_ ?_
      · refine s_if (t_test (w_op0 (o_neD (dat_lst dat_int) (by decide) (eq_lst eq_int)) (w_pen0 rfl (w_lst (R := rInt) (a_nil ⟨[], rfl, by decide, fun z => ?_, fun z => s_next ⟨_, rfl, rfl⟩⟩)))))
        have hne : I.cells ≠ [] := by
          intro e
          rw [e] at z
          simp at z
        have hlen : 0 < I.cells.length := List.length_pos_iff.mpr hne
        have hb1 : 0 ≤ turn % (I.cells.length : Int) := Int.emod_nonneg _ (by omega)
        have hb2 : turn % (I.cells.length : Int) < (I.cells.length : Int) := Int.emod_lt_of_pos _ (by omega)
        have hat : atI I.cells (turn % (I.cells.length : Int)) = some (I.cells[(turn % (I.cells.length : Int)).toNat]'(by omega)) := by
          have := atI_nat (l := I.cells) (i := (turn % (I.cells.length : Int)).toNat) (List.getElem?_eq_getElem (by omega))
          rw [Int.toNat_of_nonneg hb1] at this
          exact this
        exact s_set (w_opP o_ixL (w_pen0 rfl (w_op o_intC (w_cb (a_cons (w_var rfl (a_nil ⟨_, c_int, w_cb (a_cons (w_pen0 rfl (a_nil ⟨_, c_lenL, by omega, _, hat, ⟨_, rfl, rfl⟩⟩)))⟩)))))))
      rintro Γ1 n1 ⟨cell, rfl, rfl⟩
      refine s_mid (fun Γ1 n1 => ∃ o, Γ1 = [some (.mk (rPen K I) ()), some (.mk rInt many), o, some (.mk rInt turn), some (.mk rInt cell), none] ∧ n1 = (turn + 1, left)) ?_ ?_
      · refine s_if (t_and (t_test (w_op0 o_cmp (w_var rfl (w_cb (a_cons (w_pen0 rfl (a_nil ⟨_, c_lenL, fun z => ?_, fun z => ⟨fun z => (by cases z), fun _ => s_next ⟨_, rfl, rfl⟩⟩⟩))))))))
        refine t_test (w_op0 o_cmp (w_cb (a_cons (w_var rfl (a_nil ⟨_, c_abs, w_op o_intC (w_int (w_int ⟨⟨by decide, by decide, by decide⟩, fun z => ?_, fun z => s_next ⟨_, rfl, rfl⟩⟩))⟩)))))
        refine s_seq (s_set (w_op0 o_int (w_op o_intC (w_int (w_op0 o_int (w_cb (a_cons (w_var rfl (a_nil ⟨_, c_abs, w_op o_intC (w_int (w_int ⟨⟨by decide, by decide, by decide⟩, .inl ⟨by decide, by decide⟩, w_cb (a_cons (w_op0 o_cmp (w_var rfl (w_int (a_nil ⟨_, c_intB, ?_⟩)))))⟩))⟩)))))))))
        refine s_seq (s_pen2 (w_op o_intC (w_var rfl (w_var rfl ⟨⟨hm, hl⟩, rfl, ?_⟩))))
        refine s_ret (w_op o_intC (w_cb (a_cons (w_var rfl (a_nil ⟨_, c_int, w_var rfl ⟨hm, ?_⟩⟩)))))
        exact ⟨by dsimp only; omega, modok _⟩
      rintro Γ1 n1 ⟨o, rfl, rfl⟩
      have k1 : (0 : Int) ≤ cell % 2147483423 := Int.emod_nonneg _ (by decide)
      have k2 : cell % 2147483423 < 2147483423 := Int.emod_lt_of_pos _ (by decide)
      refine s_seq (s_set (w_op o_intC (w_cb (a_cons (w_op o_intC (w_op0 o_int (w_op0 o_int (w_op o_intC (w_cb (a_cons (w_var rfl ?_)))))))))))
      refine a_nil ⟨_, c_int, w_int ⟨by decide, w_op o_intC (w_int (w_var rfl ⟨.inl ⟨by decide, by decide⟩, w_int (w_int ?_)⟩))⟩⟩
      refine ⟨⟨by decide, by decide, by omega⟩, a_nil ⟨_, c_int, w_int ⟨by decide, ?_⟩⟩⟩
      generalize hx : ((cell % 2147483423 + 51171 * turn + 7111) ^ (5 : Int).toNat) % 2147483423 = x
      have x1 : 0 ≤ x := by rw [← hx]; exact Int.emod_nonneg _ (by decide)
      have x2 : x < 2147483423 := by rw [← hx]; exact Int.emod_lt_of_pos _ (by decide)
      have y1 : x * (2 * turn + 7111) ≤ 2147483423 * 2007111 := Int.mul_le_mul (by omega) (by omega) (by omega) (by decide)
      have y2 : 0 ≤ x * (2 * turn + 7111) := Int.mul_nonneg x1 (by omega)
      have y3 : (7111 * turn) * turn ≤ 7111000000 * 1000000 := Int.mul_le_mul (by omega) (by omega) h1 (by decide)
      have y4 : 0 ≤ (7111 * turn) * turn := Int.mul_nonneg (by omega) h1
      have lx : x.natAbs.log2 < 31 := log_lt (by decide) x1 (by omega)
      have lt : turn.natAbs.log2 < 20 := log_lt (by decide) h1 (by omega)
      have l2 : (2 * turn + 7111).natAbs.log2 < 22 := log_lt (by decide) (by omega) (by omega)
      have l7 : (7111 * turn).natAbs.log2 < 33 := log_lt (by decide) (by omega) (by omega)
      refine s_seq <| s_set <| w_op o_intC <| w_cb <| a_cons <| w_op o_intC <| w_op0 o_int <| w_op0 o_int <| w_op o_intC <| w_var rfl <| w_op0 o_int <| w_op o_intC <| w_int <| w_var rfl ?_
      refine ⟨.inl ⟨by decide, by decide⟩, w_int ⟨?_, w_op o_intC (w_op o_intC (w_int (w_var rfl ⟨.inl ⟨by decide, by decide⟩, w_var rfl ⟨?_, w_int (w_int ?_)⟩⟩)))⟩⟩
      · show CMulW _ _
        unfold CMulW
        omega
      · show CMulW _ _
        unfold CMulW
        omega
      refine ⟨⟨by decide, by decide, by omega⟩, a_nil ⟨_, c_int, w_int ⟨by decide, ?_⟩⟩⟩
      refine s_ret (w_op o_intC (w_cb (a_cons (w_op o_intC (w_var rfl (w_int ⟨⟨by decide, by decide⟩, a_nil ⟨_, c_int, w_var rfl ⟨hm, ?_⟩⟩⟩))))))
      exact ⟨by dsimp only; omega, modok _⟩⟩
end
end K05
end

-- part K05E
section
set_option Elab.async false
set_option linter.all false
set_option maxRecDepth 100000
set_option maxHeartbeats 400000
namespace K05
open PySem PySem.Spec PyProof.Rows L2 L2.Lc
/-- a fraction as the law has it: a pair in lowest terms -/
def pq (q : Rat) : Int × Int := (q.num, (q.den : Int))
theorem pq_inj {q r : Rat} (h : pq q = pq r) : q = r := by
  have h1 := congrArg Prod.fst h
  have h2 := congrArg Prod.snd h
  refine Rat.ext h1 ?_
  have h2 : (q.den : Int) = (r.den : Int) := h2
  omega
section
variable {K : PySem.W.Frag} {Z : Type} {m : Md Z} {Γ : Gm} {n : Z} {ta : TE}
def rPq (K : PySem.W.Frag) : Rl Rat := ⟨fun G v q => (rPr K rInt rInt).r G v (pq q), fun e h => (rPr K rInt rInt).mono e h⟩
theorem w_pq {Post : Rat → Z → Prop} (h : EvW m ta Γ n (rPr K rInt rInt) fun p n1 => ∃ q, p = pq q ∧ Post q n1) : EvW m ta Γ n (rPq K) Post := fun M σ H c e Q k =>
  h M σ H c e _ fun v x n1 H1 ⟨q, h1, h2⟩ e1 i1 r1 => k v q n1 H1 h2 e1 i1 (by subst h1; exact r1)
theorem w_pq0 {Post : Int → Z → Prop} (h : EvW m ta Γ n (rPq K) fun q n1 => Post q.num n1) : EvW m (tOp (rIxT K) ta (tC (.int 0))) Γ n rInt Post :=
  w_fst (S := rInt) (fun M σ H c e Q k => h M σ H c e Q fun v q n1 H1 p e1 i1 r1 => k v (pq q) n1 H1 p e1 i1 r1)
theorem w_pq1 {Post : Int → Z → Prop} (h : EvW m ta Γ n (rPq K) fun q n1 => Post (q.den : Int) n1) : EvW m (tOp (rIxT K) ta (tC (.int 1))) Γ n rInt Post :=
  w_snd (R := rInt) (fun M σ H c e Q k => h M σ H c e Q fun v q n1 H1 p e1 i1 r1 => k v (pq q) n1 H1 p e1 i1 r1)
theorem tg_pq {i j : Nat} {q : Rat} {Post : Gm → Prop} (h : Post ((Γ.set i (some (.mk rInt q.num))).set j (some (.mk rInt (q.den : Int))))) : TgI ([i] ++ [j]) (gTup K 2 (gCons (gName i) (gCons (gName j) gNil))) (rPq K) q Γ Post :=
  tg_pair (R := rInt) (S := rInt) (x := q.num) (y := (q.den : Int)) (tg_name (tg_name h))
theorem dat_pq : DatW K (rPq K) (fun q => .tuple [.int q.num, .int (q.den : Int)]) 1 := ⟨fun r => (dat_pr dat_int dat_int).dp r, fun q => (dat_pr (K := K) dat_int dat_int).depth (pq q)⟩
theorem eq_pq : DatE (fun q : Rat => PyData.tuple [.int q.num, .int (q.den : Int)]) fun a b => decide (a = b) := ⟨fun a b => by
  have := (eq_pr eq_int eq_int).eqv (pq a) (pq b)
  show PyData.eqv (.tuple [.int (pq a).1, .int (pq a).2]) (.tuple [.int (pq b).1, .int (pq b).2]) = _
  rw [this]
  exact decide_eq_decide.mpr ⟨pq_inj, fun h => by rw [h]⟩⟩
end
theorem gcd_step (a b : Int) : Nat.gcd b.natAbs (a % b).natAbs = Nat.gcd a.natAbs b.natAbs := by
  show Int.gcd b (a % b) = Int.gcd a b
  rw [Int.gcd_comm b, Int.gcd_comm a]
  apply Nat.dvd_antisymm
  · refine Int.natCast_dvd_natCast.mp (Int.dvd_coe_gcd (Int.gcd_dvd_right ..) ?_)
    have h1 : ((Int.gcd (a % b) b : Nat) : Int) ∣ a % b := Int.gcd_dvd_left ..
    have h2 : ((Int.gcd (a % b) b : Nat) : Int) ∣ b := Int.gcd_dvd_right ..
    have := Int.dvd_add h1 (Int.dvd_mul_of_dvd_left (c := a / b) h2)
    rwa [Int.emod_add_mul_ediv] at this
  · refine Int.natCast_dvd_natCast.mp (Int.dvd_coe_gcd ?_ (Int.gcd_dvd_left ..))
    have h1 : ((Int.gcd b a : Nat) : Int) ∣ a := Int.gcd_dvd_right ..
    have h2 : ((Int.gcd b a : Nat) : Int) ∣ b := Int.gcd_dvd_left ..
    have := Int.dvd_sub h1 (Int.dvd_mul_of_dvd_left (c := a / b) h2)
    rwa [← Int.emod_def] at this
section
variable {P : Program} {w : World} {K : PySem.W.Frag} {mg : Str → Option Value} {base : Heap} {C : Addr}
abbrev spShared : Sp := spP (A2 rInt rInt) (fun p => 0 ≤ p.2) rInt fun p y => y = ((Nat.gcd p.1.natAbs p.2.natAbs : Nat) : Int)
theorem c_law_shared (T : Tx K mg C) : Cal P w K mg base "_law_shared" 1 ["one", "other"] spShared :=
  T.d_law_shared.cal (fun _ _ _ _ _ _ us hl => match us, hl with | [_, _], _ => rfl) fun f fd F => fnP F sc_law_shared (fun _ => rfl) fun cdv A outer s H E hr => ⟨_, (pss_cons (ps_while PassesOwn.never (pt_cmpR op_ne (pv 1) pe_int (nomark _)) (pss_one (ps_par (i := 0) (j := 1) rfl sc_law_shared.nd rfl rfl (by decide) rfl rfl (pa_cons (pv 1) (pa_cons (pe_op op_mod (pe_callTy (r := rIntOf) call_int1 (by rfl) T.f_int boot_int (pa_cons (pv 0) pa_nil)) (pv 1)) pa_nil)) rfl)))
  (pss_one (ps_ret (pe_callB call_abs (by rfl) T.f_abs boot_abs (pa_cons (pv 0) pa_nil))))),
    fun x hp => by
      obtain ⟨p, q⟩ := x
      refine s_seq <| s_while (fun k Γ _ => ∃ a b : Int, Γ = [some (.mk rInt a), some (.mk rInt b)] ∧ 0 ≤ b ∧ k = b.toNat ∧ Nat.gcd a.natAbs b.natAbs = Nat.gcd p.natAbs q.natAbs) q.toNat ⟨p, q, rfl, hp, rfl, rfl⟩ ?_
      rintro k Γ n ⟨a, b, rfl, hb, rfl, hg⟩
      refine t_test <| w_op0 o_neI <| w_var rfl <| w_int ⟨fun z => ?_, fun z => ?_⟩
      · have z : b ≠ 0 := by simpa using z
        have hb : 0 < b := by omega
        refine s_par <| a_cons <| w_var rfl <| a_cons <| w_op o_intC <| w_cb <| a_cons <| w_var rfl <| a_nil ⟨_, c_int, w_var rfl ⟨hb, a_nil ⟨_, _, rfl, _, ?_, b, a % b, rfl, Int.emod_nonneg _ (by omega), rfl, ?_⟩⟩⟩
        · have := Int.emod_lt_of_pos a hb
          have := Int.emod_nonneg a (b := b) (by omega)
          omega
        · rw [gcd_step]; exact hg
      · have z : b = 0 := by simpa using z
        subst z
        refine s_ret <| w_cb <| a_cons <| w_var rfl <| a_nil ⟨_, c_abs, ?_⟩
        rw [Int.natAbs_zero, Nat.gcd_zero_right] at hg
        dsimp only
        rw [← hg]
        split <;> omega⟩
abbrev spLow (K : PySem.W.Frag) : Sp := spP (A2 rInt rInt) preR (rPq K) fun p y => y = Rat.divInt p.1 p.2
theorem c_law_low (T : Tx K mg C) : Cal P w K mg base "_law_low" 2 ["top", "bottom"] (spLow K) :=
  T.d_law_low.cal (fun _ _ _ _ _ _ us hl => match us, hl with | [_, _], _ => rfl) fun f fd F => fnP F sc_law_low (fun _ => rfl) fun cdv A outer s H E hr => ⟨_, (pss_cons (ps_set (i := 2) sc_law_low.nd rfl (by first | exact Or.inl rfl | exact Or.inr rfl) (korT (K := K) rfl (pe_cal (c_law_shared T) (hr.mono (by decide)) rfl (pa_cons (pv 0) (pa_cons (pv 1) pa_nil))) (pe_one pe_int)))
  (pss_cons (ps_set (i := 2) sc_law_low.nd rfl (by first | exact Or.inl rfl | exact Or.inr rfl) (pe_ifExp (pt_cmpR op_lt (pv 1) pe_int (nomark _)) (pe_un un_neg (pv 2)) (pv 2)))
  (pss_one (ps_ret (pe_tup (pa_cons (pe_op op_fdivW (pe_callTy (r := rIntOf) call_int1 (by rfl) T.f_int boot_int (pa_cons (pv 0) pa_nil)) (pv 2)) (pa_cons (pe_op op_fdivW (pe_callTy (r := rIntOf) call_int1 (by rfl) T.f_int boot_int (pa_cons (pv 1) pa_nil)) (pv 2)) pa_nil))))))),
    fun x hp => by
      obtain ⟨p, q⟩ := x
      obtain ⟨h1, h2⟩ := hp
      dsimp only at h1 h2
      have hg : Nat.gcd p.natAbs q.natAbs ≠ 0 := fun z => by have := Nat.eq_zero_of_gcd_eq_zero_right z; omega
      have hg0 : (0 : Int) < ((Nat.gcd p.natAbs q.natAbs : Nat) : Int) := by omega
      refine s_seq <| s_set <| w_orT tru_int <| w_callP <| a_cons <| w_var rfl <| a_cons <| w_var rfl <| a_nil ⟨(p, q), rfl, Int.le_of_lt h1, fun y hy => ⟨fun _ => ?_, fun z => ?_⟩⟩
      · subst y
        refine s_seq <| s_set <| w_if <| t_test <| w_op0 o_cmp <| w_var rfl <| w_int ⟨fun z => ?_, fun _ => w_var rfl ?_⟩
        · have := of_decide_eq_true z
          omega
        refine s_ret <| w_pq <| w_pr <| w_op o_intC <| w_cb <| a_cons <| w_var rfl <| a_nil ⟨_, c_int, w_var rfl ⟨⟨hg0, gcd_log h1 h2⟩, ?_⟩⟩
        refine w_op o_intC <| w_cb <| a_cons <| w_var rfl <| a_nil ⟨_, c_int, w_var rfl ⟨⟨hg0, gcd_log h1 h2⟩, _, ?_, rfl⟩⟩
        exact Prod.ext (num_div h1) (den_div h1)
      · subst y
        simp at z
        omega⟩
abbrev spPlus (K : PySem.W.Frag) : Sp := spP (A2 (rPq K) (rPr K rInt rInt)) (fun p => Sz 4000 p.1 ∧ p.2.1.natAbs < 2 ^ 4000 ∧ 0 < p.2.2 ∧ p.2.2.natAbs < 2 ^ 4000) (rPq K) fun p y => y = p.1 + Rat.divInt p.2.1 p.2.2
theorem plus_as (q : Rat) (a b : Int) (hb : 0 < b) : Rat.divInt (q.num * b + a * (q.den : Int)) ((q.den : Int) * b) = q + Rat.divInt a b := by
  conv => rhs; rw [← Rat.num_divInt_den q]
  rw [Rat.divInt_add_divInt _ _ (by have := den_pos q; omega) (by omega)]
theorem c_law_plus (T : Tx K mg C) : Cal P w K mg base "_law_plus" 3 ["one", "other"] (spPlus K) :=
  T.d_law_plus.cal (fun _ _ _ _ _ _ us hl => match us, hl with | [_, _], _ => rfl) fun f fd F => fnP F sc_law_plus (fun _ => rfl) fun cdv A outer s H E hr => ⟨_, (pss_one (ps_ret (pe_cal (c_law_low T) (hr.mono (by decide)) rfl (pa_cons (pe_op op_add (pe_op op_mulW (pe_ix (ix_tupK (K := K) rfl) (pv 0) pe_int (fun _ _ => rfl)) (pe_ix (ix_tupK (K := K) rfl) (pv 1) pe_int (fun _ _ => rfl))) (pe_op op_mulW (pe_ix (ix_tupK (K := K) rfl) (pv 1) pe_int (fun _ _ => rfl)) (pe_ix (ix_tupK (K := K) rfl) (pv 0) pe_int (fun _ _ => rfl)))) (pa_cons (pe_op op_mulW (pe_ix (ix_tupK (K := K) rfl) (pv 0) pe_int (fun _ _ => rfl)) (pe_ix (ix_tupK (K := K) rfl) (pv 1) pe_int (fun _ _ => rfl))) pa_nil))))),
    fun x hp => by
      obtain ⟨q, a, b⟩ := x
      obtain ⟨h1, h2, h3, h4⟩ := hp
      dsimp only at h1 h2 h3 h4
      have a1 := h1.num (by decide)
      have a2 := h1.den (by decide)
      have b1 : a.natAbs.log2 < 4000 := PySem.Flt.log2_lt_of (by decide) h2
      have b2 : b.natAbs.log2 < 4000 := PySem.Flt.log2_lt_of (by decide) h4
      refine s_ret <| w_callP <| a_cons <| w_op0 o_int <| w_op o_intC <| w_pq0 <| w_var rfl <| w_snd (R := rInt) (S := rInt) <| w_var rfl ⟨?_, ?_⟩
      · show CMulW _ _
        unfold CMulW
        dsimp only
        omega
      refine w_op o_intC <| w_fst (R := rInt) (S := rInt) <| w_var rfl <| w_pq1 <| w_var rfl ⟨?_, ?_⟩
      · show CMulW _ _
        unfold CMulW
        dsimp only
        omega
      refine a_cons <| w_op o_intC <| w_pq1 <| w_var rfl <| w_snd (R := rInt) (S := rInt) <| w_var rfl ⟨?_, ?_⟩
      · show CMulW _ _
        unfold CMulW
        dsimp only
        omega
      refine a_nil ⟨(q.num * b + a * (q.den : Int), (q.den : Int) * b), rfl, ⟨Int.mul_pos (den_pos _) h3, ?_⟩, fun y hy => ?_⟩
      · dsimp only
        rw [Int.natAbs_mul, Int.natAbs_natCast]
        exact Nat.lt_trans (PySem.Flt.log2_lt_of (by decide) (mul_pow h1.2 h4)) (by decide)
      · rw [hy]; exact plus_as q a b h3⟩
abbrev spLess (K : PySem.W.Frag) : Sp := spP (A2 (rPq K) (rPq K)) (fun p => Sz 4000 p.1 ∧ Sz 4000 p.2) rBl fun p y => y = decide (p.1 < p.2)
theorem c_law_is_less (T : Tx K mg C) : Cal P w K mg base "_law_is_less" 1 ["one", "other"] (spLess K) :=
  T.d_law_is_less.cal (fun _ _ _ _ _ _ us hl => match us, hl with | [_, _], _ => rfl) fun f fd F => fnP F sc_law_is_less (fun _ => rfl) fun cdv A outer s H E hr => ⟨_, (pss_one (ps_ret (pe_cmpR op_lt (pe_op op_mulW (pe_ix (ix_tupK (K := K) rfl) (pv 0) pe_int (fun _ _ => rfl)) (pe_ix (ix_tupK (K := K) rfl) (pv 1) pe_int (fun _ _ => rfl))) (pe_op op_mulW (pe_ix (ix_tupK (K := K) rfl) (pv 1) pe_int (fun _ _ => rfl)) (pe_ix (ix_tupK (K := K) rfl) (pv 0) pe_int (fun _ _ => rfl))) (nomark _)))),
    fun x hp => by
      obtain ⟨q, r⟩ := x
      obtain ⟨h1, h2⟩ := hp
      have a1 := h1.num (by decide)
      have a2 := h1.den (by decide)
      have b1 := h2.num (by decide)
      have b2 := h2.den (by decide)
      dsimp only at a1 a2 b1 b2
      refine s_ret <| w_op0 o_cmp <| w_op o_intC <| w_pq0 <| w_var rfl <| w_pq1 <| w_var rfl ⟨?_, ?_⟩
      · show CMulW _ _
        unfold CMulW
        dsimp only
        omega
      refine w_op o_intC <| w_pq0 <| w_var rfl <| w_pq1 <| w_var rfl ⟨?_, ?_⟩
      · show CMulW _ _
        unfold CMulW
        dsimp only
        omega
      exact decide_eq_decide.mpr (Rat.lt_iff q r).symm⟩
abbrev spRatio (K : PySem.W.Frag) (C : Addr) : Sp := spP (A1 (rPq K)) (Sz 4000) (rRat C) fun q y => y = q
theorem c_law_ratio (T : Tx K mg C) : Cal P w K mg base "_law_ratio" 4 ["one"] (spRatio K C) :=
  T.d_law_ratio.cal (fun _ _ _ _ _ _ us hl => match us, hl with | [_], _ => rfl) fun f fd F => fnP F sc_law_ratio (fun _ => rfl) fun cdv A outer s H E hr => ⟨_, (pss_one (ps_ret (pe_mkC (mk_Ratio T) (hr.mono (by decide)) rfl (pa_cons (pe_ix (ix_tupK (K := K) rfl) (pv 0) pe_int (fun _ _ => rfl)) (pa_cons (pe_ix (ix_tupK (K := K) rfl) (pv 0) pe_int (fun _ _ => rfl)) pa_nil))))),
    fun q hp => s_ret <| w_ratio <| a_cons <| w_pq0 <| w_var rfl <| a_cons <| w_pq1 <| w_var rfl <| a_nil ⟨_, _, rfl, ⟨den_pos q, Nat.lt_trans (hp.den (by decide)) (by decide)⟩, Rat.num_divInt_den q⟩⟩
abbrev spPair (K : PySem.W.Frag) (C : Addr) : Sp := spP (A1 (rRat C)) (fun _ => True) (rPq K) fun q y => y = q
theorem c_law_pair (T : Tx K mg C) : Cal P w K mg base "_law_pair" 1 ["told"] (spPair K C) :=
  T.d_law_pair.cal (fun _ _ _ _ _ _ us hl => match us, hl with | [_], _ => rfl) fun f fd F => fnP F sc_law_pair (fun _ => rfl) fun cdv A outer s H E hr => ⟨_, (pss_one (ps_ret (pe_tup (pa_cons (kfld (K := K) rfl (pv 0) rfl) (pa_cons (kfld (K := K) rfl (pv 0) rfl) pa_nil))))),
    fun q hp => s_ret <| w_pq <| w_pr <| w_fld T.cls T.no_top <| w_var rfl ⟨_, rfl, w_fld T.cls T.no_bottom <| w_var rfl ⟨_, rfl, q, rfl, rfl⟩⟩⟩
end
end K05
end

-- part K05F
section
set_option Elab.async false
set_option linter.all false
set_option maxRecDepth 100000
set_option maxHeartbeats 400000
namespace K05
open PySem PySem.Spec PyProof.Rows L2 L2.Lc
def aheadZ : List (Rat × Rat) → Bool
  | (x, y) :: l => if x = y then aheadZ l else decide (x < y)
  | [] => false
def ahead (x y : List Rat) : Bool := aheadZ (x.zip y)
theorem aheadZ_app {post : List (Rat × Rat)} : ∀ {pre : List (Rat × Rat)}, (∀ p ∈ pre, p.1 = p.2) → aheadZ (pre ++ post) = aheadZ post
  | [], _ => rfl
  | (a, b) :: pre, h => by
    have e : a = b := h (a, b) (List.mem_cons_self ..)
    show (if a = b then aheadZ (pre ++ post) else _) = _
    rw [if_pos e]
    exact aheadZ_app fun p hp => h p (List.mem_cons_of_mem _ hp)
def insP (f : List (List Rat)) (x : List Rat) : List (List Rat) :=
  if x ∈ f then f else f.take (f.filter fun y => ahead y x).length ++ [x] ++ f.drop (f.filter fun y => ahead y x).length
def putIn (l : List (List Rat)) : List (List Rat) := l.foldl insP []
theorem insP_len (f : List (List Rat)) (x : List Rat) : (insP f x).length ≤ f.length + 1 := by
  unfold insP
  split
  · omega
  · have : (f.filter fun y => ahead y x).length ≤ f.length := List.length_filter_le _ _
    simp only [List.length_append, List.length_take, List.length_drop, List.length_cons, List.length_nil]
    omega
theorem putIn_len (l : List (List Rat)) : (putIn l).length ≤ l.length := by
  have key : ∀ (l f : List (List Rat)), (l.foldl insP f).length ≤ f.length + l.length := by
    intro l
    induction l with
    | nil => intro f; simp
    | cons x l ih =>
      intro f
      have := ih (insP f x)
      have := insP_len f x
      simp only [List.foldl_cons, List.length_cons]
      omega
  have k := key l []
  simp only [List.length_nil, Nat.zero_add] at k
  exact k
theorem mem_insP {f : List (List Rat)} {x y : List Rat} (h : y ∈ insP f x) : y ∈ f ∨ y = x := by
  unfold insP at h
  split at h
  · exact .inl h
  · simp only [List.mem_append, List.mem_singleton] at h
    rcases h with (h | h) | h
    · exact .inl (List.mem_of_mem_take h)
    · exact .inr h
    · exact .inl (List.mem_of_mem_drop h)
theorem mem_putIn {l : List (List Rat)} {y : List Rat} (h : y ∈ putIn l) : y ∈ l := by
  have key : ∀ (l f : List (List Rat)), y ∈ l.foldl insP f → y ∈ f ∨ y ∈ l := by
    intro l
    induction l with
    | nil => intro f h; exact .inl h
    | cons x l ih =>
      intro f h
      rcases ih (insP f x) h with h | h
      · rcases mem_insP h with h | rfl
        · exact .inl h
        · exact .inr (List.mem_cons_self ..)
      · exact .inr (List.mem_cons_of_mem _ h)
  rcases key l [] h with h | h
  · cases h
  · exact h
theorem putIn_snoc (l : List (List Rat)) (x : List Rat) : putIn (l ++ [x]) = insP (putIn l) x := by
  unfold putIn
  rw [List.foldl_append]; rfl
section
variable {P : Program} {w : World} {K : PySem.W.Frag} {mg : Str → Option Value} {base : Heap} {C : Addr}
abbrev SzL (l : List Rat) : Prop := ∀ q ∈ l, Sz 4000 q
abbrev spAhead (K : PySem.W.Frag) : Sp := spP (A2 (rTup K (rPq K)) (rTup K (rPq K))) (fun p => SzL p.1 ∧ SzL p.2) rBl fun p y => y = ahead p.1 p.2
theorem c_law_is_ahead (T : Tx K mg C) : Cal P w K mg base "_law_is_ahead" 2 ["one", "other"] (spAhead K) :=
  T.d_law_is_ahead.cal (fun _ _ _ _ _ _ us hl => match us, hl with | [_, _], _ => rfl) fun f fd F => fnP F sc_law_is_ahead (fun _ => rfl) fun cdv A outer s H E hr => ⟨_, (pss_cons (ps_for PassesOwn.never rfl (ki_zip (K := K) rfl rfl T.f_zip (pa_cons (pv 0) (pa_cons (pv 1) pa_nil))) (kgtup (K := K) rfl rfl (pgs_cons (pg_name (i := 2) sc_law_is_ahead.nd rfl (by first | exact Or.inl rfl | exact Or.inr rfl)) (pgs_cons (pg_name (i := 3) sc_law_is_ahead.nd rfl (by first | exact Or.inl rfl | exact Or.inr rfl)) pgs_nil))) (pss_one (ps_if (pt_cmpR (op_neDK (K := K) rfl hr.units) (pv 2) (pv 3) (nomark _)) (pss_one (ps_ret (pe_cal (c_law_is_less T) (hr.mono (by decide)) rfl (pa_cons (pv 2) (pa_cons (pv 3) pa_nil))))) pss_nil)))
  (pss_one (ps_ret pe_bl))),
    fun x hp => by
      obtain ⟨l, r⟩ := x
      obtain ⟨h1, h2⟩ := hp
      refine s_seq <| s_for (is := [2] ++ [3]) (R := rPr K (rPq K) (rPq K)) <| i_zipT <| a_cons <| w_var rfl <| a_cons <| w_var rfl <| a_nil ⟨l, r, rfl, fun pre Γ _ => (∃ o1 o2, Γ = [some (.mk (rTup K (rPq K)) l), some (.mk (rTup K (rPq K)) r), o1, o2]) ∧ ∀ p ∈ pre, p.1 = p.2, ⟨⟨_, _, rfl⟩, fun _ h => by cases h⟩, ?_, ?_⟩
      · rintro pre ⟨x, y⟩ post Γ' n' hl ⟨⟨o1, o2, rfl⟩, hpre⟩
        refine tg_pair <| tg_name <| tg_name <| s_if <| t_test <| w_op0 (o_neD dat_pq (by decide) eq_pq) <| w_var rfl <| w_var rfl ⟨fun z => ?_, fun z => s_next ?_⟩
        · have z : x ≠ y := by simpa using z
          have hm : (x, y) ∈ l.zip r := by rw [hl]; simp
          have m1 := (List.of_mem_zip hm).1
          have m2 := (List.of_mem_zip hm).2
          refine s_ret <| w_callP <| a_cons <| w_var rfl <| a_cons <| w_var rfl <| a_nil ⟨(x, y), rfl, ⟨h1 x m1, h2 y m2⟩, fun b hb => ?_⟩
          show b = aheadZ (l.zip r)
          rw [hb, hl, aheadZ_app hpre]
          show _ = if x = y then _ else decide (x < y)
          rw [if_neg z]
        · have z : x = y := by simpa using z
          refine ⟨⟨_, _, rfl⟩, fun p hp => ?_⟩
          rcases List.mem_append.mp hp with hp | hp
          · exact hpre p hp
          · rw [List.mem_singleton.mp hp]; exact z
      · rintro Γ' n' ⟨⟨o1, o2, rfl⟩, hpre⟩
        refine s_ret <| w_bl ?_
        show false = aheadZ (l.zip r)
        have := aheadZ_app (post := []) hpre
        rw [List.append_nil] at this
        rw [this]; rfl⟩
abbrev spPutIn (K : PySem.W.Frag) : Sp := spP (A1 (rLst K (rTup K (rPq K)))) (fun l => l.length ≤ 1000 ∧ ∀ x ∈ l, SzL x) (rLst K (rTup K (rPq K))) fun l y => y = putIn l
theorem c_law_put_in (T : Tx K mg C) : Cal P w K mg base "_law_put_in" 3 ["points"] (spPutIn K) :=
  T.d_law_put_in.cal (fun _ _ _ _ _ _ us hl => match us, hl with | [_], _ => rfl) fun f fd F => fnP F sc_law_put_in (fun _ => rfl) fun cdv A outer s H E hr => ⟨_, (pss_cons (ps_set (i := 1) sc_law_put_in.nd rfl (by first | exact Or.inl rfl | exact Or.inr rfl) (pe_lst pa_nil))
  (pss_cons (ps_for PassesOwn.never rfl (ki_list (K := K) rfl (pv 0)) (pg_name (i := 2) sc_law_put_in.nd rfl (by first | exact Or.inl rfl | exact Or.inr rfl)) (pss_one (ps_if (pt_cmpR (op_notInDK (K := K) rfl (hu65 hr)) (pv 2) (pv 1) (by with_unfolding_all rfl)) (pss_cons (ps_set (i := 3) sc_law_put_in.nd rfl (by first | exact Or.inl rfl | exact Or.inr rfl) (pe_callB (r := rLenOf K) call_len (by rfl) T.f_len boot_len (pa_cons (pe_lc (own := [("one", 4)]) rfl sc_law_put_in.nd (ki_list (K := K) rfl (pv 1)) (blkOk_by (N := ["points", "found", "point", "at", "one"]) (sc := defScope s_law_put_in) (by decide +kernel)) (fun _ _ _ _ _ => (pg_name (i := 4) sc_law_put_in.nd rfl (by first | exact Or.inl rfl | exact Or.inr rfl))) (fun _ _ _ _ _ => (pts_one (pt_val (pe_cal (c_law_is_ahead T) (hr.mono (by decide)) rfl (pa_cons (pv 4) (pa_cons (pv 2) pa_nil)))))) (fun _ _ _ _ _ => (pv 4))) pa_nil)))
  (pss_one (ps_set (i := 1) sc_law_put_in.nd rfl (by first | exact Or.inl rfl | exact Or.inr rfl) (pe_op op_cat (pe_op op_cat (pe_slice (sl_listK (K := K) rfl) (pv 1) po_none (po_some (pv 3))) (pe_lst (pa_cons (pv 2) pa_nil))) (pe_slice (sl_listK (K := K) rfl) (pv 1) (po_some (pv 3)) po_none))))) pss_nil)))
  (pss_one (ps_ret (pv 1))))),
    fun l hp => by
      obtain ⟨h1, h2⟩ := hp
      refine s_seq <| s_set <| w_lst (K := K) (R := rTup K (rPq K)) <| a_nil ⟨[], rfl, by decide, ?_⟩
      refine s_seq <| s_for (is := [2]) <| i_list <| w_var rfl ⟨fun pre Γ _ => (∃ o1 o2 o3, Γ = [some (.mk (rLst K (rTup K (rPq K))) l), some (.mk (rLst K (rTup K (rPq K))) (putIn pre)), o1, o2, o3]), ⟨_, _, _, rfl⟩, ?_, ?_⟩
      · rintro pre x post Γ' n' hl ⟨o1, o2, o3, rfl⟩
        have hlen : pre.length < 1000 := by
          have := congrArg List.length hl
          rw [List.length_append, List.length_cons] at this
          omega
        have hfl := putIn_len pre
        refine tg_name <| s_if <| t_test <| w_op0 (o_notInD (dat_tup dat_pq) (by decide) (eq_tup eq_pq)) <| w_var rfl <| w_var rfl ⟨fun z => ?_, fun z => s_next ?_⟩
        · have z : x ∉ putIn pre := by simpa using z
          have hk : ((putIn pre).filter fun y => ahead y x).length ≤ (putIn pre).length := List.length_filter_le _ _
          refine s_seq <| s_set <| w_cb <| a_cons <| w_lc_filter (is := [4]) (S := rTup K (rPq K)) (fun y => ahead y x) (fun y => y) <| i_list <| w_var rfl ⟨Nat.le_trans hfl (by show pre.length ≤ bigN; unfold bigN; omega), fun y hy => ?_, a_nil ⟨_, c_lenL, ?_⟩⟩
          · refine tg_name <| t_B <| w_callP <| a_cons <| w_var rfl <| a_cons <| w_var rfl <| a_nil ⟨(y, x), rfl, ⟨h2 y ?_, h2 x ?_⟩, fun b hb => ⟨hb, rfl, fun _ => w_var rfl ⟨rfl, rfl⟩⟩⟩
            · rw [hl]; exact List.mem_append_left _ (mem_putIn hy)
            · rw [hl]; simp
          rw [List.map_id']
          refine s_set <| w_cat <| w_cat <| w_to <| w_var rfl <| w_var rfl ⟨by omega, w_lst (K := K) (R := rTup K (rPq K)) <| a_cons <| w_var rfl <| a_nil ⟨[x], rfl, by show 1 ≤ bigN; decide, ?_, ?_⟩⟩
          · rw [List.length_take]; show _ ≤ bigN; unfold bigN; simp only [List.length_cons, List.length_nil]; omega
          refine w_from <| w_var rfl <| w_var rfl ⟨by omega, ?_, ?_⟩
          · rw [List.length_append, List.length_take, List.length_drop]; show _ ≤ bigN; unfold bigN; simp only [List.length_cons, List.length_nil]; omega
          · have e : putIn (pre ++ [x]) = (putIn pre).take (((((putIn pre).filter fun y => ahead y x).length : Nat) : Int)).toNat ++ [x] ++ (putIn pre).drop (((((putIn pre).filter fun y => ahead y x).length : Nat) : Int)).toNat := by
              rw [putIn_snoc]
              unfold insP
              rw [if_neg z, Int.toNat_natCast]
            show ∃ o1 o2 o3, _ = [_, some (Ent.mk (rLst K (rTup K (rPq K))) (putIn (pre ++ [x]))), o1, o2, o3]
            rw [e]
            exact ⟨_, _, _, rfl⟩
        · have z : x ∈ putIn pre := by simpa using z
          have e : putIn (pre ++ [x]) = putIn pre := by
            rw [putIn_snoc]
            unfold insP
            rw [if_pos z]
          show ∃ o1 o2 o3, _ = [_, some (Ent.mk (rLst K (rTup K (rPq K))) (putIn (pre ++ [x]))), o1, o2, o3]
          rw [e]
          exact ⟨_, _, _, rfl⟩
      · rintro Γ' n' ⟨o1, o2, o3, rfl⟩
        exact s_ret <| w_var rfl rfl⟩
end
end K05
end

-- part K05G
section
set_option Elab.async false
set_option linter.all false
set_option maxRecDepth 100000
set_option maxHeartbeats 400000
namespace K05
open PySem PySem.Spec PyProof.Rows L2 L2.Lc
theorem atI_some {α : Type} {l : List α} {r : Int} (h0 : 0 ≤ r) (h : r < (l.length : Int)) : ∃ x, atI l r = some x ∧ x ∈ l ∧ l[r.toNat]? = some x := by
  have hl : r.toNat < l.length := by omega
  refine ⟨l[r.toNat], ?_, List.getElem_mem hl, List.getElem?_eq_getElem hl⟩
  have := L2.Lc.atI_nat (List.getElem?_eq_getElem hl)
  rwa [Int.toNat_of_nonneg h0] at this
theorem den_dvd {a b : Int} (hb : 0 < b) : ((Rat.divInt a b).den : Int) ∣ b := by
  rw [← den_div hb]
  have : ((Nat.gcd a.natAbs b.natAbs : Nat) : Int) ∣ b := Int.gcd_dvd_right ..
  exact Int.ediv_dvd_of_dvd this
theorem num_le {a b : Int} (hb : 0 < b) : (Rat.divInt a b).num.natAbs ≤ a.natAbs := by
  rw [← num_div hb]
  exact Int.natAbs_ediv_le_natAbs _ _
theorem erase_perm {α : Type} : ∀ (l : List α) (k : Nat) (h : k < l.length), ([l[k]] ++ l.eraseIdx k).Perm l
  | _ :: _, 0, _ => List.Perm.refl _
  | x :: l, k + 1, h => by
    have hk : k < l.length := by simpa using h
    have ih := erase_perm l k hk
    show (l[k] :: x :: l.eraseIdx k).Perm (x :: l)
    exact (List.Perm.swap _ _ _).trans (ih.cons x)
section
variable {P : Program} {w : World} {K : PySem.W.Frag} {mg : Str → Option Value} {base : Heap} {C : Addr}
abbrev smallN (n : Int × Int) : Prop := 0 ≤ n.1 ∧ n.1 < 1000000
abbrev spPick (K : PySem.W.Frag) {α : Type} (R : Rl α) : Sp := spS mPen (fun I (l : List α) => [.mk (rPen K I) (), .mk (rLst K R) l]) (fun l n => l ≠ [] ∧ l.length ≤ 1000 ∧ smallN n) R fun l n y n' => y ∈ l ∧ n.1 ≤ n'.1 ∧ n'.1 ≤ n.1 + 1
theorem c_law_pick {α : Type} {R : Rl α} (T : Tx K mg C) : Cal P w K mg base "_law_pick" 2 ["pen", "some"] (spPick K R) :=
  T.d_law_pick.cal (fun _ _ _ _ _ _ us hl => match us, hl with | [_, _], _ => rfl) fun f fd F => fnS F sc_law_pick (fun _ _ => rfl) fun cdv A outer s H E hr => ⟨_, (pss_one (ps_ret (pe_ix (ix_listK (K := K) rfl) (pv 1) (pe_cal (c_law_draw T) (hr.mono (by decide)) rfl (pa_cons (pv 0) (pa_cons (pe_callB (r := rLenOf K) call_len (by rfl) T.f_len boot_len (pa_cons (pv 1) pa_nil)) pa_nil))) (fun _ _ => rfl)))),
    fun I l n hp => by
      obtain ⟨h1, h2, h3⟩ := hp
      have hl : 0 < l.length := List.length_pos_iff.mpr h1
      refine s_ret <| w_opP o_ixL <| w_var rfl <| w_callS I <| a_cons <| w_var rfl <| a_cons <| w_cb <| a_cons <| w_var rfl <| a_nil ⟨_, c_lenL, a_nil ⟨(l.length : Int), rfl, ⟨h3.1, h3.2, ?_⟩, fun r n2 hr => ?_⟩⟩
      · have : (l.length : Int) < 2 ^ 64 := by omega
        have h5 : (2 : Int) ^ 64 < 2 ^ 8000 := by decide +kernel
        omega
      · obtain ⟨q1, q2, q3, q4⟩ := hr
        have : r < (l.length : Int) := by
          by_cases z : 2 ≤ (l.length : Int)
          · exact q3 z
          · have := q4 (by omega); omega
        obtain ⟨x, hx, hm, _⟩ := atI_some q2 this
        exact ⟨x, hx, hm, q1⟩⟩
abbrev bigB : Nat := 12 * (10 ^ 20 + 39)
abbrev okB (q : Rat) : Prop := q.den ∣ bigB ∧ Sz 80 q
abbrev spDrawn (K : PySem.W.Frag) : Sp := spS mPen (fun I (_ : Unit) => [.mk (rPen K I) ()]) (fun _ n => 0 ≤ n.1 ∧ n.1 < 999990) (rPq K) fun _ n y n' => okB y ∧ n.1 ≤ n'.1 ∧ n'.1 ≤ n.1 + 2
theorem c_law_drawn_pair (T : Tx K mg C) : Cal P w K mg base "_law_drawn_pair" 3 ["pen"] (spDrawn K) :=
  T.d_law_drawn_pair.cal (fun _ _ _ _ _ _ us hl => match us, hl with | [_], _ => rfl) fun f fd F => fnS F sc_law_drawn_pair (fun _ _ => rfl) fun cdv A outer s H E hr => ⟨_, (pss_cons (ps_set (i := 1) sc_law_drawn_pair.nd rfl (by first | exact Or.inl rfl | exact Or.inr rfl) (pe_cal (c_law_pick (R := rInt) T) (hr.mono (by decide)) rfl (pa_cons (pv 0) (pa_cons (pe_lst (pa_cons pe_int (pa_cons pe_int (pa_cons pe_int (pa_cons pe_int (pa_cons (pe_op op_add (pe_op op_pow pe_int pe_int) pe_int) pa_nil)))))) pa_nil))))
  (pss_one (ps_ret (pe_cal (c_law_low T) (hr.mono (by decide)) rfl (pa_cons (pe_op op_sub (pe_op op_sub (pe_cal (c_law_draw T) (hr.mono (by decide)) rfl (pa_cons (pv 0) (pa_cons (pe_op op_add (pe_op op_mul pe_int (pv 1)) pe_int) pa_nil))) (pv 1)) pe_int) (pa_cons (pv 1) pa_nil)))))),
    fun I u n hp => by
      obtain ⟨h1, h2⟩ := hp
      refine s_seq <| s_set <| w_callS I <| a_cons <| w_var rfl <| a_cons <| w_lst (K := K) (R := rInt) <| a_cons <| w_int <| a_cons <| w_int <| a_cons <| w_int <| a_cons <| w_int <| a_cons <| w_op0 o_int <| w_op o_intC <| w_int <| w_int ⟨⟨by decide, by decide, by decide⟩, w_int <| a_nil ⟨[1, 2, 3, 12, 10 ^ (20 : Int).toNat + 39], rfl, by show 5 ≤ bigN; decide, a_nil ⟨_, rfl, ⟨by simp, by simp, h1, by omega⟩, fun b n2 hb => ?_⟩⟩⟩
      obtain ⟨hm, q1, q2⟩ := hb
      have hb : 0 < b ∧ b ≤ 10 ^ 20 + 39 ∧ b ∣ (bigB : Int) := by
        simp only [List.mem_cons, List.not_mem_nil, or_false] at hm
        rcases hm with rfl | rfl | rfl | rfl | rfl <;> decide
      obtain ⟨b1, b2, b3⟩ := hb
      refine s_ret <| w_callP <| a_cons <| w_op0 o_int <| w_op0 o_int <| w_callS I <| a_cons <| w_var rfl <| a_cons <| w_op0 o_int <| w_op o_intC <| w_int <| w_var rfl ⟨.inl ⟨by decide, by decide⟩, w_int <| a_nil ⟨2 * b + 3, rfl, ⟨by omega, by omega, ?_⟩, fun r n3 hr => w_var rfl <| w_int <| a_cons <| w_var rfl <| a_nil ⟨(r - b - 1, b), rfl, ⟨b1, ?_⟩, fun y hy => ?_⟩⟩⟩
      · have h5 : (2 : Int) ^ 70 < 2 ^ 8000 := by decide +kernel
        omega
      · exact Nat.lt_trans (log_lt (k := 70) (by decide) (by dsimp only; omega) (by dsimp only; omega)) (by decide)
      · obtain ⟨⟨r1, r2⟩, r3, r4, _⟩ := hr
        have r4 := r4 (by omega)
        dsimp only at hy
        subst y
        refine ⟨⟨?_, ?_, ?_⟩, by omega, by omega⟩
        · exact Int.natCast_dvd_natCast.mp (Int.dvd_trans (den_dvd b1) b3)
        · have := num_le (a := r - b - 1) b1
          refine Nat.lt_of_le_of_lt this ?_
          omega
        · have := Int.le_of_dvd b1 (den_dvd (a := r - b - 1) b1)
          omega⟩
abbrev spMixed (K : PySem.W.Frag) {α : Type} (R : Rl α) : Sp := spS mPen (fun I (l : List α) => [.mk (rPen K I) (), .mk (rLst K R) l]) (fun l n => l.length ≤ 1000 ∧ 0 ≤ n.1 ∧ n.1 < 900000) (rLst K R) fun l n y n' => y.Perm l ∧ n.1 ≤ n'.1 ∧ n'.1 ≤ n.1 + l.length
theorem c_law_mixed {α : Type} {R : Rl α} (T : Tx K mg C) : Cal P w K mg base "_law_mixed" 2 ["pen", "some"] (spMixed K R) :=
  T.d_law_mixed.cal (fun _ _ _ _ _ _ us hl => match us, hl with | [_, _], _ => rfl) fun f fd F => fnS F sc_law_mixed (fun _ _ => rfl) fun cdv A outer s H E hr => ⟨_, (pss_cons (ps_par (i := 2) (j := 3) rfl sc_law_mixed.nd rfl rfl (by decide) rfl rfl (pa_cons (pe_callTy (r := rListOf K) call_list_of (by rfl) T.f_list boot_list (pa_cons (pv 1) pa_nil)) (pa_cons (pe_lst pa_nil) pa_nil)) rfl)
  (pss_cons (ps_for PassesOwn.never rfl (pi_range1 rfl T.f_range (pa_cons (pe_callB (r := rLenOf K) call_len (by rfl) T.f_len boot_len (pa_cons (pv 2) pa_nil)) pa_nil)) (pg_name (i := 4) sc_law_mixed.nd rfl (by first | exact Or.inl rfl | exact Or.inr rfl)) (pss_one (ps_expr (kbm (K := K) rfl PySem.F.plainAttrs_list PySem.F.slot_list_append PySem.F.type_list_append mt_append (pv 3) (pa_cons (kbm (K := K) rfl PySem.F.plainAttrs_list PySem.F.slot_list_pop PySem.F.type_list_pop mt_popAt (pv 2) (pa_cons (pe_cal (c_law_draw T) (hr.mono (by decide)) rfl (pa_cons (pv 0) (pa_cons (pe_callB (r := rLenOf K) call_len (by rfl) T.f_len boot_len (pa_cons (pv 2) pa_nil)) pa_nil))) pa_nil)) pa_nil)))))
  (pss_one (ps_ret (pv 3))))),
    fun I l n hp => by
      obtain ⟨h1, h2, h3⟩ := hp
      refine s_mixStart rfl fun la fa pl hpl => ?_
      have hlen : pl.length = l.length := by rw [← hpl, List.length_map]
      refine s_seq <| s_for (is := [4]) <| i_range <| a_cons <| w_mixLen rfl <| a_nil ⟨(pl.length : Int), rfl, by omega, by omega, fun pre Γ st => (∃ o, Γ = [some (.mk (rPen K I) ()), some (.mk (rLst K R) l), some (.mk (rAt la) ()), some (.mk (rAt fa) ()), o]) ∧ pre.length + st.2.1.length = pl.length ∧ st.2.2.length = pre.length ∧ (st.2.2 ++ st.2.1).Perm pl ∧ n.1 ≤ st.1.1 ∧ st.1.1 ≤ n.1 + pre.length, ⟨⟨_, rfl⟩, by simp, by simp, by simp, by dsimp only; omega, by dsimp only; omega⟩, ?_, ?_⟩
      · rintro pre x post Γ' st hl ⟨⟨o, rfl⟩, e1, e2, e3, e4, e5⟩
        have hpre : pre.length < pl.length := by
          have := congrArg List.length hl
          unfold rangeL at this
          rw [List.length_map, List.length_range, List.length_append, List.length_cons, Int.toNat_natCast] at this
          omega
        refine tg_name <| s_mixStep (I := ⟨I, la, fa⟩) rfl rfl <| w_penCall (I := ⟨I, la, fa⟩) <| a_cons <| w_var rfl <| a_cons <| w_mixLen (I := ⟨I, la, fa⟩) rfl <| a_nil ⟨(st.2.1.length : Int), rfl, ⟨by omega, by omega, ?_⟩, fun r n2 hr => ?_⟩
        · have h5 : (2 : Int) ^ 64 < 2 ^ 8000 := by decide +kernel
          omega
        obtain ⟨⟨q0, q1⟩, q2, q3, q4⟩ := hr
        have hr : r < (st.2.1.length : Int) := by
          by_cases z : 2 ≤ (st.2.1.length : Int)
          · exact q3 z
          · have := q4 (by omega); omega
        have hk : r.toNat < st.2.1.length := by omega
        refine ⟨r.toNat, st.2.1[r.toNat], by omega, by omega, List.getElem?_eq_getElem hk, ?_, ⟨_, rfl⟩, ?_, ?_, ?_, ?_, ?_⟩
        · dsimp only; unfold bigN; omega
        · dsimp only
          rw [List.length_eraseIdx_of_lt hk, List.length_append]
          simp only [List.length_cons, List.length_nil]
          omega
        · dsimp only
          rw [List.length_append, List.length_append, e2]
          rfl
        · dsimp only
          refine List.Perm.trans ?_ e3
          rw [List.append_assoc]
          refine List.Perm.append_left _ ?_
          exact erase_perm _ _ hk
        · dsimp only; omega
        · dsimp only
          rw [List.length_append]
          simp only [List.length_cons, List.length_nil]
          omega
      · rintro Γ' st ⟨⟨o, rfl⟩, e1, e2, e3, e4, e5⟩
        have hz : (rangeL 0 ((pl.length : Int)).toNat).length = pl.length := by
          unfold rangeL
          rw [List.length_map, List.length_range, Int.toNat_natCast]
        rw [hz] at e1 e2 e5
        have hnil : st.2.1 = [] := List.length_eq_zero_iff.mp (by omega)
        rw [hnil, List.append_nil] at e3
        refine s_ret <| w_var rfl ⟨e3, ?_, e4, by omega⟩
        rw [← hpl]
        exact e3.map _⟩
end
end K05
end

-- part K05M
section
set_option Elab.async false
set_option linter.all false
set_option maxRecDepth 100000
set_option maxHeartbeats 400000
/-! # plain: points in order -/
namespace K05
open PySem PySem.Spec PyProof.Rows L2 L2.Lc
abbrev Pt : Type := V × List (V × Rat)
def vl (p : Pt) : List Rat := p.2.map (·.2)
def keyv (W : Int) (q : Rat) : Int := q.num * (W / (q.den : Int))
theorem key_lt {W : Int} {q r : Rat} (hW : 0 < W) (hq : (q.den : Int) ∣ W) (hr : (r.den : Int) ∣ W) : keyv W q < keyv W r ↔ q < r := by
  obtain ⟨m, hm⟩ := hq
  obtain ⟨n, hn⟩ := hr
  have d1 : (0 : Int) < (q.den : Int) := by have := q.den_pos; omega
  have d2 : (0 : Int) < (r.den : Int) := by have := r.den_pos; omega
  have m0 : 0 < m := by rw [hm] at hW; exact Int.pos_of_mul_pos_right hW d1
  have n0 : 0 < n := by rw [hn] at hW; exact Int.pos_of_mul_pos_right hW d2
  unfold keyv
  rw [show W / (q.den : Int) = m by rw [hm]; exact Int.mul_ediv_cancel_left _ (by omega), show W / (r.den : Int) = n by rw [hn]; exact Int.mul_ediv_cancel_left _ (by omega), Rat.lt_iff]
  have e1 : (q.num * m) * W = (q.num * (r.den : Int)) * (m * n) := by rw [hn]; grind
  have e2 : (r.num * n) * W = (r.num * (q.den : Int)) * (m * n) := by rw [hm]; grind
  constructor
  · intro h
    have h2 := Int.mul_lt_mul_of_pos_right h hW
    rw [e1, e2] at h2
    exact Int.lt_of_mul_lt_mul_right h2 (Int.le_of_lt (Int.mul_pos m0 n0))
  · intro h
    have h2 := Int.mul_lt_mul_of_pos_right h (Int.mul_pos m0 n0)
    rw [← e1, ← e2] at h2
    exact Int.lt_of_mul_lt_mul_right h2 (Int.le_of_lt hW)
theorem key_inj {W : Int} {q r : Rat} (hW : 0 < W) (hq : (q.den : Int) ∣ W) (hr : (r.den : Int) ∣ W) (h : keyv W q = keyv W r) : q = r := by
  have h1 := key_lt hW hq hr
  have h2 := key_lt hW hr hq
  rw [h] at h1
  rw [h] at h2
  have n1 : ¬ q < r := fun z => by have := h1.mpr z; omega
  have n2 : ¬ r < q := fun z => by have := h2.mpr z; omega
  exact Rat.le_antisymm (Rat.not_lt.mp n2) (Rat.not_lt.mp n1)
abbrev divs (W : Int) (l : List Rat) : Prop := ∀ q ∈ l, (q.den : Int) ∣ W
theorem lex_ahead {W : Int} (hW : 0 < W) : ∀ {a b : List Rat}, a.length = b.length → divs W a → divs W b → lexI (a.map (keyv W)) (b.map (keyv W)) = ahead a b
  | [], [], _, _, _ => rfl
  | x :: r, y :: t, hl, h1, h2 => by
    have ih := lex_ahead hW (a := r) (b := t) (by simpa using hl) (fun q hq => h1 q (List.mem_cons_of_mem _ hq)) (fun q hq => h2 q (List.mem_cons_of_mem _ hq))
    have kx := key_lt hW (h1 x (List.mem_cons_self ..)) (h2 y (List.mem_cons_self ..))
    have ky := key_lt hW (h2 y (List.mem_cons_self ..)) (h1 x (List.mem_cons_self ..))
    show (decide (keyv W x < keyv W y) || (!decide (keyv W y < keyv W x) && lexI (r.map (keyv W)) (t.map (keyv W)))) = aheadZ ((x, y) :: r.zip t)
    rw [ih]
    show _ = if x = y then aheadZ (r.zip t) else decide (x < y)
    rw [decide_eq_decide.mpr kx, decide_eq_decide.mpr ky]
    by_cases e : x = y
    · subst e
      rw [if_pos rfl, decide_eq_false (Rat.lt_irrefl)]
      rfl
    · rw [if_neg e]
      by_cases z : x < y
      · simp [z]
      · have : y < x := Rat.lt_of_le_of_ne (Rat.not_lt.mp z) (Ne.symm e)
        simp [z, this]
  | [], _ :: _, hl, _, _ => by simp at hl
  | _ :: _, [], hl, _, _ => by simp at hl
theorem keys_inj {W : Int} (hW : 0 < W) : ∀ {a b : List Rat}, divs W a → divs W b → a.map (keyv W) = b.map (keyv W) → a = b
  | [], [], _, _, _ => rfl
  | x :: r, y :: t, h1, h2, h => by
    obtain ⟨e1, e2⟩ := List.cons.inj h
    rw [key_inj hW (h1 x (List.mem_cons_self ..)) (h2 y (List.mem_cons_self ..)) e1, keys_inj hW (fun q hq => h1 q (List.mem_cons_of_mem _ hq)) (fun q hq => h2 q (List.mem_cons_of_mem _ hq)) e2]
  | [], _ :: _, _, _, h => by cases h
  | _ :: _, [], _, _, h => by cases h
/-- of two lists of one length that are not equal, one is ahead -/
theorem ahead_total : ∀ {a b : List Rat}, a.length = b.length → ahead a b = false → ahead b a = false → a = b
  | [], [], _, _, _ => rfl
  | x :: r, y :: t, hl, h1, h2 => by
    have h1 : (if x = y then aheadZ (r.zip t) else decide (x < y)) = false := h1
    have h2 : (if y = x then aheadZ (t.zip r) else decide (y < x)) = false := h2
    by_cases e : x = y
    · subst e
      rw [if_pos rfl] at h1 h2
      rw [ahead_total (a := r) (b := t) (by simpa using hl) h1 h2]
    · rw [if_neg e] at h1
      rw [if_neg (Ne.symm e)] at h2
      exact absurd (Rat.le_antisymm (Rat.not_lt.mp (of_decide_eq_false h2)) (Rat.not_lt.mp (of_decide_eq_false h1))) e
  | [], _ :: _, hl, _, _ => by simp at hl
  | _ :: _, [], hl, _, _ => by simp at hl
theorem ahead_irrefl : ∀ a : List Rat, ahead a a = false
  | [] => rfl
  | x :: r => by
    show (if x = x then aheadZ (r.zip r) else decide (x < x)) = false
    rw [if_pos rfl]
    exact ahead_irrefl r
theorem rlt_trans {a b c : Rat} (h1 : a < b) (h2 : b < c) : a < c := by
  refine Rat.lt_of_le_of_ne (Rat.le_trans (Rat.le_of_lt h1) (Rat.le_of_lt h2)) fun e => ?_
  subst e
  exact absurd (Rat.le_antisymm (Rat.le_of_lt h1) (Rat.le_of_lt h2)) (Rat.ne_of_lt h1)
theorem ahead_trans : ∀ {a b c : List Rat}, a.length = b.length → b.length = c.length → ahead a b = true → ahead b c = true → ahead a c = true
  | [], [], _, _, _, h, _ => by cases h
  | x :: r, y :: t, z :: u, hl, hm, h1, h2 => by
    have h1 : (if x = y then aheadZ (r.zip t) else decide (x < y)) = true := h1
    have h2 : (if y = z then aheadZ (t.zip u) else decide (y < z)) = true := h2
    show (if x = z then aheadZ (r.zip u) else decide (x < z)) = true
    by_cases e1 : x = y
    · subst e1
      rw [if_pos rfl] at h1
      by_cases e2 : x = z
      · subst e2
        rw [if_pos rfl] at h2 ⊢
        exact ahead_trans (a := r) (b := t) (c := u) (by simpa using hl) (by simpa using hm) h1 h2
      · rw [if_neg e2] at h2 ⊢
        exact h2
    · rw [if_neg e1] at h1
      have h1 := of_decide_eq_true h1
      by_cases e2 : y = z
      · subst e2
        rw [if_neg e1]
        exact decide_eq_true h1
      · rw [if_neg e2] at h2
        have h2 := of_decide_eq_true h2
        have h3 := rlt_trans h1 h2
        rw [if_neg (Rat.ne_of_lt h3)]
        exact decide_eq_true h3
  | [], _ :: _, _, hl, _, _, _ => by simp at hl
  | _ :: _, [], _, hl, _, _, _ => by simp at hl
  | _ :: _, _ :: _, [], _, hm, _, _ => by simp at hm
/-! ### the dict -/
section
variable {γ : Type}
def dOf (f : γ → List Int) (l : List γ) : List (List Int × γ) := l.foldl (fun acc x => putP acc (f x) x) []
theorem put_keys {δ : Type} (acc : List (List Int × δ)) (k : List Int) (v : δ) : (putP acc k v).map (·.1) = if k ∈ acc.map (·.1) then acc.map (·.1) else acc.map (·.1) ++ [k] := by
  have key : (acc.any fun p => decide (p.1 = k)) = true ↔ k ∈ acc.map (·.1) := by
    rw [List.any_eq_true, List.mem_map]
    exact ⟨fun ⟨p, h1, h2⟩ => ⟨p, h1, of_decide_eq_true h2⟩, fun ⟨p, h1, h2⟩ => ⟨p, h1, decide_eq_true h2⟩⟩
  unfold putP
  by_cases h : k ∈ acc.map (·.1)
  · rw [if_pos h, if_pos (key.mpr h), List.map_map]
    apply List.map_congr_left
    intro p _
    show (if p.1 = k then (p.1, v) else p).1 = p.1
    split <;> rfl
  · rw [if_neg h, if_neg fun z => h (key.mp z), List.map_append]
    rfl
structure DOk (f : γ → List Int) (l : List γ) (d : List (List Int × γ)) : Prop where
  nd : (d.map (·.1)).Nodup
  ent : ∀ p ∈ d, p.1 = f p.2 ∧ p.2 ∈ l
  cov : ∀ x ∈ l, f x ∈ d.map (·.1)
theorem dOf_snoc (f : γ → List Int) (l : List γ) (x : γ) : dOf f (l ++ [x]) = putP (dOf f l) (f x) x := by
  unfold dOf
  rw [List.foldl_append]; rfl
theorem dok_put {f : γ → List Int} {l : List γ} {d : List (List Int × γ)} (h : DOk f l d) (x : γ) : DOk f (l ++ [x]) (putP d (f x) x) := by
  refine ⟨?_, fun p hp => ?_, fun y hy => ?_⟩
  · rw [put_keys]
    split
    · exact h.nd
    · rename_i z
      rw [List.nodup_append]
      refine ⟨h.nd, by simp, fun a ha b hb e => ?_⟩
      rw [List.mem_singleton.mp hb] at e
      exact z (e ▸ ha)
  · rcases put_mem hp with hp | rfl
    · obtain ⟨h1, h2⟩ := h.ent p hp
      exact ⟨h1, List.mem_append_left _ h2⟩
    · exact ⟨rfl, by simp⟩
  · rw [put_keys]
    rcases List.mem_append.mp hy with hy | hy
    · have := h.cov y hy
      split
      · exact this
      · exact List.mem_append_left _ this
    · rw [List.mem_singleton.mp hy]
      split
      · assumption
      · exact List.mem_append_right _ (by simp)
theorem dok (f : γ → List Int) (l : List γ) : DOk f l (dOf f l) := by
  have key : ∀ (m pre : List γ) (d : List (List Int × γ)), DOk f pre d → DOk f (pre ++ m) (m.foldl (fun acc x => putP acc (f x) x) d) := by
    intro m
    induction m with
    | nil => intro pre d h; rw [List.append_nil]; exact h
    | cons x m ih =>
      intro pre d h
      have := ih (pre ++ [x]) _ (dok_put h x)
      rw [List.append_assoc] at this
      exact this
  exact key l [] [] ⟨by simp, (fun _ h => by cases h), (fun _ h => by cases h)⟩
theorem get_of_mem {δ : Type} {d : List (List Int × δ)} {k : List Int} (h : k ∈ d.map (·.1)) : ∃ v, getP d k = some v := by
  obtain ⟨p, hp, rfl⟩ := List.mem_map.mp h
  unfold getP
  cases q : List.find? (fun r : List Int × δ => decide (r.1 = p.1)) d with
  | none =>
    have := List.find?_eq_none.mp q p hp
    simp at this
  | some r => exact ⟨r.2, rfl⟩
end
theorem dOf_len {γ : Type} (f : γ → List Int) (l : List γ) : (dOf f l).length ≤ l.length := by
  have key : ∀ (m : List γ) (d : List (List Int × γ)), (m.foldl (fun acc x => putP acc (f x) x) d).length ≤ d.length + m.length := by
    intro m
    induction m with
    | nil => intro d; simp
    | cons x m ih =>
      intro d
      have h1 := ih (putP d (f x) x)
      have h2 := put_len d (f x) x
      simp only [List.foldl_cons, List.length_cons]
      omega
  have h := key l []
  simp only [List.length_nil, Nat.zero_add] at h
  exact h
/-- what is ascending, each once -/
structure Asc {γ : Type} (val : γ → List Rat) (l y : List γ) : Prop where
  up : y.Pairwise fun a b => ahead (val a) (val b) = true
  sub : ∀ p ∈ y, p ∈ l
  cov : ∀ p ∈ l, ∃ q ∈ y, val q = val p
  len : y.length ≤ l.length
theorem asc_of {γ : Type} {val : γ → List Rat} {l : List γ} {W : Int} {w : Nat} (hW : 0 < W) (hl : ∀ p ∈ l, (val p).length = w ∧ divs W (val p)) {ks : List (List Int)}
    (hp : ks.Perm ((dOf (fun p => (val p).map (keyv W)) l).map (·.1))) (ho : ks.Pairwise fun a b => lexI b a = false) {y : List γ} (hy : ks.map (fun k => getP (dOf (fun p => (val p).map (keyv W)) l) k) = y.map some) : Asc val l y := by
  have D := dok (fun p => (val p).map (keyv W)) l
  have dl := dOf_len (fun p => (val p).map (keyv W)) l
  generalize dOf (fun p => (val p).map (keyv W)) l = d at hp hy D dl
  have hlen : ks.length = y.length := by have := congrArg List.length hy; simpa using this
  have hk : ∀ (i : Nat) (h1 : i < ks.length) (h2 : i < y.length), y[i] ∈ l ∧ ks[i] = (val y[i]).map (keyv W) := by
    intro i h1 h2
    have : (ks.map (fun k => getP d k))[i]? = (y.map some)[i]? := by rw [hy]
    rw [List.getElem?_map, List.getElem?_map, List.getElem?_eq_getElem h1, List.getElem?_eq_getElem h2] at this
    have g : getP d ks[i] = some y[i] := Option.some.inj this
    obtain ⟨e1, e2⟩ := D.ent _ (get_mem g)
    exact ⟨e2, e1⟩
  have nd : ks.Nodup := hp.nodup_iff.mpr D.nd
  refine ⟨?_, fun p hp => ?_, fun p hpl => ?_, ?_⟩
  · rw [List.pairwise_iff_getElem]
    intro i j hi hj hij
    have hi' : i < ks.length := by omega
    have hj' : j < ks.length := by omega
    obtain ⟨m1, k1⟩ := hk i hi' hi
    obtain ⟨m2, k2⟩ := hk j hj' hj
    have o := (List.pairwise_iff_getElem.mp ho) i j hi' hj' hij
    obtain ⟨l1, v1⟩ := hl _ m1
    obtain ⟨l2, v2⟩ := hl _ m2
    rw [k1, k2, lex_ahead hW (l2.trans l1.symm) v2 v1] at o
    cases q : ahead (val y[i]) (val y[j]) with
    | true => rfl
    | false =>
      have e := ahead_total (l1.trans l2.symm) q o
      have ne : ks[i] ≠ ks[j] := (List.pairwise_iff_getElem.mp nd) i j hi' hj' hij
      rw [k1, k2, e] at ne
      exact absurd rfl ne
  · obtain ⟨i, hi, rfl⟩ := List.getElem_of_mem hp
    exact (hk i (by omega) hi).1
  · have := D.cov p hpl
    rw [← hp.mem_iff] at this
    obtain ⟨i, hi, e⟩ := List.getElem_of_mem this
    have hi' : i < y.length := by omega
    obtain ⟨m1, k1⟩ := hk i hi hi'
    refine ⟨y[i], List.getElem_mem hi', ?_⟩
    rw [k1] at e
    exact keys_inj hW (hl _ m1).2 (hl _ hpl).2 e
  · have := hp.length_eq
    rw [List.length_map] at this
    omega
end K05
end

-- part K05H
section
set_option Elab.async false
set_option linter.all false
set_option maxRecDepth 100000
set_option maxHeartbeats 400000
namespace K05
open PySem PySem.Spec PyProof.Rows L2 L2.Lc
theorem bigB_lt : bigB < 2 ^ 80 := by decide
theorem dvd_lt {w : Nat} (h : w ∣ bigB) : w < 2 ^ 80 := Nat.lt_of_le_of_lt (Nat.le_of_dvd (by decide) h) bigB_lt
section
variable {P : Program} {w : World} {K : PySem.W.Frag} {mg : Str → Option Value} {base : Heap} {C : Addr}
abbrev rRi (C : Addr) : Rl (V × Rat) := rId (rRat C)
abbrev rPt (K : PySem.W.Frag) (C : Addr) : Rl Pt := rId (rTup K (rRi C))
abbrev preAsc : List Pt → Prop := fun l => ∃ wd, 1 ≤ wd ∧ wd ≤ 8 ∧ l.length ≤ 100 ∧ ∀ p ∈ l, (vl p).length = wd ∧ ∀ q ∈ vl p, okB q
abbrev spAscL (K : PySem.W.Frag) (C : Addr) : Sp := spP (fun l => [Ent.mk (rLst K (rPt K C)) l]) preAsc (rTup K (rPt K C)) (Asc vl)
abbrev spAscT (K : PySem.W.Frag) (C : Addr) : Sp := spP (fun l => [Ent.mk (rTup K (rPt K C)) l]) preAsc (rTup K (rPt K C)) (Asc vl)
abbrev spAsc (K : PySem.W.Frag) (C : Addr) : Sp := spP (fun l => [Ent.mk (rSq K (rPt K C)) l]) preAsc (rTup K (rPt K C)) (Asc vl)
theorem ok_ascL (T : Tx K mg C) (f : Addr) (fd : FuncData) (F : FunD K "ascending_points" "ascending_points" (defArgs s_ascending_points) (defBody s_ascending_points) (defScope s_ascending_points) [] [] f fd) : FnOk P w K mg base CX0 1 f fd ["points"] (spAscL K C) :=
  fnP F sc_ascending_points (fun _ => rfl) fun cdv A outer s H E hr => ⟨_, (pss_cons (ps_set (i := 1) sc_ascending_points.nd rfl (by first | exact Or.inl rfl | exact Or.inr rfl) pe_int)
  (pss_cons (ps_for PassesOwn.never rfl (ki_list (K := K) rfl (pv 0)) (pg_name (i := 2) sc_ascending_points.nd rfl (by first | exact Or.inl rfl | exact Or.inr rfl)) (pss_one (ps_for PassesOwn.never rfl (ki_tup (K := K) rfl (pv 2)) (pg_name (i := 3) sc_ascending_points.nd rfl (by first | exact Or.inl rfl | exact Or.inr rfl)) (pss_one (ps_set (i := 1) sc_ascending_points.nd rfl (by first | exact Or.inl rfl | exact Or.inr rfl) (pe_callBfun cr_lcm (by rfl) T.g_lcm (pa_cons (pv 1) (pa_cons (kfld (K := K) rfl (pv 3) rfl) pa_nil))))))))
  (pss_cons (ps_set (i := 4) sc_ascending_points.nd rfl (by first | exact Or.inl rfl | exact Or.inr rfl) (pe_dcT (own := [("point", 2)]) rfl (hu_of hr) sc_ascending_points.nd (ki_list (K := K) rfl (pv 0)) (blkOk_by (N := ["points", "whole", "point", "ratio", "known", "key"]) (sc := defScope s_ascending_points) (by decide +kernel)) (fun _ _ _ _ _ => (pg_name (i := 2) sc_ascending_points.nd rfl (by first | exact Or.inl rfl | exact Or.inr rfl))) (fun _ _ _ _ _ => pts_nil) (fun _ _ _ _ _ => (pe_callTy (r := rTupOf K) call_tuple_of (by rfl) T.f_tuple boot_tuple (pa_cons (pe_lc (own := [("ratio", 3)]) rfl sc_ascending_points.nd (ki_tup (K := K) rfl (pv 2)) (blkOk_by (N := ["points", "whole", "point", "ratio", "known", "key"]) (sc := relS _ (defScope s_ascending_points)) (by decide +kernel)) (fun _ _ _ _ _ => (pg_name (i := 3) sc_ascending_points.nd rfl (by first | exact Or.inl rfl | exact Or.inr rfl))) (fun _ _ _ _ _ => pts_nil) (fun _ _ _ _ _ => (pe_op op_mulW (kfld (K := K) rfl (pv 3) rfl) (pe_op op_fdivW (pv 1) (kfld (K := K) rfl (pv 3) rfl))))) pa_nil))) (fun _ _ _ _ _ => (pv 2))))
  (pss_one (ps_ret (pe_callTy (r := rTupOf K) call_tuple_of (by rfl) T.f_tuple boot_tuple (pa_cons (pe_lc (own := [("key", 5)]) rfl sc_ascending_points.nd (ki_list (K := K) rfl (pe_callB (r := rSortZ K) cr_sortZ (by rfl) T.f_sorted boot_sorted (pa_cons (pe_callTy (r := rListDT) (call_list_dT rfl) (by rfl) T.f_list boot_list (pa_cons (pv 4) pa_nil)) pa_nil))) (blkOk_by (N := ["points", "whole", "point", "ratio", "known", "key"]) (sc := defScope s_ascending_points) (by decide +kernel)) (fun _ _ _ _ _ => (pg_name (i := 5) sc_ascending_points.nd rfl (by first | exact Or.inl rfl | exact Or.inr rfl))) (fun _ _ _ _ _ => pts_nil) (fun _ _ _ _ _ => (pe_dget (hu_of hr) (pv 4) (pv 5) (fun _ _ => rfl)))) pa_nil))))))),
    fun l hp => by
      obtain ⟨wd, hw1, hw8, hl, hq⟩ := hp
      refine s_seq <| s_set <| w_int ?_
      refine s_mid (fun Γ _ => ∃ (W : Nat) (o2 o3 : Option Ent), Γ = [some (.mk (rLst K (rPt K C)) l), some (.mk rInt (W : Int)), o2, o3, none, none] ∧ W ∣ bigB ∧ ∀ p ∈ l, ∀ q ∈ vl p, q.den ∣ W) ?_ ?_
      · refine s_for (is := [2]) <| i_list <| w_var rfl ⟨fun pre Γ _ => ∃ (W : Nat) (o2 o3 : Option Ent), Γ = [some (.mk (rLst K (rPt K C)) l), some (.mk rInt (W : Int)), o2, o3, none, none] ∧ W ∣ bigB ∧ ∀ p ∈ pre, ∀ q ∈ vl p, q.den ∣ W, ⟨1, none, none, rfl, Nat.one_dvd _, fun _ h => by cases h⟩, ?_, ?_⟩
        · rintro pre x post Γ' n' hlx ⟨W, o2, o3, rfl, hW, hd⟩
          refine tg_name <| s_for (is := [3]) <| i_tup <| w_of <| w_var rfl ⟨fun pre2 Γ _ => ∃ (W : Nat) (o3 : Option Ent), Γ = [some (.mk (rLst K (rPt K C)) l), some (.mk rInt (W : Int)), some (.mk (rPt K C) x), o3, none, none] ∧ W ∣ bigB ∧ (∀ p ∈ pre, ∀ q ∈ vl p, q.den ∣ W) ∧ ∀ r ∈ pre2, r.2.den ∣ W, ⟨W, _, rfl, hW, hd, fun _ h => by cases h⟩, ?_, ?_⟩
          · rintro pre2 r post2 Γ2 n2 hlr ⟨W2, o4, rfl, hW2, hd2, hr2⟩
            have hr0 : r.2.den ∣ bigB := (hq x (by rw [hlx]; simp)).2 r.2 (List.mem_map_of_mem (by rw [hlr]; simp)) |>.1
            have s1 : ((W2 : Nat) : Int).natAbs < 2 ^ 9000 := by
              rw [Int.natAbs_natCast]; exact Nat.lt_trans (dvd_lt hW2) (Nat.pow_lt_pow_right (by decide) (by decide))
            have s2 : ((r.2.den : Nat) : Int).natAbs < 2 ^ 9000 := by
              rw [Int.natAbs_natCast]; exact Nat.lt_trans (dvd_lt hr0) (Nat.pow_lt_pow_right (by decide) (by decide))
            refine tg_name <| s_set <| w_cb <| a_cons <| w_var rfl <| a_cons <| w_fld T.cls T.no_bottom <| w_of <| w_var rfl ⟨_, rfl, a_nil ⟨_, c_lcm s1 s2, Nat.lcm W2 r.2.den, some (.mk (rRi C) r), ?_, Nat.lcm_dvd hW2 hr0, fun p hp q hqq => Nat.dvd_trans (hd2 p hp q hqq) (Nat.dvd_lcm_left ..), fun z hz => ?_⟩⟩
            · rw [Int.natAbs_natCast, Int.natAbs_natCast]; rfl
            · rcases List.mem_append.mp hz with hz | hz
              · exact Nat.dvd_trans (hr2 z hz) (Nat.dvd_lcm_left ..)
              · rw [List.mem_singleton.mp hz]; exact Nat.dvd_lcm_right ..
          · rintro Γ2 n2 ⟨W2, o4, rfl, hW2, hd2, hr2⟩
            refine ⟨W2, _, _, rfl, hW2, fun p hp q hqq => ?_⟩
            rcases List.mem_append.mp hp with hp | hp
            · exact hd2 p hp q hqq
            · rw [List.mem_singleton.mp hp] at hqq
              obtain ⟨z, hz, rfl⟩ := List.mem_map.mp hqq
              exact hr2 z hz
        · rintro Γ' n' ⟨W, o2, o3, rfl, hW, hd⟩
          exact ⟨W, _, _, rfl, hW, hd⟩
      rintro Γ1 n1 ⟨W, o2, o3, rfl, hW, hd⟩
      have W0 : 0 < W := Nat.pos_of_dvd_of_pos hW (by decide)
      have hdiv : ∀ p ∈ l, (vl p).length = wd ∧ divs (W : Int) (vl p) := fun p hp => ⟨(hq p hp).1, fun q hqq => Int.natCast_dvd_natCast.mpr (hd p hp q hqq)⟩
      refine s_seq <| s_set <| w_dcT (is := [2]) (S := rPt K C) (fun p => (vl p).map (keyv (W : Int))) (fun p => p) <| i_list <| w_var rfl ⟨by show _ ≤ bigN; unfold bigN; omega, fun x hx => ?_, ?_⟩
      · refine tg_name <| w_cb <| a_cons <| w_lc_map (is := [3]) (S := rInt) (fun r : V × Rat => keyv (W : Int) r.2) <| i_tup <| w_of <| w_var rfl ⟨?_, fun r hr => ?_, a_nil ⟨_, c_tupK, ?_, rfl, w_var rfl ⟨rfl, rfl⟩⟩⟩
        · have := (hq x hx).1
          unfold vl at this
          rw [List.length_map] at this
          show _ ≤ bigN
          unfold bigN
          omega
        · have hok := (hq x hx).2 r.2 (List.mem_map_of_mem hr)
          have a1 := hok.2.num (by decide)
          have a2 := hok.2.den (by decide)
          have b2 : (((W : Nat) : Int) / (r.2.den : Int)).natAbs.log2 < 80 := by
            refine PySem.Flt.log2_lt_of (by decide) (Nat.lt_of_le_of_lt (Int.natAbs_ediv_le_natAbs _ _) ?_)
            rw [Int.natAbs_natCast]
            exact dvd_lt hW
          refine tg_name <| w_op o_intC <| w_fld T.cls T.no_top <| w_of <| w_var rfl ⟨_, rfl, w_op o_intC <| w_var rfl <| w_fld T.cls T.no_bottom <| w_of <| w_var rfl ⟨_, rfl, ⟨den_pos _, Nat.lt_trans a2 (by decide)⟩, ?_, rfl, rfl⟩⟩
          show CMulW _ _
          unfold CMulW
          omega
        · unfold vl
          rw [List.map_map]
          rfl
      have hd2 : ∀ p ∈ dOf (fun p : Pt => (vl p).map (keyv (W : Int))) l, p.1 ≠ [] ∧ p.1.length ≤ bigN := fun p hp => by
        obtain ⟨e1, e2⟩ := (dok (fun p : Pt => (vl p).map (keyv (W : Int))) l).ent p hp
        have := (hq _ e2).1
        have hlen : p.1.length = wd := by rw [e1, List.length_map]; exact this
        refine ⟨fun z => by rw [z] at hlen; simp at hlen; omega, ?_⟩
        show _ ≤ bigN
        unfold bigN
        omega
      refine s_ret <| w_cb <| a_cons <| w_lc_map (is := [5]) (S := rPt K C) (fun k => (getP (dOf (fun p : Pt => (vl p).map (keyv (W : Int))) l) k).getD (.non, [])) <| i_list <| w_cbP <| a_cons <| w_cb <| a_cons <| w_var rfl <| a_nil ⟨_, c_listDT (fun p hp => (hd2 p hp).2), a_nil ⟨_, c_sortZ (fun k hk => ?_), fun ks hks => ⟨?_, fun k hk => ?_, a_nil ⟨_, c_tupL, ?_⟩⟩⟩⟩
      · obtain ⟨p, hp, rfl⟩ := List.mem_map.mp hk
        exact (hd2 p hp).1
      · replace hks : ks.Perm ((dOf (fun p : Pt => (vl p).map (keyv (W : Int))) l).map (·.1)) ∧ ks.Pairwise (fun a b => lexI b a = false) := hks
        have hk1 := hks.1.length_eq
        rw [List.length_map] at hk1
        have : ∀ m : List Pt, (dOf (fun p : Pt => (vl p).map (keyv (W : Int))) m).length ≤ m.length := dOf_len _
        have := this l
        show _ ≤ bigN
        unfold bigN
        omega
      · replace hks : ks.Perm ((dOf (fun p : Pt => (vl p).map (keyv (W : Int))) l).map (·.1)) ∧ ks.Pairwise (fun a b => lexI b a = false) := hks
        obtain ⟨v, hv⟩ := get_of_mem (hks.1.mem_iff.mp hk)
        exact tg_name <| w_getT <| w_var rfl <| w_var rfl ⟨v, hv, by rw [hv]; rfl, rfl⟩
      · replace hks : ks.Perm ((dOf (fun p : Pt => (vl p).map (keyv (W : Int))) l).map (·.1)) ∧ ks.Pairwise (fun a b => lexI b a = false) := hks
        refine asc_of (W := (W : Int)) (by omega) hdiv hks.1 hks.2 ?_
        rw [List.map_map]
        apply List.map_congr_left
        intro k hk
        obtain ⟨v, hv⟩ := get_of_mem (hks.1.mem_iff.mp hk)
        show getP _ k = some ((getP _ k).getD _)
        rw [hv]; rfl⟩
theorem ok_ascT (T : Tx K mg C) (f : Addr) (fd : FuncData) (F : FunD K "ascending_points" "ascending_points" (defArgs s_ascending_points) (defBody s_ascending_points) (defScope s_ascending_points) [] [] f fd) : FnOk P w K mg base CX0 1 f fd ["points"] (spAscT K C) :=
  fnP F sc_ascending_points (fun _ => rfl) fun cdv A outer s H E hr => ⟨_, (pss_cons (ps_set (i := 1) sc_ascending_points.nd rfl (by first | exact Or.inl rfl | exact Or.inr rfl) pe_int)
  (pss_cons (ps_for PassesOwn.never rfl (ki_tup (K := K) rfl (pv 0)) (pg_name (i := 2) sc_ascending_points.nd rfl (by first | exact Or.inl rfl | exact Or.inr rfl)) (pss_one (ps_for PassesOwn.never rfl (ki_tup (K := K) rfl (pv 2)) (pg_name (i := 3) sc_ascending_points.nd rfl (by first | exact Or.inl rfl | exact Or.inr rfl)) (pss_one (ps_set (i := 1) sc_ascending_points.nd rfl (by first | exact Or.inl rfl | exact Or.inr rfl) (pe_callBfun cr_lcm (by rfl) T.g_lcm (pa_cons (pv 1) (pa_cons (kfld (K := K) rfl (pv 3) rfl) pa_nil))))))))
  (pss_cons (ps_set (i := 4) sc_ascending_points.nd rfl (by first | exact Or.inl rfl | exact Or.inr rfl) (pe_dcT (own := [("point", 2)]) rfl (hu_of hr) sc_ascending_points.nd (ki_tup (K := K) rfl (pv 0)) (blkOk_by (N := ["points", "whole", "point", "ratio", "known", "key"]) (sc := defScope s_ascending_points) (by decide +kernel)) (fun _ _ _ _ _ => (pg_name (i := 2) sc_ascending_points.nd rfl (by first | exact Or.inl rfl | exact Or.inr rfl))) (fun _ _ _ _ _ => pts_nil) (fun _ _ _ _ _ => (pe_callTy (r := rTupOf K) call_tuple_of (by rfl) T.f_tuple boot_tuple (pa_cons (pe_lc (own := [("ratio", 3)]) rfl sc_ascending_points.nd (ki_tup (K := K) rfl (pv 2)) (blkOk_by (N := ["points", "whole", "point", "ratio", "known", "key"]) (sc := relS _ (defScope s_ascending_points)) (by decide +kernel)) (fun _ _ _ _ _ => (pg_name (i := 3) sc_ascending_points.nd rfl (by first | exact Or.inl rfl | exact Or.inr rfl))) (fun _ _ _ _ _ => pts_nil) (fun _ _ _ _ _ => (pe_op op_mulW (kfld (K := K) rfl (pv 3) rfl) (pe_op op_fdivW (pv 1) (kfld (K := K) rfl (pv 3) rfl))))) pa_nil))) (fun _ _ _ _ _ => (pv 2))))
  (pss_one (ps_ret (pe_callTy (r := rTupOf K) call_tuple_of (by rfl) T.f_tuple boot_tuple (pa_cons (pe_lc (own := [("key", 5)]) rfl sc_ascending_points.nd (ki_list (K := K) rfl (pe_callB (r := rSortZ K) cr_sortZ (by rfl) T.f_sorted boot_sorted (pa_cons (pe_callTy (r := rListDT) (call_list_dT rfl) (by rfl) T.f_list boot_list (pa_cons (pv 4) pa_nil)) pa_nil))) (blkOk_by (N := ["points", "whole", "point", "ratio", "known", "key"]) (sc := defScope s_ascending_points) (by decide +kernel)) (fun _ _ _ _ _ => (pg_name (i := 5) sc_ascending_points.nd rfl (by first | exact Or.inl rfl | exact Or.inr rfl))) (fun _ _ _ _ _ => pts_nil) (fun _ _ _ _ _ => (pe_dget (hu_of hr) (pv 4) (pv 5) (fun _ _ => rfl)))) pa_nil))))))),
    fun l hp => by
      obtain ⟨wd, hw1, hw8, hl, hq⟩ := hp
      refine s_seq <| s_set <| w_int ?_
      refine s_mid (fun Γ _ => ∃ (W : Nat) (o2 o3 : Option Ent), Γ = [some (.mk (rTup K (rPt K C)) l), some (.mk rInt (W : Int)), o2, o3, none, none] ∧ W ∣ bigB ∧ ∀ p ∈ l, ∀ q ∈ vl p, q.den ∣ W) ?_ ?_
      · refine s_for (is := [2]) <| i_tup <| w_var rfl ⟨fun pre Γ _ => ∃ (W : Nat) (o2 o3 : Option Ent), Γ = [some (.mk (rTup K (rPt K C)) l), some (.mk rInt (W : Int)), o2, o3, none, none] ∧ W ∣ bigB ∧ ∀ p ∈ pre, ∀ q ∈ vl p, q.den ∣ W, ⟨1, none, none, rfl, Nat.one_dvd _, fun _ h => by cases h⟩, ?_, ?_⟩
        · rintro pre x post Γ' n' hlx ⟨W, o2, o3, rfl, hW, hd⟩
          refine tg_name <| s_for (is := [3]) <| i_tup <| w_of <| w_var rfl ⟨fun pre2 Γ _ => ∃ (W : Nat) (o3 : Option Ent), Γ = [some (.mk (rTup K (rPt K C)) l), some (.mk rInt (W : Int)), some (.mk (rPt K C) x), o3, none, none] ∧ W ∣ bigB ∧ (∀ p ∈ pre, ∀ q ∈ vl p, q.den ∣ W) ∧ ∀ r ∈ pre2, r.2.den ∣ W, ⟨W, _, rfl, hW, hd, fun _ h => by cases h⟩, ?_, ?_⟩
          · rintro pre2 r post2 Γ2 n2 hlr ⟨W2, o4, rfl, hW2, hd2, hr2⟩
            have hr0 : r.2.den ∣ bigB := (hq x (by rw [hlx]; simp)).2 r.2 (List.mem_map_of_mem (by rw [hlr]; simp)) |>.1
            have s1 : ((W2 : Nat) : Int).natAbs < 2 ^ 9000 := by
              rw [Int.natAbs_natCast]; exact Nat.lt_trans (dvd_lt hW2) (Nat.pow_lt_pow_right (by decide) (by decide))
            have s2 : ((r.2.den : Nat) : Int).natAbs < 2 ^ 9000 := by
              rw [Int.natAbs_natCast]; exact Nat.lt_trans (dvd_lt hr0) (Nat.pow_lt_pow_right (by decide) (by decide))
            refine tg_name <| s_set <| w_cb <| a_cons <| w_var rfl <| a_cons <| w_fld T.cls T.no_bottom <| w_of <| w_var rfl ⟨_, rfl, a_nil ⟨_, c_lcm s1 s2, Nat.lcm W2 r.2.den, some (.mk (rRi C) r), ?_, Nat.lcm_dvd hW2 hr0, fun p hp q hqq => Nat.dvd_trans (hd2 p hp q hqq) (Nat.dvd_lcm_left ..), fun z hz => ?_⟩⟩
            · rw [Int.natAbs_natCast, Int.natAbs_natCast]; rfl
            · rcases List.mem_append.mp hz with hz | hz
              · exact Nat.dvd_trans (hr2 z hz) (Nat.dvd_lcm_left ..)
              · rw [List.mem_singleton.mp hz]; exact Nat.dvd_lcm_right ..
          · rintro Γ2 n2 ⟨W2, o4, rfl, hW2, hd2, hr2⟩
            refine ⟨W2, _, _, rfl, hW2, fun p hp q hqq => ?_⟩
            rcases List.mem_append.mp hp with hp | hp
            · exact hd2 p hp q hqq
            · rw [List.mem_singleton.mp hp] at hqq
              obtain ⟨z, hz, rfl⟩ := List.mem_map.mp hqq
              exact hr2 z hz
        · rintro Γ' n' ⟨W, o2, o3, rfl, hW, hd⟩
          exact ⟨W, _, _, rfl, hW, hd⟩
      rintro Γ1 n1 ⟨W, o2, o3, rfl, hW, hd⟩
      have W0 : 0 < W := Nat.pos_of_dvd_of_pos hW (by decide)
      have hdiv : ∀ p ∈ l, (vl p).length = wd ∧ divs (W : Int) (vl p) := fun p hp => ⟨(hq p hp).1, fun q hqq => Int.natCast_dvd_natCast.mpr (hd p hp q hqq)⟩
      refine s_seq <| s_set <| w_dcT (is := [2]) (S := rPt K C) (fun p => (vl p).map (keyv (W : Int))) (fun p => p) <| i_tup <| w_var rfl ⟨by show _ ≤ bigN; unfold bigN; omega, fun x hx => ?_, ?_⟩
      · refine tg_name <| w_cb <| a_cons <| w_lc_map (is := [3]) (S := rInt) (fun r : V × Rat => keyv (W : Int) r.2) <| i_tup <| w_of <| w_var rfl ⟨?_, fun r hr => ?_, a_nil ⟨_, c_tupK, ?_, rfl, w_var rfl ⟨rfl, rfl⟩⟩⟩
        · have := (hq x hx).1
          unfold vl at this
          rw [List.length_map] at this
          show _ ≤ bigN
          unfold bigN
          omega
        · have hok := (hq x hx).2 r.2 (List.mem_map_of_mem hr)
          have a1 := hok.2.num (by decide)
          have a2 := hok.2.den (by decide)
          have b2 : (((W : Nat) : Int) / (r.2.den : Int)).natAbs.log2 < 80 := by
            refine PySem.Flt.log2_lt_of (by decide) (Nat.lt_of_le_of_lt (Int.natAbs_ediv_le_natAbs _ _) ?_)
            rw [Int.natAbs_natCast]
            exact dvd_lt hW
          refine tg_name <| w_op o_intC <| w_fld T.cls T.no_top <| w_of <| w_var rfl ⟨_, rfl, w_op o_intC <| w_var rfl <| w_fld T.cls T.no_bottom <| w_of <| w_var rfl ⟨_, rfl, ⟨den_pos _, Nat.lt_trans a2 (by decide)⟩, ?_, rfl, rfl⟩⟩
          show CMulW _ _
          unfold CMulW
          omega
        · unfold vl
          rw [List.map_map]
          rfl
      have hd2 : ∀ p ∈ dOf (fun p : Pt => (vl p).map (keyv (W : Int))) l, p.1 ≠ [] ∧ p.1.length ≤ bigN := fun p hp => by
        obtain ⟨e1, e2⟩ := (dok (fun p : Pt => (vl p).map (keyv (W : Int))) l).ent p hp
        have := (hq _ e2).1
        have hlen : p.1.length = wd := by rw [e1, List.length_map]; exact this
        refine ⟨fun z => by rw [z] at hlen; simp at hlen; omega, ?_⟩
        show _ ≤ bigN
        unfold bigN
        omega
      refine s_ret <| w_cb <| a_cons <| w_lc_map (is := [5]) (S := rPt K C) (fun k => (getP (dOf (fun p : Pt => (vl p).map (keyv (W : Int))) l) k).getD (.non, [])) <| i_list <| w_cbP <| a_cons <| w_cb <| a_cons <| w_var rfl <| a_nil ⟨_, c_listDT (fun p hp => (hd2 p hp).2), a_nil ⟨_, c_sortZ (fun k hk => ?_), fun ks hks => ⟨?_, fun k hk => ?_, a_nil ⟨_, c_tupL, ?_⟩⟩⟩⟩
      · obtain ⟨p, hp, rfl⟩ := List.mem_map.mp hk
        exact (hd2 p hp).1
      · replace hks : ks.Perm ((dOf (fun p : Pt => (vl p).map (keyv (W : Int))) l).map (·.1)) ∧ ks.Pairwise (fun a b => lexI b a = false) := hks
        have hk1 := hks.1.length_eq
        rw [List.length_map] at hk1
        have : ∀ m : List Pt, (dOf (fun p : Pt => (vl p).map (keyv (W : Int))) m).length ≤ m.length := dOf_len _
        have := this l
        show _ ≤ bigN
        unfold bigN
        omega
      · replace hks : ks.Perm ((dOf (fun p : Pt => (vl p).map (keyv (W : Int))) l).map (·.1)) ∧ ks.Pairwise (fun a b => lexI b a = false) := hks
        obtain ⟨v, hv⟩ := get_of_mem (hks.1.mem_iff.mp hk)
        exact tg_name <| w_getT <| w_var rfl <| w_var rfl ⟨v, hv, by rw [hv]; rfl, rfl⟩
      · replace hks : ks.Perm ((dOf (fun p : Pt => (vl p).map (keyv (W : Int))) l).map (·.1)) ∧ ks.Pairwise (fun a b => lexI b a = false) := hks
        refine asc_of (W := (W : Int)) (by omega) hdiv hks.1 hks.2 ?_
        rw [List.map_map]
        apply List.map_congr_left
        intro k hk
        obtain ⟨v, hv⟩ := get_of_mem (hks.1.mem_iff.mp hk)
        show getP _ k = some ((getP _ k).getD _)
        rw [hv]; rfl⟩
theorem ok_asc (T : Tx K mg C) (f : Addr) (fd : FuncData) (F : FunD K "ascending_points" "ascending_points" (defArgs s_ascending_points) (defBody s_ascending_points) (defScope s_ascending_points) [] [] f fd) : FnOk P w K mg base CX0 1 f fd ["points"] (spAsc K C) := fnSq (ok_ascL T f fd F) (ok_ascT T f fd F)
theorem c_ascending_points (T : Tx K mg C) : Cal P w K mg base "ascending_points" 1 ["points"] (spAsc K C) := T.d_ascending_points.cal (fun _ _ _ _ _ _ us hl => match us, hl with | [_], _ => rfl) (ok_asc T)
theorem k_ascending_points (T : Tx K mg C) : CalK P w K mg base "ascending_points" 1 ["points"] ["points"] (fun zs => zs) (spAsc K C) := T.d_ascending_points.calK (fun ws => ws) (fun r => r) (fun _ _ _ _ _ _ ws hl => match ws, hl with | [_], _ => rfl) (ok_asc T)
end
end K05
end

-- part K05I
section
set_option Elab.async false
set_option linter.all false
set_option maxRecDepth 100000
set_option maxHeartbeats 400000
namespace K05
open PySem PySem.Spec PyProof.Rows L2 L2.Lc
section
variable {P : Program} {w : World} {K : PySem.W.Frag} {mg : Str → Option Value} {base : Heap} {C : Addr}
abbrev one1 : V × Rat → List Rat := fun p => [p.2]
abbrev preAr : List (V × Rat) → Prop := fun l => l.length ≤ 100 ∧ ∀ p ∈ l, okB p.2
abbrev spArL (K : PySem.W.Frag) (C : Addr) : Sp := spP (fun l => [Ent.mk (rLst K (rRi C)) l]) preAr (rTup K (rRi C)) (Asc one1)
abbrev spArT (K : PySem.W.Frag) (C : Addr) : Sp := spP (fun l => [Ent.mk (rTup K (rRi C)) l]) preAr (rTup K (rRi C)) (Asc one1)
abbrev spAr (K : PySem.W.Frag) (C : Addr) : Sp := spP (fun l => [Ent.mk (rSq K (rRi C)) l]) preAr (rTup K (rRi C)) (Asc one1)
theorem ok_arL (T : Tx K mg C) (f : Addr) (fd : FuncData) (F : FunD K "ascending_ratios" "ascending_ratios" (defArgs s_ascending_ratios) (defBody s_ascending_ratios) (defScope s_ascending_ratios) [] [] f fd) : FnOk P w K mg base CX0 2 f fd ["values"] (spArL K C) :=
  fnP F sc_ascending_ratios (fun _ => rfl) fun cdv A outer s H E hr => ⟨_, (pss_one (ps_ret (pe_callTy (r := rTupOf K) call_tuple_of (by rfl) T.f_tuple boot_tuple (pa_cons (pe_lc (own := [("point", 1)]) rfl sc_ascending_ratios.nd (ki_tup (K := K) rfl (pe_cal (c_ascending_points T) (hr.mono (by decide)) rfl (pa_cons (pe_lc (own := [("value", 2)]) rfl sc_ascending_ratios.nd (ki_list (K := K) rfl (pv 0)) (blkOk_by (N := ["values", "point", "value"]) (sc := defScope s_ascending_ratios) (by decide +kernel)) (fun _ _ _ _ _ => (pg_name (i := 2) sc_ascending_ratios.nd rfl (by first | exact Or.inl rfl | exact Or.inr rfl))) (fun _ _ _ _ _ => pts_nil) (fun _ _ _ _ _ => (pe_tup (pa_cons (pv 2) pa_nil)))) pa_nil))) (blkOk_by (N := ["values", "point", "value"]) (sc := defScope s_ascending_ratios) (by decide +kernel)) (fun _ _ _ _ _ => (pg_name (i := 1) sc_ascending_ratios.nd rfl (by first | exact Or.inl rfl | exact Or.inr rfl))) (fun _ _ _ _ _ => pts_nil) (fun _ _ _ _ _ => (pe_ix (ix_tupK (K := K) rfl) (pv 1) pe_int (fun _ _ => rfl)))) pa_nil)))),
    fun l hp => by
      obtain ⟨hl, hq⟩ := hp
      refine s_ret <| w_cb <| a_cons <| w_lc_map (K := K) (is := [1]) (S := rRi C) (fun p : Pt => p.2.headD (.non, 0)) <| i_tup <| w_callP <| a_cons <| w_sqL (K := K) <| w_lc (K := K) (is := [2]) (S := rPt K C) <| i_list <| w_var rfl ⟨by show _ ≤ bigN; unfold bigN; omega, fun pre (ys : List Pt) _ => ys.map (·.2) = pre.map (fun v => [v]), rfl, ?_, ?_⟩
      · rintro pre x post ys n' hlx hy
        refine tg_name <| t_yes ⟨fun _ => ?_, fun z => by cases z⟩
        refine w_id <| w_tup (K := K) (R := rRi C) <| a_cons <| w_var rfl <| a_nil ⟨[x], rfl, (show 1 ≤ bigN by decide), fun u => ?_⟩
        show (ys ++ [(u, [x])]).map (·.2) = (pre ++ [x]).map (fun v => [v])
        rw [List.map_append, List.map_append, hy]
        rfl
      · intro pts n' hlen hy
        have hpt : ∀ p ∈ pts, ∃ v ∈ l, p.2 = [v] := fun p hp => by
          have : p.2 ∈ l.map (fun v => [v]) := by rw [← hy]; exact List.mem_map_of_mem hp
          obtain ⟨v, hv, e⟩ := List.mem_map.mp this
          exact ⟨v, hv, e.symm⟩
        have hcov : ∀ v ∈ l, ∃ p ∈ pts, p.2 = [v] := fun v hv => by
          have : [v] ∈ pts.map (·.2) := by rw [hy]; exact List.mem_map_of_mem hv
          obtain ⟨p, hp, e⟩ := List.mem_map.mp this
          exact ⟨p, hp, e⟩
        refine a_nil ⟨pts, rfl, ⟨1, by decide, by decide, by omega, fun p hp => ?_⟩, fun ys hys => ⟨?_, fun x hx => ?_, a_nil ⟨_, c_tupL, ?_⟩⟩⟩
        · obtain ⟨v, hv, e⟩ := hpt p hp
          unfold vl
          rw [e]
          refine ⟨rfl, fun q hqq => ?_⟩
          rw [List.mem_singleton.mp hqq]
          exact hq v hv
        · have := hys.len
          show _ ≤ bigN
          unfold bigN
          omega
        · obtain ⟨v, hv, e⟩ := hpt x (hys.sub x hx)
          refine tg_name <| w_opP o_ixT <| w_of <| w_var rfl <| w_int ⟨v, ?_, ?_, rfl⟩
          · rw [e]; rfl
          · rw [e]; rfl
        · have hval : ∀ p ∈ ys, one1 (p.2.headD (.non, 0)) = vl p ∧ p.2.headD (.non, 0) ∈ l := fun p hp => by
            obtain ⟨v, hv, e⟩ := hpt p (hys.sub p hp)
            unfold vl
            rw [e]
            exact ⟨rfl, hv⟩
          refine ⟨?_, fun z hz => ?_, fun v hv => ?_, ?_⟩
          · rw [List.pairwise_map]
            refine List.Pairwise.imp_of_mem (fun {a b} ha hb hab => ?_) hys.up
            rw [(hval a ha).1, (hval b hb).1]
            exact hab
          · obtain ⟨p, hp, rfl⟩ := List.mem_map.mp hz
            exact (hval p hp).2
          · obtain ⟨p, hp, e⟩ := hcov v hv
            obtain ⟨q, hqy, e2⟩ := hys.cov p hp
            refine ⟨_, List.mem_map_of_mem hqy, ?_⟩
            rw [(hval q hqy).1, e2]
            unfold vl
            rw [e]
            rfl
          · rw [List.length_map]
            have := hys.len
            omega⟩
theorem ok_arT (T : Tx K mg C) (f : Addr) (fd : FuncData) (F : FunD K "ascending_ratios" "ascending_ratios" (defArgs s_ascending_ratios) (defBody s_ascending_ratios) (defScope s_ascending_ratios) [] [] f fd) : FnOk P w K mg base CX0 2 f fd ["values"] (spArT K C) :=
  fnP F sc_ascending_ratios (fun _ => rfl) fun cdv A outer s H E hr => ⟨_, (pss_one (ps_ret (pe_callTy (r := rTupOf K) call_tuple_of (by rfl) T.f_tuple boot_tuple (pa_cons (pe_lc (own := [("point", 1)]) rfl sc_ascending_ratios.nd (ki_tup (K := K) rfl (pe_cal (c_ascending_points T) (hr.mono (by decide)) rfl (pa_cons (pe_lc (own := [("value", 2)]) rfl sc_ascending_ratios.nd (ki_tup (K := K) rfl (pv 0)) (blkOk_by (N := ["values", "point", "value"]) (sc := defScope s_ascending_ratios) (by decide +kernel)) (fun _ _ _ _ _ => (pg_name (i := 2) sc_ascending_ratios.nd rfl (by first | exact Or.inl rfl | exact Or.inr rfl))) (fun _ _ _ _ _ => pts_nil) (fun _ _ _ _ _ => (pe_tup (pa_cons (pv 2) pa_nil)))) pa_nil))) (blkOk_by (N := ["values", "point", "value"]) (sc := defScope s_ascending_ratios) (by decide +kernel)) (fun _ _ _ _ _ => (pg_name (i := 1) sc_ascending_ratios.nd rfl (by first | exact Or.inl rfl | exact Or.inr rfl))) (fun _ _ _ _ _ => pts_nil) (fun _ _ _ _ _ => (pe_ix (ix_tupK (K := K) rfl) (pv 1) pe_int (fun _ _ => rfl)))) pa_nil)))),
    fun l hp => by
      obtain ⟨hl, hq⟩ := hp
      refine s_ret <| w_cb <| a_cons <| w_lc_map (K := K) (is := [1]) (S := rRi C) (fun p : Pt => p.2.headD (.non, 0)) <| i_tup <| w_callP <| a_cons <| w_sqL (K := K) <| w_lc (K := K) (is := [2]) (S := rPt K C) <| i_tup <| w_var rfl ⟨by show _ ≤ bigN; unfold bigN; omega, fun pre (ys : List Pt) _ => ys.map (·.2) = pre.map (fun v => [v]), rfl, ?_, ?_⟩
      · rintro pre x post ys n' hlx hy
        refine tg_name <| t_yes ⟨fun _ => ?_, fun z => by cases z⟩
        refine w_id <| w_tup (K := K) (R := rRi C) <| a_cons <| w_var rfl <| a_nil ⟨[x], rfl, (show 1 ≤ bigN by decide), fun u => ?_⟩
        show (ys ++ [(u, [x])]).map (·.2) = (pre ++ [x]).map (fun v => [v])
        rw [List.map_append, List.map_append, hy]
        rfl
      · intro pts n' hlen hy
        have hpt : ∀ p ∈ pts, ∃ v ∈ l, p.2 = [v] := fun p hp => by
          have : p.2 ∈ l.map (fun v => [v]) := by rw [← hy]; exact List.mem_map_of_mem hp
          obtain ⟨v, hv, e⟩ := List.mem_map.mp this
          exact ⟨v, hv, e.symm⟩
        have hcov : ∀ v ∈ l, ∃ p ∈ pts, p.2 = [v] := fun v hv => by
          have : [v] ∈ pts.map (·.2) := by rw [hy]; exact List.mem_map_of_mem hv
          obtain ⟨p, hp, e⟩ := List.mem_map.mp this
          exact ⟨p, hp, e⟩
        refine a_nil ⟨pts, rfl, ⟨1, by decide, by decide, by omega, fun p hp => ?_⟩, fun ys hys => ⟨?_, fun x hx => ?_, a_nil ⟨_, c_tupL, ?_⟩⟩⟩
        · obtain ⟨v, hv, e⟩ := hpt p hp
          unfold vl
          rw [e]
          refine ⟨rfl, fun q hqq => ?_⟩
          rw [List.mem_singleton.mp hqq]
          exact hq v hv
        · have := hys.len
          show _ ≤ bigN
          unfold bigN
          omega
        · obtain ⟨v, hv, e⟩ := hpt x (hys.sub x hx)
          refine tg_name <| w_opP o_ixT <| w_of <| w_var rfl <| w_int ⟨v, ?_, ?_, rfl⟩
          · rw [e]; rfl
          · rw [e]; rfl
        · have hval : ∀ p ∈ ys, one1 (p.2.headD (.non, 0)) = vl p ∧ p.2.headD (.non, 0) ∈ l := fun p hp => by
            obtain ⟨v, hv, e⟩ := hpt p (hys.sub p hp)
            unfold vl
            rw [e]
            exact ⟨rfl, hv⟩
          refine ⟨?_, fun z hz => ?_, fun v hv => ?_, ?_⟩
          · rw [List.pairwise_map]
            refine List.Pairwise.imp_of_mem (fun {a b} ha hb hab => ?_) hys.up
            rw [(hval a ha).1, (hval b hb).1]
            exact hab
          · obtain ⟨p, hp, rfl⟩ := List.mem_map.mp hz
            exact (hval p hp).2
          · obtain ⟨p, hp, e⟩ := hcov v hv
            obtain ⟨q, hqy, e2⟩ := hys.cov p hp
            refine ⟨_, List.mem_map_of_mem hqy, ?_⟩
            rw [(hval q hqy).1, e2]
            unfold vl
            rw [e]
            rfl
          · rw [List.length_map]
            have := hys.len
            omega⟩
theorem ok_ar (T : Tx K mg C) (f : Addr) (fd : FuncData) (F : FunD K "ascending_ratios" "ascending_ratios" (defArgs s_ascending_ratios) (defBody s_ascending_ratios) (defScope s_ascending_ratios) [] [] f fd) : FnOk P w K mg base CX0 2 f fd ["values"] (spAr K C) := fnSq (ok_arL T f fd F) (ok_arT T f fd F)
theorem c_ascending_ratios (T : Tx K mg C) : Cal P w K mg base "ascending_ratios" 2 ["values"] (spAr K C) := T.d_ascending_ratios.cal (fun _ _ _ _ _ _ us hl => match us, hl with | [_], _ => rfl) (ok_ar T)
theorem k_ascending_ratios (T : Tx K mg C) : CalK P w K mg base "ascending_ratios" 2 ["values"] ["values"] (fun zs => zs) (spAr K C) := T.d_ascending_ratios.calK (fun ws => ws) (fun r => r) (fun _ _ _ _ _ _ ws hl => match ws, hl with | [_], _ => rfl) (ok_ar T)
end
end K05
end

-- part K05J
section
set_option Elab.async false
set_option linter.all false
set_option maxRecDepth 100000
set_option maxHeartbeats 400000
namespace K05
open PySem PySem.Spec PyProof.Rows L2 L2.Lc
def atF (f : SD) (l : List (Str × Rat)) : Rat := l.foldl (fun acc p => acc + p.2 * ((((lk f p.1).getD 0 : Int)) : Rat)) 0
theorem atF_snoc (f : SD) (l : List (Str × Rat)) (p : Str × Rat) : atF f (l ++ [p]) = atF f l + p.2 * ((((lk f p.1).getD 0 : Int)) : Rat) := by
  unfold atF
  rw [List.foldl_append]; rfl
abbrev okF (f : SD) : Prop := ∀ p ∈ f, p.2.natAbs < 2 ^ 120
theorem lk_lt {f : SD} (h : okF f) (s : Str) : ((lk f s).getD 0).natAbs < 2 ^ 120 := by
  cases q : lk f s with
  | none => decide
  | some i => exact h _ (lk_mem q)
abbrev A3 {α β γ : Type} (R : Rl α) (S : Rl β) (T : Rl γ) : α × β × γ → List Ent := fun p => [.mk R p.1, .mk S p.2.1, .mk T p.2.2]
section
variable {P : Program} {w : World} {K : PySem.W.Frag} {mg : Str → Option Value} {base : Heap} {C : Addr}
abbrev spAt (K : PySem.W.Frag) (C : Addr) : Sp := spP (A3 rDic (rTup K rStr) (rTup K (rRat C))) (fun p => okF p.1 ∧ p.2.1.length ≤ 8 ∧ ∀ q ∈ p.2.2, Sz 80 q) (rRat C) fun p y => y = atF p.1 (p.2.1.zip p.2.2) ∧ Sz 2000 y
theorem ok_at (T : Tx K mg C) (f : Addr) (fd : FuncData) (F : FunD K "at_form" "at_form" (defArgs s_at_form) (defBody s_at_form) (defScope s_at_form) [] [] f fd) : FnOk P w K mg base CX0 5 f fd ["form", "measures", "point"] (spAt K C) :=
  fnP F sc_at_form (fun _ => rfl) fun cdv A outer s H E hr => ⟨_, (pss_cons (ps_set (i := 3) sc_at_form.nd rfl (by first | exact Or.inl rfl | exact Or.inr rfl) (pe_mkC (mk_Ratio_d T) (hr.mono (by decide)) rfl (pa_cons pe_int pa_nil)))
  (pss_cons (ps_for PassesOwn.never rfl (ki_zip (K := K) rfl rfl T.f_zip (pa_cons (pv 1) (pa_cons (pv 2) pa_nil))) (kgtup (K := K) rfl rfl (pgs_cons (pg_name (i := 4) sc_at_form.nd rfl (by first | exact Or.inl rfl | exact Or.inr rfl)) (pgs_cons (pg_name (i := 5) sc_at_form.nd rfl (by first | exact Or.inl rfl | exact Or.inr rfl)) pgs_nil))) (pss_one (ps_set (i := 3) sc_at_form.nd rfl (by first | exact Or.inl rfl | exact Or.inr rfl) (pe_op (op_ownB (o_add T) (hr.mono (by decide)) rfl) (pv 3) (pe_op (op_multI T (hr.mono (by decide))) (pv 5) (pe_dget2 (hu_of hr) (pv 0) (pv 4) pe_int ⟨rfl, rfl, rfl, rfl⟩))))))
  (pss_one (ps_ret (pv 3))))),
    fun x hp => by
      obtain ⟨fm, ms, pt⟩ := x
      obtain ⟨h1, h2, h3⟩ := hp
      dsimp only at h1 h2 h3
      refine s_seq <| s_set <| w_ratio1 <| a_cons <| w_int <| a_nil ⟨0, rfl, ?_⟩
      refine s_seq <| s_for (is := [4] ++ [5]) (R := rPr K rStr (rRat C)) <| i_zipT <| a_cons <| w_var rfl <| a_cons <| w_var rfl <| a_nil ⟨ms, pt, rfl, fun pre Γ _ => (∃ o1 o2, Γ = [some (.mk rDic fm), some (.mk (rTup K rStr) ms), some (.mk (rTup K (rRat C)) pt), some (.mk (rRat C) (atF fm pre)), o1, o2]) ∧ Sz (1 + 201 * pre.length) (atF fm pre), ⟨⟨none, none, rfl⟩, ⟨show 0 < 2 ^ 1 by decide, show 1 < 2 ^ 1 by decide⟩⟩, ?_, ?_⟩
      · rintro pre ⟨nm, q⟩ post Γ' n' hl ⟨⟨o1, o2, rfl⟩, hsz⟩
        have hlen : pre.length < 8 := by
          have := congrArg List.length hl
          rw [List.length_zip, List.length_append, List.length_cons] at this
          omega
        have hq : Sz 80 q := h3 q (List.of_mem_zip (a := nm) (b := q) (by rw [hl]; simp)).2
        have hv := lk_lt h1 nm
        have m1 : Sz (80 + 120) (q * ((((lk fm nm).getD 0 : Int)) : Rat)) := hq.mul hv
        have m2 := hsz.add m1
        refine tg_pair <| tg_name <| tg_name <| s_set <| w_ownB <| w_var rfl <| w_ownI <| w_var rfl <| w_get2 <| w_var rfl <| w_var rfl <| w_int ⟨(q, (lk fm nm).getD 0), rfl, ⟨hq.mono (by decide), Nat.lt_trans hv (Nat.pow_lt_pow_right (by decide) (by decide))⟩, fun z hz => ⟨(_, z), rfl, ⟨hsz.mono (by omega), ?_⟩, fun y hy => ?_⟩⟩
        · rw [hz]; exact m1.mono (by decide)
        · have ey : y = atF fm (pre ++ [(nm, q)]) := by rw [atF_snoc, hy, hz]; rfl
          subst ey
          refine ⟨⟨_, _, rfl⟩, ?_⟩
          · rw [atF_snoc]
            refine m2.mono ?_
            rw [List.length_append]
            simp only [List.length_cons, List.length_nil]
            omega
      · rintro Γ' n' ⟨⟨o1, o2, rfl⟩, hsz⟩
        refine s_ret <| w_var rfl ⟨rfl, hsz.mono ?_⟩
        rw [List.length_zip]
        omega⟩
theorem c_at_form (T : Tx K mg C) : Cal P w K mg base "at_form" 5 ["form", "measures", "point"] (spAt K C) := T.d_at_form.cal (fun _ _ _ _ _ _ us hl => match us, hl with | [_, _, _], _ => rfl) (ok_at T)
theorem k_at_form (T : Tx K mg C) : CalK P w K mg base "at_form" 5 ["form", "measures", "point"] ["point", "measures", "form"] List.reverse (spAt K C) :=
  T.d_at_form.calK List.reverse (fun r => r.reverse) (fun _ _ _ _ _ _ ws hl => match ws, hl with | [_, _, _], _ => rfl) (ok_at T)
abbrev spUnlike (K : PySem.W.Frag) : Sp := spP (A2 (rPq K) (rPq K)) (fun p => p.1 = p.2 ∧ Sz 1900 p.1) rBl fun _ y => y = false
theorem txt_len {x y : Int} (hx : x.natAbs.log2 < 1920) (hy : y.natAbs.log2 < 1920) : (tupTxt [x, y]).length ≤ sizeLine := by
  have e1 := int_text_length_le (k := 1920) (by decide) hx
  have e2 := int_text_length_le (k := 1920) (by decide) hy
  have e3 := join_length_add [((toString x : String) : Str), ((toString y : String) : Str)] (by simp)
  unfold tupTxt tupleText
  rw [strLen_append, strLen_append]
  show (("(" : String) : Str).length + (Str.join ", " [((toString x : String) : Str), ((toString y : String) : Str)]).length + ((")" : String) : Str).length ≤ sizeLine
  have l1 : (("(" : String) : Str).length = 1 := rfl
  have l2 : ((")" : String) : Str).length = 1 := rfl
  have p1 : (((toString x : String) : Str)).length = (toString x).length := PySem.ofString_length _
  have p2 : (((toString y : String) : Str)).length = (toString y).length := PySem.ofString_length _
  simp only [piled_cons] at e3
  rw [p1, p2] at e3
  have e4 : piled [] = 0 := rfl
  rw [sizeLine_eq]
  omega
theorem c_law_unlike (T : Tx K mg C) : CalG P w K mg base "_law_unlike" 1 ["told", "due"] (spUnlike K) :=
  T.d_law_unlike.calG (fun _ _ _ _ _ _ us hl => match us, hl with | [_, _], _ => rfl) fun f fd F => fnPG F sc_law_unlike (fun _ => rfl) fun cdv A outer s H E hr hgd => ⟨_, (pss_one (ps_ret (pe_cmpR op_ne (pe_callB (r := rReprT K) (cr_reprT hgd hr.units) (by rfl) T.f_repr boot_repr (pa_cons (pv 0) pa_nil)) (pe_callB (r := rReprT K) (cr_reprT hgd hr.units) (by rfl) T.f_repr boot_repr (pa_cons (pv 1) pa_nil)) (nomark _)))),
    fun x hp => by
      obtain ⟨q, r⟩ := x
      obtain ⟨h1, h2⟩ := hp
      have h1 : q = r := h1
      subst h1
      have a1 : q.num.natAbs.log2 < 1920 := Nat.lt_trans (h2.num (by decide)) (by decide)
      have a2 : (q.den : Int).natAbs.log2 < 1920 := Nat.lt_trans (h2.den (by decide)) (by decide)
      have rp : CbW (rReprT K) [.mk (rPq K) q] rStr (tupTxt [q.num, (q.den : Int)]) := fun M H vs g a Q k => by
        obtain ⟨v, rfl, r⟩ := args1 a
        exact c_reprP (K := K) a1 a2 (txt_len a1 a2) M H [v] g ⟨r, trivial⟩ Q k
      refine s_ret <| w_op0 o_neS <| w_cb <| a_cons <| w_var rfl <| a_nil ⟨_, rp, w_cb <| a_cons <| w_var rfl <| a_nil ⟨_, rp, ?_⟩⟩
      simp⟩
end
end K05
end

-- part K05K
section
set_option Elab.async false
set_option linter.all false
set_option maxRecDepth 100000
set_option maxHeartbeats 400000
namespace K05
open PySem PySem.Spec PyProof.Rows L2 L2.Lc
section
variable {P : Program} {w : World} {K : PySem.W.Frag} {mg : Str → Option Value} {base : Heap} {C : Addr}
theorem c_law_pen (T : Tx K mg C) : Cal P w K mg base "_law_pen" 1 ["script"] (spPen K) :=
  T.d_law_pen.cal (fun _ _ _ _ _ _ us hl => match us, hl with | [_], _ => rfl) fun f fd F => fnP F sc_law_pen (fun _ => rfl) fun cdv A outer s H E hr => ⟨_, (pss_one (ps_ret (pe_lst (pa_cons (pe_lc (own := [("cell", 1)]) rfl sc_law_pen.nd (ki_list (K := K) rfl (pe_slice (sl_listK (K := K) rfl) (pv 0) po_none (po_some pe_int))) (blkOk_by (N := ["script", "cell"]) (sc := defScope s_law_pen) (by decide +kernel)) (fun _ _ _ _ _ => (pg_name (i := 1) sc_law_pen.nd rfl (by first | exact Or.inl rfl | exact Or.inr rfl))) (fun _ _ _ _ _ => pts_nil) (fun _ _ _ _ _ => (pe_callTy (r := rIntOf) call_int1 (by rfl) T.f_int boot_int (pa_cons (pv 1) pa_nil)))) (pa_cons pe_int (pa_cons pe_int pa_nil)))))),
    fun l hp => by
      refine s_ret <| w_pen0mk <| w_lc_map (K := K) (is := [1]) (R := rInt) (S := rInt) (fun i => i) <| i_list <| w_toS <| w_var rfl <| w_int ⟨by decide, ?_, fun x hx => ?_, ?_⟩
      · rw [List.length_take]
        show _ ≤ bigN
        unfold bigN
        omega
      · exact tg_name <| w_cb <| a_cons <| w_var rfl <| a_nil ⟨_, c_int, rfl, rfl⟩
      · rw [List.map_id']; rfl⟩
abbrev A3i {α β : Type} (K : PySem.W.Frag) (R : Rl α) (S : Rl β) : PenI → α × β → List Ent := fun I p => [.mk (rPen K I) (), .mk R p.1, .mk S p.2]
abbrev okF2 (f : SD) : Prop := ∀ p ∈ f, p.2.natAbs < 2 ^ 112
abbrev spForm (K : PySem.W.Frag) : Sp := spS mPen (A3i K (rLst K rStr) rInt) (fun p n => p.1 ≠ [] ∧ p.1.length ≤ 10 ∧ p.1.Nodup ∧ (0 ≤ p.2 ∧ p.2 < 2 ^ 110) ∧ 0 ≤ n.1 ∧ n.1 < 800000) rDic
  fun p n y n' => ((y.map (·.1)).Nodup ∧ (∀ s ∈ y.map (·.1), s ∈ p.1) ∧ okF2 y ∧ y.length ≤ 10) ∧ n.1 ≤ n'.1 ∧ n'.1 ≤ n.1 + 50
theorem c_law_form (T : Tx K mg C) : Cal P w K mg base "_law_form" 3 ["pen", "names", "most"] (spForm K) :=
  T.d_law_form.cal (fun _ _ _ _ _ _ us hl => match us, hl with | [_, _, _], _ => rfl) fun f fd F => fnS F sc_law_form (fun _ _ => rfl) fun cdv A outer s H E hr => ⟨_, (pss_cons (ps_set (i := 3) sc_law_form.nd rfl (by first | exact Or.inl rfl | exact Or.inr rfl) (pe_slice (sl_listK (K := K) rfl) (pe_cal (c_law_mixed (R := rStr) T) (hr.mono (by decide)) rfl (pa_cons (pv 0) (pa_cons (pv 1) pa_nil))) po_none (po_some (pe_op op_add pe_int (pe_cal (c_law_draw T) (hr.mono (by decide)) rfl (pa_cons (pv 0) (pa_cons (pe_callB (r := rLenOf K) call_len (by rfl) T.f_len boot_len (pa_cons (pv 1) pa_nil)) pa_nil)))))))
  (pss_one (ps_ret (pe_callTy (r := rDictP K) (call_dictP rfl) (by rfl) T.f_dict boot_dict (pa_cons (pe_lc (own := [("name", 4)]) rfl sc_law_form.nd (ki_list (K := K) rfl (pv 3)) (blkOk_by (N := ["pen", "names", "most", "some", "name"]) (sc := defScope s_law_form) (by decide +kernel)) (fun _ _ _ _ _ => (pg_name (i := 4) sc_law_form.nd rfl (by first | exact Or.inl rfl | exact Or.inr rfl))) (fun _ _ _ _ _ => pts_nil) (fun _ _ _ _ _ => (pe_tup (pa_cons (pv 4) (pa_cons (pe_cal (c_law_pick (R := rInt) T) (hr.mono (by decide)) rfl (pa_cons (pv 0) (pa_cons (pe_lst (pa_cons pe_int (pa_cons (pe_un un_neg pe_int) (pa_cons pe_int (pa_cons (pe_un un_neg pe_int) (pa_cons (pe_op op_add pe_int (pe_cal (c_law_draw T) (hr.mono (by decide)) rfl (pa_cons (pv 0) (pa_cons (pv 2) pa_nil)))) (pa_cons (pe_op op_sub (pe_un un_neg pe_int) (pe_cal (c_law_draw T) (hr.mono (by decide)) rfl (pa_cons (pv 0) (pa_cons (pv 2) pa_nil)))) pa_nil))))))) pa_nil))) pa_nil))))) pa_nil))))),
    fun I x n hp => by
      obtain ⟨names, most⟩ := x
      obtain ⟨h1, h2, h3, ⟨h4, h5⟩, h6, h7⟩ := hp
      dsimp only at h1 h2 h3 h4 h5
      have hl0 : 0 < names.length := List.length_pos_iff.mpr h1
      have big : (2 : Int) ^ 110 < 2 ^ 8000 := by decide +kernel
      refine s_seq <| s_set <| w_to <| w_callS I <| a_cons <| w_var rfl <| a_cons <| w_var rfl <| a_nil ⟨names, rfl, ⟨by omega, by omega, by omega⟩, fun ys n2 hys => w_op0 o_int <| w_int <| w_callS I <| a_cons <| w_var rfl <| a_cons <| w_cb <| a_cons <| w_var rfl <| a_nil ⟨_, c_lenL, a_nil ⟨(names.length : Int), rfl, ⟨?_, ?_, ?_⟩, fun r n3 hr => ⟨?_, ?_⟩⟩⟩⟩
      · obtain ⟨_, q1, q2⟩ := hys; omega
      · obtain ⟨_, q1, q2⟩ := hys; omega
      · omega
      · obtain ⟨_, q2, _⟩ := hr; omega
      obtain ⟨perm, q1, q2⟩ := hys
      obtain ⟨⟨r0, r1⟩, r2, _⟩ := hr
      generalize hm : ys.take (1 + r).toNat = some
      have hsome : some.Nodup ∧ (∀ s ∈ some, s ∈ names) ∧ some.length ≤ 10 := by
        rw [← hm]
        refine ⟨(perm.nodup_iff.mpr h3).sublist (List.take_sublist _ _), fun s hs => perm.mem_iff.mp (List.mem_of_mem_take hs), ?_⟩
        have := perm.length_eq
        rw [List.length_take]
        omega
      obtain ⟨s1, s2, s3⟩ := hsome
      refine s_ret <| w_cb <| a_cons <| w_lc (K := K) (is := [4]) (R := rStr) (S := rPr K rStr rInt) <| i_list <| w_var rfl ⟨by show _ ≤ bigN; unfold bigN; omega, fun pre (ys : SD) m => ys.map (·.1) = pre ∧ okF2 ys ∧ n3.1 ≤ m.1 ∧ m.1 ≤ n3.1 + 3 * pre.length, ⟨rfl, (fun _ h => by cases h), by omega, by simp⟩, ?_, ?_⟩
      · rintro pre nm post zs m hl ⟨e1, e2, e3, e4⟩
        have hpre : pre.length < 10 := by
          have := congrArg List.length hl
          rw [List.length_append, List.length_cons] at this
          omega
        refine tg_name <| t_yes ⟨fun _ => w_pr <| w_var rfl <| w_callS I <| a_cons <| w_var rfl <| a_cons <| w_lst (K := K) (R := rInt) <| a_cons <| w_int <| a_cons <| w_un u_neg <| w_int <| a_cons <| w_int <| a_cons <| w_un u_neg <| w_int <| a_cons <| w_op0 o_int <| w_int <| w_callS I <| a_cons <| w_var rfl <| a_cons <| w_var rfl <| a_nil ⟨most, rfl, ⟨by omega, by omega, by omega⟩, fun u1 m1 hu1 => ?_⟩, fun z => by cases z⟩
        obtain ⟨⟨a0, a1⟩, a2, a3, a4⟩ := hu1
        refine a_cons <| w_op0 o_int <| w_un u_neg <| w_int <| w_callS I <| a_cons <| w_var rfl <| a_cons <| w_var rfl <| a_nil ⟨most, rfl, ⟨by omega, by omega, by omega⟩, fun u2 m2 hu2 => ?_⟩
        obtain ⟨⟨b0, b1⟩, b2, b3, b4⟩ := hu2
        have c1 : u1 < 2 ^ 110 := by by_cases z : 2 ≤ most; · have := a3 z; omega
                                     · have := a4 (by omega); omega
        have c2 : u2 < 2 ^ 110 := by by_cases z : 2 ≤ most; · have := b3 z; omega
                                     · have := b4 (by omega); omega
        refine a_nil ⟨[1, -1, 2, -3, 1 + u1, -1 - u2], rfl, (show 6 ≤ bigN by decide), a_nil ⟨_, rfl, ⟨by simp, by simp, by omega, by omega⟩, fun v m3 hv => ?_⟩⟩
        obtain ⟨hm, d0, d1⟩ := hv
        refine ⟨?_, fun p hp => ?_, by omega, ?_⟩
        · rw [List.map_append, e1]; rfl
        · rcases List.mem_append.mp hp with hp | hp
          · exact e2 p hp
          · rw [List.mem_singleton.mp hp]
            show v.natAbs < 2 ^ 112
            simp only [List.mem_cons, List.not_mem_nil, or_false] at hm
            rcases hm with rfl | rfl | rfl | rfl | rfl | rfl <;> omega
        · rw [List.length_append]
          simp only [List.length_cons, List.length_nil]
          omega
      · rintro zs m hlen ⟨e1, e2, e3, e4⟩
        refine a_nil ⟨zs, c_dictP (by rw [e1]; exact s1), ⟨by rw [e1]; exact s1, by rw [e1]; exact s2, e2, by omega⟩, by omega, by omega⟩⟩
end
end K05
end

-- part K05N
section
set_option Elab.async false
set_option linter.all false
set_option maxRecDepth 100000
set_option maxHeartbeats 400000
/-! # plain: one ascending list of a kind -/
namespace K05
open PySem PySem.Spec PyProof.Rows L2 L2.Lc
theorem rlt_asym {a b : Rat} (h1 : a < b) (h2 : b < a) : False := absurd (Rat.le_antisymm (Rat.le_of_lt h1) (Rat.le_of_lt h2)) (Rat.ne_of_lt h1)
theorem ahead_asym : ∀ {a b : List Rat}, ahead a b = true → ahead b a = true → False
  | [], _, h, _ => by cases h
  | _ :: _, [], h, _ => by cases h
  | x :: r, y :: t, h1, h2 => by
    have h1 : (if x = y then aheadZ (r.zip t) else decide (x < y)) = true := h1
    have h2 : (if y = x then aheadZ (t.zip r) else decide (y < x)) = true := h2
    by_cases e : x = y
    · rw [if_pos e] at h1
      rw [if_pos e.symm] at h2
      exact ahead_asym (a := r) (b := t) h1 h2
    · rw [if_neg e] at h1
      rw [if_neg (Ne.symm e)] at h2
      exact rlt_asym (of_decide_eq_true h1) (of_decide_eq_true h2)
theorem uniq {γ : Type} {r : γ → γ → Prop} (as : ∀ a b, r a b → r b a → False) : ∀ {l m : List γ}, l.Pairwise r → m.Pairwise r → (∀ x, x ∈ l ↔ x ∈ m) → l = m
  | [], [], _, _, _ => rfl
  | [], y :: m, _, _, h => by have := (h y).mpr (List.mem_cons_self ..); cases this
  | x :: l, [], _, _, h => by have := (h x).mp (List.mem_cons_self ..); cases this
  | x :: l, y :: m, hl, hm, h => by
    obtain ⟨l1, l2⟩ := List.pairwise_cons.mp hl
    obtain ⟨m1, m2⟩ := List.pairwise_cons.mp hm
    have e : x = y := by
      rcases List.mem_cons.mp ((h x).mp (List.mem_cons_self ..)) with e | hx
      · exact e
      · rcases List.mem_cons.mp ((h y).mpr (List.mem_cons_self ..)) with e | hy
        · exact e.symm
        · exact (as _ _ (m1 x hx) (l1 y hy)).elim
    subst e
    rw [uniq as l2 m2 fun z => ?_]
    constructor
    · intro hz
      rcases List.mem_cons.mp ((h z).mp (List.mem_cons_of_mem _ hz)) with e | hz'
      · subst e
        exact (as _ _ (l1 z hz) (l1 z hz)).elim
      · exact hz'
    · intro hz
      rcases List.mem_cons.mp ((h z).mpr (List.mem_cons_of_mem _ hz)) with e | hz'
      · subst e
        exact (as _ _ (m1 z hz) (m1 z hz)).elim
      · exact hz'
abbrev Up (l : List (List Rat)) : Prop := l.Pairwise fun a b => ahead a b = true
abbrev Wd (w : Nat) (l : List (List Rat)) : Prop := ∀ x ∈ l, x.length = w
theorem ins_up {w : Nat} {x : List Rat} (hx : x.length = w) : ∀ {f : List (List Rat)}, Wd w f → Up f → x ∉ f → Up (f.take (f.filter fun y => ahead y x).length ++ [x] ++ f.drop (f.filter fun y => ahead y x).length)
  | [], _, _, _ => by simp
  | y :: f, hw, hu, hn => by
    obtain ⟨u1, u2⟩ := List.pairwise_cons.mp hu
    have hy := hw y (List.mem_cons_self ..)
    have hw' : Wd w f := fun z hz => hw z (List.mem_cons_of_mem _ hz)
    have hn' : x ∉ f := fun z => hn (List.mem_cons_of_mem _ z)
    cases q : ahead y x with
    | true =>
      have ih := ins_up hx hw' u2 hn'
      rw [List.filter_cons_of_pos (p := fun y => ahead y x) q, List.length_cons, List.take_succ_cons, List.drop_succ_cons]
      show Up (y :: (f.take _ ++ [x] ++ f.drop _))
      refine List.pairwise_cons.mpr ⟨fun z hz => ?_, ih⟩
      simp only [List.mem_append, List.mem_singleton] at hz
      rcases hz with (hz | rfl) | hz
      · exact u1 z (List.mem_of_mem_take hz)
      · exact q
      · exact u1 z (List.mem_of_mem_drop hz)
    | false =>
      have hxy : ahead x y = true := by
        cases p : ahead x y with
        | true => rfl
        | false => exact absurd (ahead_total (hx.trans hy.symm) p q) fun e => hn (by rw [e]; exact List.mem_cons_self ..)
      have hall : ∀ z ∈ f, ahead x z = true := fun z hz => ahead_trans (hx.trans hy.symm) (hy.trans (hw' z hz).symm) hxy (u1 z hz)
      have hf : (y :: f).filter (fun y => ahead y x) = [] := by
        rw [List.filter_cons_of_neg (p := fun y => ahead y x) (by rw [q]; exact Bool.false_ne_true)]
        refine List.filter_eq_nil_iff.mpr fun z hz h => ahead_asym h (hall z hz)
      rw [hf]
      show Up (x :: y :: f)
      refine List.pairwise_cons.mpr ⟨fun z hz => ?_, hu⟩
      rcases List.mem_cons.mp hz with rfl | hz
      · exact hxy
      · exact hall z hz
theorem insP_up {w : Nat} {f : List (List Rat)} {x : List Rat} (hx : x.length = w) (hw : Wd w f) (hu : Up f) : Up (insP f x) := by
  unfold insP
  split
  · exact hu
  · rename_i hn
    exact ins_up hx hw hu hn
theorem insP_mem {f : List (List Rat)} {x y : List Rat} : y ∈ insP f x ↔ y ∈ f ∨ y = x := by
  refine ⟨mem_insP, fun h => ?_⟩
  unfold insP
  split
  · rename_i hx
    rcases h with h | rfl
    · exact h
    · exact hx
  · simp only [List.mem_append, List.mem_singleton]
    rcases h with h | h
    · rw [← List.take_append_drop (f.filter fun y => ahead y x).length f] at h
      rcases List.mem_append.mp h with h | h
      · exact .inl (.inl h)
      · exact .inr h
    · exact .inl (.inr h)
theorem putIn_spec {w : Nat} {l : List (List Rat)} (hl : Wd w l) : Up (putIn l) ∧ ∀ x, x ∈ putIn l ↔ x ∈ l := by
  have key : ∀ (l f : List (List Rat)), Wd w l → Wd w f → Up f → Up (l.foldl insP f) ∧ ∀ x, x ∈ l.foldl insP f ↔ x ∈ f ∨ x ∈ l := by
    intro l
    induction l with
    | nil => intro f _ _ hu; exact ⟨hu, fun x => by simp⟩
    | cons y l ih =>
      intro f hl hf hu
      have hy := hl y (List.mem_cons_self ..)
      obtain ⟨h1, h2⟩ := ih (insP f y) (fun z hz => hl z (List.mem_cons_of_mem _ hz)) (fun z hz => by
        rcases mem_insP hz with hz | rfl
        · exact hf z hz
        · exact hy) (insP_up hy hf hu)
      refine ⟨h1, fun x => ?_⟩
      rw [List.foldl_cons, h2, insP_mem, List.mem_cons]
      constructor
      · rintro ((h | h) | h)
        · exact .inl h
        · exact .inr (.inl h)
        · exact .inr (.inr h)
      · rintro (h | h | h)
        · exact .inl (.inl h)
        · exact .inl (.inr h)
        · exact .inr h
  obtain ⟨h1, h2⟩ := key l [] hl (fun _ h => by cases h) List.Pairwise.nil
  refine ⟨h1, fun x => ?_⟩
  show x ∈ l.foldl insP [] ↔ x ∈ l
  rw [h2]
  simp
/-- what is ascending of what has the same values is what is put in -/
theorem asc_putIn {γ : Type} {val : γ → List Rat} {w : Nat} {l y : List γ} {pts : List (List Rat)} (hp : Wd w pts) (h : Asc val l y) (h1 : ∀ p ∈ l, val p ∈ pts) (h2 : ∀ q ∈ pts, ∃ p ∈ l, val p = q) : y.map val = putIn pts := by
  obtain ⟨u, m⟩ := putIn_spec hp
  refine uniq (fun a b h1 h2 => ahead_asym h1 h2) (List.pairwise_map.mpr h.up) u fun x => ?_
  rw [m]
  constructor
  · intro hx
    obtain ⟨p, hp, rfl⟩ := List.mem_map.mp hx
    exact h1 p (h.sub p hp)
  · intro hx
    obtain ⟨p, hp, rfl⟩ := h2 x hx
    obtain ⟨q, hq, e⟩ := h.cov p hp
    exact List.mem_map.mpr ⟨q, hq, e⟩
/-- what is ascending already stays, whatever its order was -/
theorem asc_same {γ : Type} {val : γ → List Rat} {l l2 y z : List γ} (h : Asc val l y) (hm : ∀ x, x ∈ l2 ↔ x ∈ y) (h2 : Asc val l2 z) : z = y := by
  refine uniq (r := fun a b => ahead (val a) (val b) = true) (fun a b h1 h2 => ahead_asym h1 h2) h2.up h.up fun x => ?_
  constructor
  · intro hx
    exact (hm x).mp (h2.sub x hx)
  · intro hx
    obtain ⟨q, hq, e⟩ := h2.cov x ((hm x).mpr hx)
    have hqy := (hm q).mp (h2.sub q hq)
    -- val is one-to-one on y
    have inj : q = x := by
      obtain ⟨i, hi, rfl⟩ := List.getElem_of_mem hqy
      obtain ⟨j, hj, rfl⟩ := List.getElem_of_mem hx
      rcases Nat.lt_trichotomy i j with lt | rfl | gt
      · have := (List.pairwise_iff_getElem.mp h.up) i j hi hj lt
        rw [e, ahead_irrefl] at this
        cases this
      · rfl
      · have := (List.pairwise_iff_getElem.mp h.up) j i hj hi gt
        rw [e, ahead_irrefl] at this
        cases this
    rw [← inj]
    exact hq
end K05
end

-- part K05O
section
set_option Elab.async false
set_option linter.all false
set_option maxRecDepth 100000
set_option maxHeartbeats 400000
/-! # plain: sums by forms -/
namespace K05
open PySem PySem.Spec PyProof.Rows L2 L2.Lc
abbrev cf (f : SD) (s : Str) : Int := (lk f s).getD 0
theorem fold_add {f g h : Str → Int} : ∀ (z : List (Str × Rat)) (a b : Rat), (∀ p ∈ z, h p.1 = f p.1 + g p.1) →
    z.foldl (fun acc p => acc + p.2 * ((h p.1 : Int) : Rat)) (a + b) = z.foldl (fun acc p => acc + p.2 * ((f p.1 : Int) : Rat)) a + z.foldl (fun acc p => acc + p.2 * ((g p.1 : Int) : Rat)) b
  | [], _, _, _ => rfl
  | p :: z, a, b, e => by
    have e1 := e p (List.mem_cons_self ..)
    simp only [List.foldl_cons]
    rw [← fold_add z _ _ fun q hq => e q (List.mem_cons_of_mem _ hq), e1]
    congr 1
    rw [Rat.intCast_add, Rat.mul_add]
    rw [Rat.add_assoc, Rat.add_assoc]
    congr 1
    rw [← Rat.add_assoc, Rat.add_comm b, Rat.add_assoc]
theorem fold_mul {f h : Str → Int} (k : Int) : ∀ (z : List (Str × Rat)) (a : Rat), (∀ p ∈ z, h p.1 = k * f p.1) →
    z.foldl (fun acc p => acc + p.2 * ((h p.1 : Int) : Rat)) (a * (k : Rat)) = z.foldl (fun acc p => acc + p.2 * ((f p.1 : Int) : Rat)) a * (k : Rat)
  | [], _, _ => rfl
  | p :: z, a, e => by
    have e1 := e p (List.mem_cons_self ..)
    simp only [List.foldl_cons]
    rw [← fold_mul k z _ fun q hq => e q (List.mem_cons_of_mem _ hq), e1]
    congr 1
    rw [Rat.intCast_mul, Rat.add_mul]
    congr 1
    rw [Rat.mul_comm (k : Rat), Rat.mul_assoc]
theorem atF_add {f g h : SD} {z : List (Str × Rat)} (e : ∀ p ∈ z, cf h p.1 = cf f p.1 + cf g p.1) : atF h z = atF f z + atF g z := by
  have := fold_add (f := cf f) (g := cf g) (h := cf h) z 0 0 e
  rw [Rat.add_zero] at this
  exact this
theorem atF_mul {f h : SD} {z : List (Str × Rat)} (k : Int) (e : ∀ p ∈ z, cf h p.1 = k * cf f p.1) : atF h z = atF f z * (k : Rat) := by
  have := fold_mul (f := cf f) (h := cf h) k z 0 e
  rw [Rat.zero_mul] at this
  exact this
theorem fold_same {f h : Str → Int} : ∀ (z : List (Str × Rat)) (a : Rat), (∀ p ∈ z, h p.1 = f p.1) →
    z.foldl (fun acc p => acc + p.2 * ((h p.1 : Int) : Rat)) a = z.foldl (fun acc p => acc + p.2 * ((f p.1 : Int) : Rat)) a
  | [], _, _ => rfl
  | p :: z, a, e => by
    simp only [List.foldl_cons]
    rw [e p (List.mem_cons_self ..)]
    exact fold_same z _ fun q hq => e q (List.mem_cons_of_mem _ hq)
theorem atF_same {f h : SD} {z : List (Str × Rat)} (e : ∀ p ∈ z, cf h p.1 = cf f p.1) : atF h z = atF f z := fold_same z 0 e
/-- a dict made of names by a rule, some left out -/
theorem cf_made {ns : List Str} (hn : ns.Nodup) (c : Str → Int) (p : Str → Bool) {s : Str} (hs : s ∈ ns) (hp : p s = false → c s = 0) : cf ((ns.filter p).map fun s => (s, c s)) s = c s := by
  have keys : ((ns.filter p).map fun s => (s, c s)).map (·.1) = ns.filter p := by rw [List.map_map]; exact List.map_id' _
  cases q : p s with
  | true =>
    have : lk ((ns.filter p).map fun s => (s, c s)) s = some (c s) := lk_nodup (by rw [keys]; exact hn.sublist (List.filter_sublist ..)) (List.mem_map.mpr ⟨s, List.mem_filter.mpr ⟨hs, q⟩, rfl⟩)
    show (lk _ s).getD 0 = _
    rw [this]; rfl
  | false =>
    have : lk ((ns.filter p).map fun s => (s, c s)) s = none := lk_none (by
      rw [keys]
      intro h
      have := (List.mem_filter.mp h).2
      rw [q] at this
      cases this)
    show (lk _ s).getD 0 = _
    rw [this, hp q]; rfl
theorem cf_more {f : SD} {s t : Str} {j : Int} (h : s ≠ t) : cf (f ++ [(t, j)]) s = cf f s := by
  unfold cf lk
  rw [List.find?_append]
  cases q : List.find? (fun p : Str × Int => decide (p.1 = s)) f with
  | some p => rfl
  | none =>
    have : decide (t = s) = false := decide_eq_false (Ne.symm h)
    simp [List.find?_cons, this]
theorem cf_scaled {f : SD} (hn : (f.map (·.1)).Nodup) (k : Int) (s : Str) : cf ((f.map (·.1)).map fun t => (t, k * cf f t)) s = k * cf f s := by
  have keys : ((f.map (·.1)).map fun t => (t, k * cf f t)).map (·.1) = f.map (·.1) := by rw [List.map_map]; exact List.map_id' _
  by_cases h : s ∈ f.map (·.1)
  · have : lk ((f.map (·.1)).map fun t => (t, k * cf f t)) s = some (k * cf f s) := lk_nodup (by rw [keys]; exact hn) (List.mem_map.mpr ⟨s, h, rfl⟩)
    show (lk _ s).getD 0 = _
    rw [this]; rfl
  · have a : lk ((f.map (·.1)).map fun t => (t, k * cf f t)) s = none := lk_none (by rw [keys]; exact h)
    have b : lk f s = none := lk_none h
    show (lk _ s).getD 0 = k * (lk f s).getD 0
    rw [a, b]
    simp
theorem plus_of (q : Rat) (i : Int) : Rat.divInt (q.num * i) (q.den : Int) = q * (i : Rat) := by
  have := mul_as q i
  rwa [Int.mul_one] at this
end K05
end

-- part K05L
section
set_option Elab.async false
set_option linter.all false
set_option maxRecDepth 100000
set_option maxHeartbeats 1000000
namespace K05
open PySem PySem.Spec PyProof.Rows L2 L2.Lc
section
variable {X : Cx} {C : Addr}
/-- two Ratios of one value -/
def sameR (C : Addr) (a b : Addr) (H : Hp) : Prop := ∃ q, (rRat C).r H (.ref a) q ∧ (rRat C).r H (.ref b) q
theorem op_eqTR (T : Tx X.K X.mg C) (hr : Room 2 X.A) : OpR X (compareOp .Eq) (rEqG (DTup X.K (DIns C (sameR C)))) := by
  obtain ⟨f, fd, F, hs, hf, kp, b⟩ := (o_eq (P := X.prog) (w := X.w) (base := X.base) T).ex
  have F2 : FnOk X.prog X.w X.K X.mg X.base CX0 1 f fd ["self", "other"] (L2.spEq (sameR C)) := F.imp fun vs H Q E ⟨a, b, e, ⟨q, r1, r2⟩, k⟩ => by
    subst e
    have he : hid (fun _ => False) H = H := funext fun a => hid_no fun z => z
    refine ⟨fun _ => False, (q, q), (fun _ z => z.elim), ⟨by rw [he]; exact r1, by rw [he]; exact r2, trivial⟩, trivial, fun v y H' po ex r => ?_⟩
    have r : v = .bl y := r
    have po : y = decide (q = q) := po
    subst r
    rw [po, decide_eq_true rfl]
    exact k H' fun a o z => ex a o z
  exact op_eqG (rcG_tup (mon_ins fun a b H H' e ⟨q, r1, r2⟩ => ⟨q, (rRat C).mono e r1, (rRat C).mono e r2⟩) (eqG_ins F2 hs hf b pass0)) hr
end
theorem ex22 {Γ : Gm} {s p : Option Ent} (h : Γ.length = 24) (h0 : Γ[0]? = some s) (h1 : Γ[1]? = some p) : ∃ g : Nat → Option Ent, Γ = [s, p, g 2, g 3, g 4, g 5, g 6, g 7, g 8, g 9, g 10, g 11, g 12, g 13, g 14, g 15, g 16, g 17, g 18, g 19, g 20, g 21, g 22, g 23] := by
  refine ⟨fun i => Γ.getD i none, ?_⟩
  apply List.ext_getElem?
  intro i
  have key : ∀ k, k < 24 → Γ[k]? = some (Γ.getD k none) := fun k hk => by
    rw [List.getD_eq_getElem?_getD, List.getElem?_eq_getElem (by omega)]; rfl
  by_cases hi : i < 24
  · have : i = 0 ∨ i = 1 ∨ (2 ≤ i ∧ i < 24) := by omega
    rcases this with rfl | rfl | ⟨h2, h3⟩
    · exact h0
    · exact h1
    · rw [key i hi]
      have : i = 2 ∨ i = 3 ∨ i = 4 ∨ i = 5 ∨ i = 6 ∨ i = 7 ∨ i = 8 ∨ i = 9 ∨ i = 10 ∨ i = 11 ∨ i = 12 ∨ i = 13 ∨ i = 14 ∨ i = 15 ∨ i = 16 ∨ i = 17 ∨ i = 18 ∨ i = 19 ∨ i = 20 ∨ i = 21 ∨ i = 22 ∨ i = 23 := by omega
      rcases this with rfl | rfl | rfl | rfl | rfl | rfl | rfl | rfl | rfl | rfl | rfl | rfl | rfl | rfl | rfl | rfl | rfl | rfl | rfl | rfl | rfl | rfl <;> rfl
  · rw [List.getElem?_eq_none (by omega), List.getElem?_eq_none (by simp; omega)]
section
variable {Z : Type} {m : Md Z} {Γ : Gm} {n : Z}
theorem o_neD0 : OpW rNeD0 rDic rDic rBl (fun _ y => y = []) (fun x _ => !decide (x = [])) := fun M H v u x y g r1 r2 c Q k => by
  subst c
  obtain ⟨a, rfl, h1, _⟩ := r1
  obtain ⟨b, rfl, h2, _⟩ := r2
  refine ⟨a, b, dk x, rfl, rfl, hid_le _ _ h1, hid_le _ _ h2, ?_⟩
  have e : decide (dk x = []) = decide (x = []) := decide_eq_decide.mpr ⟨fun h => List.map_eq_nil_iff.mp h, fun h => by rw [h]; rfl⟩
  rw [e]
  exact k _ H (fun _ _ h => h) rfl
theorem w_dict0 {Post : SD → Z → Prop} (p : Post [] n) : EvW m tDNewK Γ n rDic Post := fun M σ H c e Q k => by
  intro q hfree
  have x := Evl.Ex.new (o := HO.dK []) hfree
  exact k _ [] n _ p (.of x) (m.kept c.inv x) ⟨q, rfl, by rw [hid_no (c.good.fresh hfree), upd_same]; rfl, (show 0 ≤ bigN by decide)⟩
end
section
variable {Z : Type} {m : Md Z} {Γ : Gm} {n : Z} {K : PySem.W.Frag} {α β : Type} {R : Rl α} {S : Rl β} {ta tb : TE} {C : Addr}
theorem al_nil {P : V → α → Prop} {vs : List V} (h : Al P vs []) : vs = [] := List.length_eq_zero_iff.mp h.len
theorem o_eqNil : OpW (rEqD K) (rTup K R) (rTup K S) rBl (fun x y => x = [] ∧ y = []) (fun _ _ => true) := fun M H v u x y g r1 r2 c Q k => by
  obtain ⟨rfl, rfl⟩ := c
  obtain ⟨a, vs, rfl, hs, hA, _⟩ := r1
  obtain ⟨b, ws, rfl, ht, hB, _⟩ := r2
  rw [al_nil hA] at hs
  rw [al_nil hB] at ht
  exact ⟨.tuple [], .tuple [], .tup (ex_t hid_le hs) .nil, .tup (ex_t hid_le ht) .nil, rfl, rfl, k _ H (fun _ _ h => h) rfl⟩
where ex_t {K : PySem.W.Frag} {G H : Hp} {a : Addr} {vs : List V} (e : Evl.Ex G H) (h : SqT K G a vs) : SqT K H a vs := Evl.ex_t e h
theorem al_snd {P : V → α → Prop} : ∀ {vs : List V} {l : List (V × α)}, Al (fun v x => v = x.1 ∧ P v x.2) vs l → Al P vs (l.map (·.2))
  | _, _, .nil => .nil
  | _, _, .cons h t => .cons h.2 (al_snd t)
theorem w_tupOf {Post : List α → Z → Prop} (h : EvW m ta Γ n (rTup K (rId R)) fun x n1 => Post (x.map (·.2)) n1) : EvW m ta Γ n (rTup K R) Post :=
  w_as (R := rTup K (rId R)) (fun x : List (V × α) => x.map (·.2)) (fun H v x ⟨a, vs, h1, h2, h3, h4⟩ => ⟨a, vs, h1, h2, al_snd (P := fun v x => R.r H v x) h3, by rw [List.length_map]; exact h4⟩) h
theorem w_eqTR {Post : Bool → Z → Prop} (h : EvW m ta Γ n (rTup K (rRat C)) fun x n1 => EvW m tb Γ n1 (rTup K (rRat C)) fun y n2 => x = y ∧ Post true n2) : EvW m (tOp (rEqG (DTup K (DIns C (sameR C)))) ta tb) Γ n rBl Post := fun M σ H c e Q k =>
  h M σ H c e _ fun v x n1 H1 p1 e1 i1 r1 => p1 M σ H1 (c.go e1 i1) (e.mono (e1.hid c.mm)) _ fun u y n2 H2 p2 e2 i2 r2 => by
    obtain ⟨rfl, p⟩ := p2
    obtain ⟨a, vs, rfl, hs, hA, _⟩ := (rTup K (rRat C)).mono (e2.hid c.mm) r1
    obtain ⟨b, ws, rfl, ht, hB, _⟩ := r2
    refine ⟨⟨a, b, vs, ws, rfl, rfl, Evl.ex_t hid_le hs, Evl.ex_t hid_le ht, by rw [hA.len, hB.len], fun i v w q1 q2 => ?_⟩, fun H3 ex => k _ true n2 H3 p ((e1.trans e2).trans (.of fun a o q => ex a o q)) (m.kept i2 fun a o q => ex a o q) rfl⟩
    obtain ⟨q, g1, r1⟩ := hA.getV q1
    obtain ⟨q', g2, r2⟩ := hB.getV q2
    rw [g1] at g2
    cases g2
    obtain ⟨a1, dx, fs, rfl, k1, k2⟩ := (rRat C).mono hid_le r1
    obtain ⟨b1, dy, gs, rfl, k3, k4⟩ := (rRat C).mono hid_le r2
    exact ⟨a1, b1, dx, dy, fs, gs, rfl, rfl, k1, k3, q, ⟨a1, dx, fs, rfl, k1, k2⟩, ⟨b1, dy, gs, rfl, k3, k4⟩⟩
end
def five : List Str := ["a", "lost", "sent", "zzzzzzzz", "x"]
def nobody : Str := "nobody"
theorem five_nd : five.Nodup := by decide +kernel
theorem nobody_no : nobody ∉ five := by decide +kernel
theorem rangeL_len (k : Nat) : (rangeL 0 k).length = k := by
  unfold rangeL
  rw [List.length_map, List.length_range]
theorem rangeL_lt {pre post : List Int} {x : Int} {k : Nat} (h : rangeL 0 k = pre ++ x :: post) : pre.length < k := by
  have := congrArg List.length h
  rw [rangeL_len, List.length_append, List.length_cons] at this
  omega
theorem low3 (q : Rat) : Rat.divInt (3 * q.num) (3 * (q.den : Int)) = q := by
  rw [Rat.divInt_mul_left (by decide)]
  exact Rat.num_divInt_den q
section
variable {P : Program} {w : World} {K : PySem.W.Frag} {mg : Str → Option Value} {base : Heap} {C : Addr}
abbrev spLaw (K : PySem.W.Frag) : Sp := spP (A1 (rSql K rInt)) (fun _ => True) rBl fun _ y => y = true
theorem c_law (T : Tx K mg C) (f : Addr) (fd : FuncData) (F : FunD K "law" "law" (defArgs s_law) (defBody s_law) (defScope s_law) [] [] f fd) : FnG P w K mg base 8 f fd ["script"] (spLaw K) :=
  fnPG F sc_law (fun _ => rfl) fun cdv A outer s H E hr hgd => ⟨_, (pss_cons (ps_set (i := 1) sc_law.nd rfl (by first | exact Or.inl rfl | exact Or.inr rfl) (pe_cal (c_law_pen T) (hr.mono (by decide)) rfl (pa_cons (pv 0) pa_nil)))
  (pss_cons (ps_for PassesOwn.never rfl (pi_range1 rfl T.f_range (pa_cons pe_int pa_nil)) (pg_name (i := 2) sc_law.nd rfl (by first | exact Or.inl rfl | exact Or.inr rfl)) (pss_cons (ps_set (i := 3) sc_law.nd rfl (by first | exact Or.inl rfl | exact Or.inr rfl) (pe_op op_add pe_int (pe_cal (c_law_draw T) (hr.mono (by decide)) rfl (pa_cons (pv 1) (pa_cons pe_int pa_nil)))))
  (pss_cons (ps_set (i := 4) sc_law.nd rfl (by first | exact Or.inl rfl | exact Or.inr rfl) (pe_lc (own := [("lap", 5)]) rfl sc_law.nd (pi_range1 rfl T.f_range (pa_cons pe_int pa_nil)) (blkOk_by (N := ["script", "pen", "turn", "wide", "pool", "lap", "points", "spot", "told", "top", "bottom", "point", "due", "some", "found", "one", "single", "names", "pairs", "name", "pair", "other", "more", "both"]) (sc := defScope s_law) (by decide +kernel)) (fun _ _ _ _ _ => (pg_name (i := 5) sc_law.nd rfl (by first | exact Or.inl rfl | exact Or.inr rfl))) (fun _ _ _ _ _ => pts_nil) (fun _ _ _ _ _ => (pe_cal (c_law_drawn_pair T) (hr.mono (by decide)) rfl (pa_cons (pv 1) pa_nil)))))
  (pss_cons (ps_setLc (i := 6) (own := [("lap", 5)]) rfl sc_law.nd rfl rfl (sw_true rfl rfl rfl (by decide +kernel)) (pi_range1 rfl T.f_range (pa_cons (pe_cal (c_law_draw T) (hr.mono (by decide)) rfl (pa_cons (pv 1) (pa_cons pe_int pa_nil))) pa_nil)) (blkOk_by (N := ["script", "pen", "turn", "wide", "pool", "lap", "points", "spot", "told", "top", "bottom", "point", "due", "some", "found", "one", "single", "names", "pairs", "name", "pair", "other", "more", "both"]) (sc := defScope s_law) (by decide +kernel)) (fun _ _ _ _ _ => (pg_name (i := 5) sc_law.nd rfl (by first | exact Or.inl rfl | exact Or.inr rfl))) (fun _ _ _ _ _ => pts_nil) (fun _ _ _ _ _ => (pe_callTy (r := rTupOf K) call_tuple_of (by rfl) T.f_tuple boot_tuple (pa_cons (pe_lc (own := [("spot", 7)]) rfl sc_law.nd (pi_range1 rfl T.f_range (pa_cons (pv 3) pa_nil)) (blkOk_by (N := ["script", "pen", "turn", "wide", "pool", "lap", "points", "spot", "told", "top", "bottom", "point", "due", "some", "found", "one", "single", "names", "pairs", "name", "pair", "other", "more", "both"]) (sc := relS _ (defScope s_law)) (by decide +kernel)) (fun _ _ _ _ _ => (pg_name (i := 7) sc_law.nd rfl (by first | exact Or.inl rfl | exact Or.inr rfl))) (fun _ _ _ _ _ => pts_nil) (fun _ _ _ _ _ => (pe_cal (c_law_pick (R := (rPq K)) T) (hr.mono (by decide)) rfl (pa_cons (pv 1) (pa_cons (pv 4) pa_nil))))) pa_nil))))
  (pss_cons (ps_setLc (i := 8) (own := [("point", 11)]) rfl sc_law.nd rfl rfl (sw_true rfl rfl rfl (by decide +kernel)) (ki_list (K := K) rfl (pv 6)) (blkOk_by (N := ["script", "pen", "turn", "wide", "pool", "lap", "points", "spot", "told", "top", "bottom", "point", "due", "some", "found", "one", "single", "names", "pairs", "name", "pair", "other", "more", "both"]) (sc := defScope s_law) (by decide +kernel)) (fun _ _ _ _ _ => (pg_name (i := 11) sc_law.nd rfl (by first | exact Or.inl rfl | exact Or.inr rfl))) (fun _ _ _ _ _ => pts_nil) (fun _ _ _ _ _ => (pe_callTy (r := rTupOf K) call_tuple_of (by rfl) T.f_tuple boot_tuple (pa_cons (pe_lc (own := [("top", 9), ("bottom", 10)]) rfl sc_law.nd (ki_tup (K := K) rfl (pv 11)) (blkOk_by (N := ["script", "pen", "turn", "wide", "pool", "lap", "points", "spot", "told", "top", "bottom", "point", "due", "some", "found", "one", "single", "names", "pairs", "name", "pair", "other", "more", "both"]) (sc := relS _ (defScope s_law)) (by decide +kernel)) (fun _ _ _ _ _ => (kgtup (K := K) (n := 2) rfl rfl (pgs_cons (pg_name (i := 9) sc_law.nd rfl (by first | exact Or.inl rfl | exact Or.inr rfl)) (pgs_cons (pg_name (i := 10) sc_law.nd rfl (by first | exact Or.inl rfl | exact Or.inr rfl)) pgs_nil)))) (fun _ _ _ _ _ => pts_nil) (fun _ _ _ _ _ => (pe_mkC (mk_Ratio T) (hr.mono (by decide)) rfl (pa_cons (pe_op op_mul pe_int (pv 9)) (pa_cons (pe_op op_mul pe_int (pv 10)) pa_nil))))) pa_nil))))
  (pss_cons (ps_set (i := 12) sc_law.nd rfl (by first | exact Or.inl rfl | exact Or.inr rfl) (pe_cal (c_law_put_in T) (hr.mono (by decide)) rfl (pa_cons (pv 6) pa_nil)))
  (pss_cons (ps_for PassesOwn.never rfl (ki_tup (K := K) rfl (pe_tup (pa_cons (pv 8) (pa_cons (pe_callTy (r := rTupOf K) call_tuple_of (by rfl) T.f_tuple boot_tuple (pa_cons (pv 8) pa_nil)) (pa_cons (krevL (K := K) rfl (pv 8)) (pa_cons (pe_op op_cat (pv 8) (pv 8)) pa_nil)))))) (pg_name (i := 13) sc_law.nd rfl (by first | exact Or.inl rfl | exact Or.inr rfl)) (pss_cons (ps_set (i := 14) sc_law.nd rfl (by first | exact Or.inl rfl | exact Or.inr rfl) (pe_cal (c_ascending_points T) (hr.mono (by decide)) rfl (pa_cons (pv 13) pa_nil)))
  (pss_one (ps_if (PW.pt (pw_or (pt_not (pt_val (pe_callB (r := rIsi K) call_isi (by rfl) T.f_isinstance boot_isinstance (pa_cons (pv 14) (pa_cons (pe_bltn (v := .ty "tuple") rfl T.f_tuple boot_tuple rfl) pa_nil))))) (pw_or (pt_cmpR (op_neDK (K := K) rfl hr.units) (pe_lc (own := [("point", 11)]) rfl sc_law.nd (ki_tup (K := K) rfl (pv 14)) (blkOk_by (N := ["script", "pen", "turn", "wide", "pool", "lap", "points", "spot", "told", "top", "bottom", "point", "due", "some", "found", "one", "single", "names", "pairs", "name", "pair", "other", "more", "both"]) (sc := defScope s_law) (by decide +kernel)) (fun _ _ _ _ _ => (pg_name (i := 11) sc_law.nd rfl (by first | exact Or.inl rfl | exact Or.inr rfl))) (fun _ _ _ _ _ => pts_nil) (fun _ _ _ _ _ => (pe_callTy (r := rTupOf K) call_tuple_of (by rfl) T.f_tuple boot_tuple (pa_cons (pe_lc (own := [("one", 15)]) rfl sc_law.nd (ki_tup (K := K) rfl (pv 11)) (blkOk_by (N := ["script", "pen", "turn", "wide", "pool", "lap", "points", "spot", "told", "top", "bottom", "point", "due", "some", "found", "one", "single", "names", "pairs", "name", "pair", "other", "more", "both"]) (sc := relS _ (defScope s_law)) (by decide +kernel)) (fun _ _ _ _ _ => (pg_name (i := 15) sc_law.nd rfl (by first | exact Or.inl rfl | exact Or.inr rfl))) (fun _ _ _ _ _ => pts_nil) (fun _ _ _ _ _ => (pe_cal (c_law_pair T) (hr.mono (by decide)) rfl (pa_cons (pv 15) pa_nil)))) pa_nil)))) (pv 12) (nomark _)) (pw_or1 (pt_cmpR (op_neId (K := K) rfl hr.units0) (pe_calK (k_ascending_points T) (hr.mono (by decide)) rfl (pk_cons (pv 14) pk_nil)) (pv 14) (nomark _)))))) (pss_one (ps_ret pe_bl)) pss_nil))))
  (pss_cons (ps_set (i := 16) sc_law.nd rfl (by first | exact Or.inl rfl | exact Or.inr rfl) (pe_cal (c_ascending_ratios T) (hr.mono (by decide)) rfl (pa_cons (pe_cal (c_law_pick (R := (rSq K (rRi C))) T) (hr.mono (by decide)) rfl (pa_cons (pv 1) (pa_cons (pe_lst (pa_cons (pe_lc (own := [("point", 11)]) rfl sc_law.nd (ki_list (K := K) rfl (pv 8)) (blkOk_by (N := ["script", "pen", "turn", "wide", "pool", "lap", "points", "spot", "told", "top", "bottom", "point", "due", "some", "found", "one", "single", "names", "pairs", "name", "pair", "other", "more", "both"]) (sc := defScope s_law) (by decide +kernel)) (fun _ _ _ _ _ => (pg_name (i := 11) sc_law.nd rfl (by first | exact Or.inl rfl | exact Or.inr rfl))) (fun _ _ _ _ _ => pts_nil) (fun _ _ _ _ _ => (pe_ix (ix_tupK (K := K) rfl) (pv 11) pe_int (fun _ _ => rfl)))) (pa_cons (pe_callTy (r := rTupOf K) call_tuple_of (by rfl) T.f_tuple boot_tuple (pa_cons (pe_lc (own := [("point", 11)]) rfl sc_law.nd (ki_list (K := K) rfl (pv 8)) (blkOk_by (N := ["script", "pen", "turn", "wide", "pool", "lap", "points", "spot", "told", "top", "bottom", "point", "due", "some", "found", "one", "single", "names", "pairs", "name", "pair", "other", "more", "both"]) (sc := defScope s_law) (by decide +kernel)) (fun _ _ _ _ _ => (pg_name (i := 11) sc_law.nd rfl (by first | exact Or.inl rfl | exact Or.inr rfl))) (fun _ _ _ _ _ => pts_nil) (fun _ _ _ _ _ => (pe_ix (ix_tupK (K := K) rfl) (pv 11) pe_int (fun _ _ => rfl)))) pa_nil)) pa_nil))) pa_nil))) pa_nil)))
  (pss_cons (ps_if (PW.pt (pw_or (pt_not (pt_val (pe_callB (r := rIsi K) call_isi (by rfl) T.f_isinstance boot_isinstance (pa_cons (pv 16) (pa_cons (pe_bltn (v := .ty "tuple") rfl T.f_tuple boot_tuple rfl) pa_nil))))) (pw_or1 (pt_cmpR (op_neDK (K := K) rfl hr.units) (pe_lc (own := [("one", 15)]) rfl sc_law.nd (ki_tup (K := K) rfl (pv 16)) (blkOk_by (N := ["script", "pen", "turn", "wide", "pool", "lap", "points", "spot", "told", "top", "bottom", "point", "due", "some", "found", "one", "single", "names", "pairs", "name", "pair", "other", "more", "both"]) (sc := defScope s_law) (by decide +kernel)) (fun _ _ _ _ _ => (pg_name (i := 15) sc_law.nd rfl (by first | exact Or.inl rfl | exact Or.inr rfl))) (fun _ _ _ _ _ => pts_nil) (fun _ _ _ _ _ => (pe_cal (c_law_pair T) (hr.mono (by decide)) rfl (pa_cons (pv 15) pa_nil)))) (pe_lc (own := [("point", 11)]) rfl sc_law.nd (ki_list (K := K) rfl (pe_cal (c_law_put_in T) (hr.mono (by decide)) rfl (pa_cons (pe_lc (own := [("point", 11)]) rfl sc_law.nd (ki_list (K := K) rfl (pv 6)) (blkOk_by (N := ["script", "pen", "turn", "wide", "pool", "lap", "points", "spot", "told", "top", "bottom", "point", "due", "some", "found", "one", "single", "names", "pairs", "name", "pair", "other", "more", "both"]) (sc := defScope s_law) (by decide +kernel)) (fun _ _ _ _ _ => (pg_name (i := 11) sc_law.nd rfl (by first | exact Or.inl rfl | exact Or.inr rfl))) (fun _ _ _ _ _ => pts_nil) (fun _ _ _ _ _ => (pe_slice (sl_tupK (K := K) rfl) (pv 11) po_none (po_some pe_int)))) pa_nil))) (blkOk_by (N := ["script", "pen", "turn", "wide", "pool", "lap", "points", "spot", "told", "top", "bottom", "point", "due", "some", "found", "one", "single", "names", "pairs", "name", "pair", "other", "more", "both"]) (sc := defScope s_law) (by decide +kernel)) (fun _ _ _ _ _ => (pg_name (i := 11) sc_law.nd rfl (by first | exact Or.inl rfl | exact Or.inr rfl))) (fun _ _ _ _ _ => pts_nil) (fun _ _ _ _ _ => (pe_ix (ix_tupK (K := K) rfl) (pv 11) pe_int (fun _ _ => rfl)))) (nomark _))))) (pss_one (ps_ret pe_bl)) pss_nil)
  (pss_one (ps_if (pt_cmpR (op_neId (K := K) rfl hr.units0) (pe_calK (k_ascending_ratios T) (hr.mono (by decide)) rfl (pk_cons (krevT (K := K) rfl (pv 16)) pk_nil)) (pv 16) (nomark _)) (pss_one (ps_ret pe_bl)) pss_nil)))))))))))
  (pss_cons (ps_for PassesOwn.never rfl (pi_range1 rfl T.f_range (pa_cons pe_int pa_nil)) (pg_name (i := 2) sc_law.nd rfl (by first | exact Or.inl rfl | exact Or.inr rfl)) (pss_cons (ps_set (i := 17) sc_law.nd rfl (by first | exact Or.inl rfl | exact Or.inr rfl) (pe_callB (r := rSortedS K) cr_sortedS (by rfl) T.f_sorted boot_sorted (pa_cons (pe_slice (sl_listK (K := K) rfl) (pe_cal (c_law_mixed (R := rStr) T) (hr.mono (by decide)) rfl (pa_cons (pv 1) (pa_cons (pe_lst (pa_cons pe_str (pa_cons pe_str (pa_cons pe_str (pa_cons pe_str (pa_cons pe_str pa_nil)))))) pa_nil))) po_none (po_some (pe_op op_add pe_int (pe_cal (c_law_draw T) (hr.mono (by decide)) rfl (pa_cons (pv 1) (pa_cons pe_int pa_nil)))))) pa_nil)))
  (pss_cons (ps_setLc (i := 18) (own := [("name", 19)]) rfl sc_law.nd rfl rfl (sw_true rfl rfl rfl (by decide +kernel)) (ki_list (K := K) rfl (pv 17)) (blkOk_by (N := ["script", "pen", "turn", "wide", "pool", "lap", "points", "spot", "told", "top", "bottom", "point", "due", "some", "found", "one", "single", "names", "pairs", "name", "pair", "other", "more", "both"]) (sc := defScope s_law) (by decide +kernel)) (fun _ _ _ _ _ => (pg_name (i := 19) sc_law.nd rfl (by first | exact Or.inl rfl | exact Or.inr rfl))) (fun _ _ _ _ _ => pts_nil) (fun _ _ _ _ _ => (pe_cal (c_law_drawn_pair T) (hr.mono (by decide)) rfl (pa_cons (pv 1) pa_nil))))
  (pss_cons (ps_set (i := 11) sc_law.nd rfl (by first | exact Or.inl rfl | exact Or.inr rfl) (pe_callTy (r := rTupOf K) call_tuple_of (by rfl) T.f_tuple boot_tuple (pa_cons (pe_lc (own := [("pair", 20)]) rfl sc_law.nd (ki_list (K := K) rfl (pv 18)) (blkOk_by (N := ["script", "pen", "turn", "wide", "pool", "lap", "points", "spot", "told", "top", "bottom", "point", "due", "some", "found", "one", "single", "names", "pairs", "name", "pair", "other", "more", "both"]) (sc := defScope s_law) (by decide +kernel)) (fun _ _ _ _ _ => (pg_name (i := 20) sc_law.nd rfl (by first | exact Or.inl rfl | exact Or.inr rfl))) (fun _ _ _ _ _ => pts_nil) (fun _ _ _ _ _ => (pe_cal (c_law_ratio T) (hr.mono (by decide)) rfl (pa_cons (pv 20) pa_nil)))) pa_nil)))
  (pss_cons (ps_asg (pe_tup (pa_cons (pe_cal (c_law_form T) (hr.mono (by decide)) rfl (pa_cons (pv 1) (pa_cons (pv 17) (pa_cons (pe_op op_pow pe_int pe_int) pa_nil)))) (pa_cons (pe_cal (c_law_form T) (hr.mono (by decide)) rfl (pa_cons (pv 1) (pa_cons (pe_op op_cat (pv 17) (pe_lst (pa_cons pe_str pa_nil))) (pa_cons pe_int pa_nil)))) pa_nil))) (kgtup (K := K) (n := 2) rfl rfl (pgs_cons (pg_name (i := 15) sc_law.nd rfl (by first | exact Or.inl rfl | exact Or.inr rfl)) (pgs_cons (pg_name (i := 21) sc_law.nd rfl (by first | exact Or.inl rfl | exact Or.inr rfl)) pgs_nil))))
  (pss_cons (ps_set (i := 12) sc_law.nd rfl (by first | exact Or.inl rfl | exact Or.inr rfl) (pe_tup (pa_cons pe_int (pa_cons pe_int pa_nil))))
  (pss_cons (ps_for PassesOwn.never rfl (ki_zip (K := K) rfl rfl T.f_zip (pa_cons (pv 17) (pa_cons (pv 18) pa_nil))) (kgtup (K := K) (n := 2) rfl rfl (pgs_cons (pg_name (i := 19) sc_law.nd rfl (by first | exact Or.inl rfl | exact Or.inr rfl)) (pgs_cons (pg_name (i := 20) sc_law.nd rfl (by first | exact Or.inl rfl | exact Or.inr rfl)) pgs_nil))) (pss_one (ps_set (i := 12) sc_law.nd rfl (by first | exact Or.inl rfl | exact Or.inr rfl) (pe_cal (c_law_plus T) (hr.mono (by decide)) rfl (pa_cons (pv 12) (pa_cons (pe_tup (pa_cons (pe_op op_mulW (pe_ix (ix_tupK (K := K) rfl) (pv 20) pe_int (fun _ _ => rfl)) (pe_dget2 (hu_of hr) (pv 15) (pv 19) pe_int ⟨rfl, rfl, rfl, rfl⟩)) (pa_cons (pe_ix (ix_tupK (K := K) rfl) (pv 20) pe_int (fun _ _ => rfl)) pa_nil))) pa_nil))))))
  (pss_cons (ps_if (PW.pt (pw_or (pt_val (pe_calG (c_law_unlike T) (hr.mono (by decide)) hgd rfl (pa_cons (pe_cal (c_law_pair T) (hr.mono (by decide)) rfl (pa_cons (pe_cal (c_at_form T) (hr.mono (by decide)) rfl (pa_cons (pv 15) (pa_cons (pe_callTy (r := rTupOf K) call_tuple_of (by rfl) T.f_tuple boot_tuple (pa_cons (pv 17) pa_nil)) (pa_cons (pv 11) pa_nil)))) pa_nil)) (pa_cons (pv 12) pa_nil)))) (pw_or1 (pt_cmpR (op_neDK (K := K) rfl hr.units) (pe_cal (c_law_pair T) (hr.mono (by decide)) rfl (pa_cons (pe_calK (k_at_form T) (hr.mono (by decide)) rfl (pk_cons (pv 11) (pk_cons (pe_callTy (r := rTupOf K) call_tuple_of (by rfl) T.f_tuple boot_tuple (pa_cons (pv 17) pa_nil)) (pk_cons (pv 15) pk_nil)))) pa_nil)) (pv 12) (nomark _))))) (pss_one (ps_ret pe_bl)) pss_nil)
  (pss_cons (ps_set (i := 22) sc_law.nd rfl (by first | exact Or.inl rfl | exact Or.inr rfl) (pe_callTy (r := rDictD) call_dictD (by rfl) T.f_dict boot_dict (pa_cons (pv 15) pa_nil)))
  (pss_cons (ps_dput (hu_of hr) (pv 22) pe_str pe_int rfl)
  (pss_cons (ps_set (i := 23) sc_law.nd rfl (by first | exact Or.inl rfl | exact Or.inr rfl) (pe_callTy (r := rDictP K) (call_dictP rfl) (by rfl) T.f_dict boot_dict (pa_cons (pe_lc (own := [("name", 19)]) rfl sc_law.nd (ki_list (K := K) rfl (pe_op op_cat (pv 17) (pe_lst (pa_cons pe_str pa_nil)))) (blkOk_by (N := ["script", "pen", "turn", "wide", "pool", "lap", "points", "spot", "told", "top", "bottom", "point", "due", "some", "found", "one", "single", "names", "pairs", "name", "pair", "other", "more", "both"]) (sc := defScope s_law) (by decide +kernel)) (fun _ _ _ _ _ => (pg_name (i := 19) sc_law.nd rfl (by first | exact Or.inl rfl | exact Or.inr rfl))) (fun _ _ _ _ _ => (pts_one (pt_cmpR op_ne (pe_op op_add (pe_dget2 (hu_of hr) (pv 15) (pv 19) pe_int ⟨rfl, rfl, rfl, rfl⟩) (pe_dget2 (hu_of hr) (pv 21) (pv 19) pe_int ⟨rfl, rfl, rfl, rfl⟩)) pe_int (nomark _)))) (fun _ _ _ _ _ => (pe_tup (pa_cons (pv 19) (pa_cons (pe_op op_add (pe_dget2 (hu_of hr) (pv 15) (pv 19) pe_int ⟨rfl, rfl, rfl, rfl⟩) (pe_dget2 (hu_of hr) (pv 21) (pv 19) pe_int ⟨rfl, rfl, rfl, rfl⟩)) pa_nil))))) pa_nil)))
  (pss_cons (ps_if (pt_cmpR (op_ownNe (o_eq T) (hr.mono (by decide)) T.ne T.obj) (pe_cal (c_at_form T) (hr.mono (by decide)) rfl (pa_cons (pv 22) (pa_cons (pe_callTy (r := rTupOf K) call_tuple_of (by rfl) T.f_tuple boot_tuple (pa_cons (pv 17) pa_nil)) (pa_cons (pv 11) pa_nil)))) (pe_cal (c_law_ratio T) (hr.mono (by decide)) rfl (pa_cons (pv 12) pa_nil)) (nomark _)) (pss_one (ps_ret pe_bl)) pss_nil)
  (pss_cons (ps_if (PW.pt (pw_and (pt_cmpR (op_neD0 hr.units0) (pv 23) pe_dnewK (nomark _)) (pw_and1 (pt_cmpR (op_ownNe (o_eq T) (hr.mono (by decide)) T.ne T.obj) (pe_cal (c_at_form T) (hr.mono (by decide)) rfl (pa_cons (pv 23) (pa_cons (pe_callTy (r := rTupOf K) call_tuple_of (by rfl) T.f_tuple boot_tuple (pa_cons (pv 17) pa_nil)) (pa_cons (pv 11) pa_nil)))) (pe_op (op_ownB (o_add T) (hr.mono (by decide)) rfl) (pe_cal (c_at_form T) (hr.mono (by decide)) rfl (pa_cons (pv 15) (pa_cons (pe_callTy (r := rTupOf K) call_tuple_of (by rfl) T.f_tuple boot_tuple (pa_cons (pv 17) pa_nil)) (pa_cons (pv 11) pa_nil)))) (pe_cal (c_at_form T) (hr.mono (by decide)) rfl (pa_cons (pv 21) (pa_cons (pe_callTy (r := rTupOf K) call_tuple_of (by rfl) T.f_tuple boot_tuple (pa_cons (pv 17) pa_nil)) (pa_cons (pv 11) pa_nil))))) (nomark _))))) (pss_one (ps_ret pe_bl)) pss_nil)
  (pss_one (ps_if (pt_cmpR (op_ownNe (o_eq T) (hr.mono (by decide)) T.ne T.obj) (pe_cal (c_at_form T) (hr.mono (by decide)) rfl (pa_cons (pe_callTy (r := rDictP K) (call_dictP rfl) (by rfl) T.f_dict boot_dict (pa_cons (pe_lock (pe_lc (own := [("name", 19)]) rfl sc_law.nd (pi_keys (pv 15)) (blkOk_by (N := ["script", "pen", "turn", "wide", "pool", "lap", "points", "spot", "told", "top", "bottom", "point", "due", "some", "found", "one", "single", "names", "pairs", "name", "pair", "other", "more", "both"]) (sc := defScope s_law) (by decide +kernel)) (fun _ _ _ _ _ => (pg_name (i := 19) sc_law.nd rfl (by first | exact Or.inl rfl | exact Or.inr rfl))) (fun _ _ _ _ _ => pts_nil) (fun _ _ _ _ _ => (pe_tup (pa_cons (pv 19) (pa_cons (pe_op op_mul (pe_un un_neg pe_int) (pe_dget (hu_of hr) (pv 15) (pv 19) (fun _ _ => rfl))) pa_nil)))))) pa_nil)) (pa_cons (pe_callTy (r := rTupOf K) call_tuple_of (by rfl) T.f_tuple boot_tuple (pa_cons (pv 17) pa_nil)) (pa_cons (pv 11) pa_nil)))) (pe_op (op_multI T (hr.mono (by decide))) (pe_cal (c_at_form T) (hr.mono (by decide)) rfl (pa_cons (pv 15) (pa_cons (pe_callTy (r := rTupOf K) call_tuple_of (by rfl) T.f_tuple boot_tuple (pa_cons (pv 17) pa_nil)) (pa_cons (pv 11) pa_nil)))) (pe_un un_neg pe_int)) (nomark _)) (pss_one (ps_ret pe_bl)) pss_nil)))))))))))))))
  (pss_one (ps_ret (pe_and (pe_cmpR (op_eqDK (K := K) rfl hr.units) (pe_cal (c_ascending_points T) (hr.mono (by decide)) rfl (pa_cons (pe_lst pa_nil) pa_nil)) (pe_tup pa_nil) (nomark _)) (pe_and (pe_cmpR (op_eqDK (K := K) rfl hr.units) (pe_cal (c_ascending_ratios T) (hr.mono (by decide)) rfl (pa_cons (pe_tup pa_nil) pa_nil)) (pe_tup pa_nil) (nomark _)) (pe_and (pe_cmpR (op_ownEq (o_eq T) (hr.mono (by decide))) (pe_cal (c_at_form T) (hr.mono (by decide)) rfl (pa_cons (pe_disp (pps_cons pe_str pe_int pps_nil) (by rfl) (by rfl) (fun z => by cases z) (by decide)) (pa_cons (pe_tup pa_nil) (pa_cons (pe_tup pa_nil) pa_nil)))) (pe_mkC (mk_Ratio_d T) (hr.mono (by decide)) rfl (pa_cons pe_int pa_nil)) (nomark _)) (pe_one (pe_cmpR (op_eqTR T (hr.mono (by decide))) (pe_cal (c_ascending_ratios T) (hr.mono (by decide)) rfl (pa_cons (pe_lst (pa_cons (pe_mkC (mk_Ratio T) (hr.mono (by decide)) rfl (pa_cons pe_int (pa_cons pe_int pa_nil))) (pa_cons (pe_mkC (mk_Ratio T) (hr.mono (by decide)) rfl (pa_cons pe_int (pa_cons pe_int pa_nil))) pa_nil))) pa_nil)) (pe_tup (pa_cons (pe_mkC (mk_Ratio T) (hr.mono (by decide)) rfl (pa_cons pe_int (pa_cons pe_int pa_nil))) pa_nil)) (nomark _))))))))))),
    fun l hp => by
      have big : (2 : Int) ^ 64 < 2 ^ 8000 := by decide +kernel
      refine s_penStart rfl fun I hI => ?_
      -- the first eight turns
      refine s_mid (fun Γ n => Γ.length = 24 ∧ Γ[0]? = some (some (.mk (rSql K rInt) l)) ∧ Γ[1]? = some (some (.mk (rPen K I) ())) ∧ 0 ≤ n.1 ∧ n.1 ≤ 480) ?_ ?_
      · refine s_for (is := [2]) <| i_range <| a_cons <| w_int <| a_nil ⟨8, rfl, by decide, by decide, fun pre Γ n => Γ.length = 24 ∧ Γ[0]? = some (some (.mk (rSql K rInt) l)) ∧ Γ[1]? = some (some (.mk (rPen K I) ())) ∧ 0 ≤ n.1 ∧ n.1 ≤ 60 * pre.length, ⟨rfl, rfl, rfl, by decide, by decide⟩, ?_, ?_⟩
        · rintro pre x post Γ' n0 hl ⟨e0, e1, e2, e3, e4⟩
          have hpre : pre.length < 8 := rangeL_lt (k := 8) hl
          obtain ⟨g, rfl⟩ := ex22 e0 e1 e2
          refine tg_name <| s_seq <| s_set <| w_op0 o_int <| w_int <| w_callS I <| a_cons <| w_var rfl <| a_cons <| w_int <| a_nil ⟨4, rfl, ⟨e3, by omega, by omega⟩, fun wd0 n1 h1 => ?_⟩
          obtain ⟨⟨b0, b1⟩, b2, b3, _⟩ := h1
          have b3 := b3 (by decide)
          -- pool
          refine s_seq <| s_set <| w_lc (K := K) (is := [5]) (R := rInt) (S := rPq K) <| i_range <| a_cons <| w_int <| a_nil ⟨5, rfl, by decide, by decide, by rw [show (5 : Int).toNat = 5 from rfl, rangeL_len]; decide, fun pre2 (ys : List Rat) m => (∀ q ∈ ys, okB q) ∧ ys.length = pre2.length ∧ n1.1 ≤ m.1 ∧ m.1 ≤ n1.1 + 2 * pre2.length, ⟨(fun _ h => by cases h), rfl, by omega, by simp⟩, ?_, ?_⟩
          · rintro pre2 y post2 ys m hl2 ⟨c1, c2, c3, c4⟩
            have hp2 : pre2.length < 5 := rangeL_lt (k := 5) hl2
            refine tg_name <| t_yes ⟨fun _ => w_callS I <| a_cons <| w_var rfl <| a_nil ⟨(), rfl, ⟨by omega, by omega⟩, fun q m2 hq => ?_⟩, fun z => by cases z⟩
            obtain ⟨q1, q2, q3⟩ := hq
            refine ⟨fun z hz => ?_, ?_, by omega, ?_⟩
            · rcases List.mem_append.mp hz with hz | hz
              · exact c1 z hz
              · rw [List.mem_singleton.mp hz]; exact q1
            · rw [List.length_append, List.length_append, c2]; rfl
            · rw [List.length_append]; simp only [List.length_cons, List.length_nil]; omega
          rintro pool n2 _ ⟨c1, c2, c3, c4⟩
          have c2 : pool.length = 5 := by rw [c2]; exact rangeL_len 5
          rw [show (rangeL 0 (5 : Int).toNat).length = 5 from rangeL_len 5] at c4
          have pool0 : pool ≠ [] := fun z => by rw [z] at c2; cases c2
          -- points
          refine s_seq <| s_set <| w_lc (K := K) (is := [5]) (R := rInt) (S := rTup K (rPq K)) <| i_range <| a_cons <| w_callS I <| a_cons <| w_var rfl <| a_cons <| w_int <| a_nil ⟨9, rfl, ⟨by omega, by omega, by omega⟩, fun cnt n3 h3 => a_nil ⟨cnt, rfl, ?_, ?_, ?_, fun pre2 (ys : List (List Rat)) m => (∀ p ∈ ys, p.length = (1 + wd0).toNat ∧ ∀ q ∈ p, okB q) ∧ ys.length = pre2.length ∧ n3.1 ≤ m.1 ∧ m.1 ≤ n3.1 + 4 * pre2.length, ⟨(fun _ h => by cases h), rfl, by omega, by simp⟩, ?_, ?_⟩⟩
          · obtain ⟨_, q2, _⟩ := h3; omega
          · obtain ⟨_, _, q3, _⟩ := h3; have := q3 (by decide); omega
          · obtain ⟨_, q2, q3, _⟩ := h3; have := q3 (by decide); rw [rangeL_len]; show _ ≤ bigN; unfold bigN; omega
          · rintro pre2 y post2 ys m hl2 ⟨d1, d2, d3, d4⟩
            obtain ⟨⟨q0, q1⟩, q2, q3, _⟩ := h3
            have q3 := q3 (by decide)
            have hp2 : pre2.length < cnt.toNat := rangeL_lt hl2
            refine tg_name <| t_yes ⟨fun _ => w_cb <| a_cons <| w_lc (K := K) (is := [7]) (R := rInt) (S := rPq K) <| i_range <| a_cons <| w_var rfl <| a_nil ⟨1 + wd0, rfl, by omega, by omega, ?_, fun pre3 (zs : List Rat) m3 => (∀ q ∈ zs, okB q) ∧ zs.length = pre3.length ∧ m.1 ≤ m3.1 ∧ m3.1 ≤ m.1 + pre3.length, ⟨(fun _ h => by cases h), rfl, by omega, by simp⟩, ?_, ?_⟩, fun z => by cases z⟩
            · rw [rangeL_len]; show _ ≤ bigN; unfold bigN; omega
            · rintro pre3 y3 post3 zs m3 hl3 ⟨f1, f2, f3, f4⟩
              have hp3 : pre3.length < (1 + wd0).toNat := rangeL_lt hl3
              refine tg_name <| t_yes ⟨fun _ => w_callS I <| a_cons <| w_var rfl <| a_cons <| w_var rfl <| a_nil ⟨pool, rfl, ⟨pool0, by omega, by omega, by omega⟩, fun q m4 hq => ?_⟩, fun z => by cases z⟩
              obtain ⟨k1, k2, k3⟩ := hq
              refine ⟨fun z hz => ?_, ?_, by omega, ?_⟩
              · rcases List.mem_append.mp hz with hz | hz
                · exact f1 z hz
                · rw [List.mem_singleton.mp hz]; exact c1 q k1
              · rw [List.length_append, List.length_append, f2]; rfl
              · rw [List.length_append]; simp only [List.length_cons, List.length_nil]; omega
            · rintro zs m3 _ ⟨f1, f2, f3, f4⟩
              rw [rangeL_len] at f2 f4
              refine a_nil ⟨_, c_tupL, fun p hp => ?_, ?_, by omega, ?_⟩
              · rcases List.mem_append.mp hp with hp | hp
                · exact d1 p hp
                · rw [List.mem_singleton.mp hp]; exact ⟨f2, f1⟩
              · rw [List.length_append, List.length_append, d2]; rfl
              · rw [List.length_append]; simp only [List.length_cons, List.length_nil]; omega
          rintro pts n4 _ ⟨d1, d2, d3, d4⟩
          obtain ⟨⟨q0, q1⟩, q2, q3, _⟩ := h3
          have q3 := q3 (by decide)
          rw [rangeL_len] at d2 d4
          have ptsLen : pts.length ≤ 8 := by omega
          have ptsWd : Wd (1 + wd0).toNat pts := fun p hp => (d1 p hp).1
          -- told
          refine s_seq <| s_set <| w_lc (K := K) (is := [11]) (R := rTup K (rPq K)) (S := rPt K C) <| i_list <| w_var rfl ⟨by show _ ≤ bigN; unfold bigN; omega, fun pre2 (ys : List Pt) m => ys.map vl = pre2 ∧ m = n4, ⟨rfl, rfl⟩, ?_, ?_⟩
          · rintro pre2 p post2 ys m hl2 ⟨f1, rfl⟩
            have hpm : p ∈ pts := by rw [hl2]; simp
            refine tg_name <| t_yes ⟨fun _ => w_id <| w_cb <| a_cons <| w_lc (K := K) (is := [9] ++ [10]) (R := rPq K) (S := rRi C) <| i_tup <| w_var rfl ⟨?_, fun pre3 (zs : List (V × Rat)) m3 => zs.map (·.2) = pre3 ∧ m3 = m, ⟨rfl, rfl⟩, ?_, ?_⟩, fun z => by cases z⟩
            · have := (d1 p hpm).1; show _ ≤ bigN; unfold bigN; omega
            · rintro pre3 q post3 zs m3 hl3 ⟨k1, rfl⟩
              have hqo := (d1 p hpm).2 q (by rw [hl3]; simp)
              have hden := hqo.2.2
              refine tg_pq <| t_yes ⟨fun _ => w_id <| w_ratio <| a_cons <| w_op o_intC <| w_int <| w_var rfl ⟨.inl ⟨by decide, by decide⟩, a_cons <| w_op o_intC <| w_int <| w_var rfl ⟨.inl ⟨by decide, by decide⟩, a_nil ⟨_, _, rfl, ⟨?_, ?_⟩, fun u => ⟨?_, rfl⟩⟩⟩⟩, fun z => by cases z⟩
              · have := den_pos q; omega
              · refine PySem.Flt.log2_lt_of (by decide) ?_
                have h90 : (2 : Nat) ^ 90 < 2 ^ 9000 := Nat.pow_lt_pow_right (by decide) (by decide)
                rw [Int.natAbs_mul, Int.natAbs_natCast]
                have h3a : (3 : Int).natAbs = 3 := rfl
                rw [h3a]
                omega
              · show (zs ++ [(u, Rat.divInt (3 * q.num) (3 * (q.den : Int)))]).map (·.2) = pre3 ++ [q]
                rw [List.map_append, k1, low3]; rfl
            · rintro zs m3 _ ⟨k1, rfl⟩
              refine a_nil ⟨_, c_tupL, fun u => ⟨?_, rfl⟩⟩
              show (ys ++ [(u, zs)]).map vl = pre2 ++ [p]
              rw [List.map_append, f1]
              show _ ++ [zs.map (·.2)] = _
              rw [k1]
          rintro told n5 _ ⟨toldV, rfl⟩
          -- due
          have okAll : ∀ p ∈ pts, SzL p := fun p hp q hq => ((d1 p hp).2 q hq).2.mono (by decide)
          refine s_seq <| s_set <| w_callP <| a_cons <| w_var rfl <| a_nil ⟨pts, rfl, ⟨by omega, okAll⟩, fun due hdue => ?_⟩
          have hdue : due = putIn pts := hdue
          subst hdue
          have toldLen : told.length = pts.length := by rw [← toldV, List.length_map]
          have toldOk : ∀ p ∈ told, (vl p).length = (1 + wd0).toNat ∧ ∀ q ∈ vl p, okB q := fun p hp => d1 _ (by rw [← toldV]; exact List.mem_map_of_mem hp)
          refine s_mid (fun Γ m => (∃ o13 o14, Γ = [some (.mk (rSql K rInt) l), some (.mk (rPen K I) ()), some (.mk rInt x), some (.mk rInt (1 + wd0)), some (.mk (rLst K (rPq K)) pool), g 5, some (.mk (rLst K (rTup K (rPq K))) pts), g 7, some (.mk (rLst K (rPt K C)) told), g 9, g 10, g 11, some (.mk (rLst K (rTup K (rPq K))) (putIn pts)), o13, o14, g 15, g 16, g 17, g 18, g 19, g 20, g 21, g 22, g 23]) ∧ m = n5) ?_ ?_
          · refine s_for (is := [13]) (R := rSq K (rPt K C)) <| i_tup <| w_tup (K := K) (R := rSq K (rPt K C)) <| a_cons <| w_sqL (K := K) <| w_var rfl <| a_cons <| w_sqT (K := K) <| w_cb <| a_cons <| w_var rfl <| a_nil ⟨_, c_tupL, a_cons <| w_sqL (K := K) <| w_revL <| w_var rfl <| a_cons <| w_sqL (K := K) <| w_cat <| w_var rfl <| w_var rfl ⟨?_, a_nil ⟨[told, told, told.reverse, told ++ told], rfl, (show 4 ≤ bigN by decide), fun pre2 Γ m => (∃ o13 o14, Γ = [some (.mk (rSql K rInt) l), some (.mk (rPen K I) ()), some (.mk rInt x), some (.mk rInt (1 + wd0)), some (.mk (rLst K (rPq K)) pool), g 5, some (.mk (rLst K (rTup K (rPq K))) pts), g 7, some (.mk (rLst K (rPt K C)) told), g 9, g 10, g 11, some (.mk (rLst K (rTup K (rPq K))) (putIn pts)), o13, o14, g 15, g 16, g 17, g 18, g 19, g 20, g 21, g 22, g 23]) ∧ m = n5, ⟨⟨_, _, rfl⟩, rfl⟩, ?_, ?_⟩⟩⟩
            · show _ ≤ bigN; unfold bigN; omega
            · rintro pre2 some post2 Γ2 m hl2 ⟨⟨o13, o14, rfl⟩, rfl⟩
              have hsome : some.length ≤ 100 ∧ ∀ p, p ∈ some ↔ p ∈ told := by
                have hm : some ∈ [told, told, told.reverse, told ++ told] := by rw [hl2]; simp
                simp only [List.mem_cons, List.not_mem_nil, or_false] at hm
                rcases hm with rfl | rfl | rfl | rfl
                · exact ⟨by omega, fun _ => Iff.rfl⟩
                · exact ⟨by omega, fun _ => Iff.rfl⟩
                · exact ⟨by rw [List.length_reverse]; omega, fun _ => List.mem_reverse⟩
                · exact ⟨by rw [List.length_append]; omega, fun p => by simp⟩
              obtain ⟨s1, s2⟩ := hsome
              refine tg_name <| s_seq <| s_set <| w_callP <| a_cons <| w_var rfl <| a_nil ⟨some, rfl, ⟨(1 + wd0).toNat, by omega, by omega, s1, fun p hp => toldOk p ((s2 p).mp hp)⟩, fun found hf => ?_⟩
              have same : found.map vl = putIn pts := asc_putIn ptsWd hf (fun p hp => by rw [← toldV]; exact List.mem_map_of_mem ((s2 p).mp hp)) (fun q hq => by
                rw [← toldV] at hq
                obtain ⟨p, hp, e⟩ := List.mem_map.mp hq
                exact ⟨p, (s2 p).mpr hp, e⟩)
              have foundIn : ∀ p ∈ found, p ∈ told := fun p hp => (s2 p).mp (hf.sub p hp)
              have foundLen : found.length ≤ 100 := Nat.le_trans hf.len s1
              refine s_if <| t_or <| t_not <| t_B <| w_cb <| a_cons <| w_var rfl <| a_cons <| w_ty <| a_nil ⟨true, c_isiT ty_tup T.kitTT, fun _ => ?_, fun z => by cases z⟩
              refine t_or <| t_test <| w_op0 (o_neD (dat_lst (dat_tup dat_pq)) (by decide) (eq_lst (eq_tup eq_pq))) <| w_lc_map (K := K) (is := [11]) (S := rTup K (rPq K)) vl <| i_tup <| w_var rfl ⟨by show _ ≤ bigN; unfold bigN; omega, fun p hp => ?_, w_var rfl ⟨fun _ => ?_, fun z => ?_⟩⟩
              · refine tg_name <| w_cb <| a_cons <| w_lc_map (K := K) (is := [15]) (S := rPq K) (fun r : V × Rat => r.2) <| i_tup <| w_of <| w_var rfl ⟨?_, fun r hr => ?_, a_nil ⟨_, c_tupL, rfl, rfl⟩⟩
                · have := (toldOk p (foundIn p hp)).1
                  unfold vl at this
                  rw [List.length_map] at this
                  show _ ≤ bigN
                  unfold bigN
                  omega
                · exact tg_name <| w_callP <| a_cons <| w_of <| w_var rfl <| a_nil ⟨r.2, rfl, trivial, fun y hy => ⟨hy, rfl⟩⟩
              · refine t_test <| w_neId (R := rTup K (rRi C)) (fun h => let ⟨a, _, e, _⟩ := h; ⟨a, e⟩) <| w_callK (fun es => es) (fun h => h) <| a_cons <| w_sqT (K := K) <| w_var rfl <| a_nil ⟨rfl, found, rfl, ⟨(1 + wd0).toNat, by omega, by omega, foundLen, fun p hp => toldOk p (foundIn p hp)⟩, fun again ha => w_var rfl ⟨asc_same hf (fun _ => Iff.rfl) ha, fun z => (by cases z), fun _ => s_next ⟨⟨_, _, rfl⟩, rfl⟩⟩⟩
              · rw [same] at z
                simp at z
            · rintro Γ2 m ⟨⟨o13, o14, rfl⟩, rfl⟩
              exact ⟨⟨_, _, rfl⟩, rfl⟩
          rintro Γ1 m ⟨⟨o13, o14, rfl⟩, rfl⟩
          have told0 : ∀ p ∈ told, ∃ r rs, p.2 = r :: rs := fun p hp => by
            have := (toldOk p hp).1
            unfold vl at this
            rw [List.length_map] at this
            cases q : p.2 with
            | nil => rw [q] at this; simp at this; omega
            | cons r rs => exact ⟨r, rs, rfl⟩
          have headOk : ∀ (Γ : Gm) (n : Int × Int) (p : Pt), p ∈ told → EvW (mPen I) (tOp (rIxT K) (tVar 11) (tC (.int 0))) (Γ.set 11 (some (.mk (rPt K C) p))) n (rRi C) (fun y n3 => y = p.2.headD (.non, 0) ∧ n3 = n) ∨ ¬ 11 < Γ.length := fun Γ n p hp => by
            by_cases hl : 11 < Γ.length
            · obtain ⟨r, rs, e⟩ := told0 p hp
              refine .inl <| w_opP o_ixT <| w_of <| w_var (List.getElem?_set_self hl) <| w_int ⟨r, ?_, ?_, rfl⟩
              · rw [e]; exact L2.Lc.atI_nat (l := r :: rs) (i := 0) rfl
              · rw [e]; rfl
            · exact .inr hl
          -- single
          refine s_seq <| s_set <| w_callP <| a_cons <| w_callS I <| a_cons <| w_var rfl <| a_cons <| w_lst (K := K) (R := rSq K (rRi C)) <| a_cons <| w_sqL (K := K) <| w_lc_map (K := K) (is := [11]) (S := rRi C) (fun p : Pt => p.2.headD (.non, 0)) <| i_list <| w_var rfl ⟨by show _ ≤ bigN; unfold bigN; omega, fun p hp => ?_, ?_⟩
          · exact tg_name <| (headOk _ _ p hp).resolve_right fun z => z (show 11 < 24 by decide)
          refine a_cons <| w_sqT (K := K) (R := rRi C) <| w_cb <| a_cons <| w_lc_map (K := K) (is := [11]) (S := rRi C) (fun p : Pt => p.2.headD (.non, 0)) <| i_list <| w_var rfl ⟨by show _ ≤ bigN; unfold bigN; omega, fun p hp => ?_, ?_⟩
          · exact tg_name <| (headOk _ _ p hp).resolve_right fun z => z (show 11 < 24 by decide)
          generalize hhs : told.map (fun p : Pt => p.2.headD (.non, 0)) = hs
          have hsLen : hs.length = told.length := by rw [← hhs, List.length_map]
          have hsOk : ∀ r ∈ hs, okB r.2 ∧ ∃ p ∈ told, (vl p).take 1 = [r.2] := fun r hr => by
            rw [← hhs] at hr
            obtain ⟨p, hp, rfl⟩ := List.mem_map.mp hr
            obtain ⟨r, rs, e⟩ := told0 p hp
            have hv : vl p = r.2 :: rs.map (·.2) := by unfold vl; rw [e]; rfl
            rw [e]
            refine ⟨(toldOk p hp).2 r.2 (by rw [hv]; exact List.mem_cons_self ..), p, hp, ?_⟩
            rw [hv]; rfl
          have hsCov : ∀ p ∈ told, ∃ r ∈ hs, (vl p).take 1 = [r.2] := fun p hp => by
            obtain ⟨r, rs, e⟩ := told0 p hp
            refine ⟨r, ?_, ?_⟩
            · rw [← hhs]
              refine List.mem_map.mpr ⟨p, hp, ?_⟩
              rw [e]; rfl
            · unfold vl; rw [e]; rfl
          refine a_nil ⟨_, c_tupL, a_nil ⟨[hs, hs], rfl, (show 2 ≤ bigN by decide), a_nil ⟨_, rfl, ⟨by simp, by simp, by omega, by omega⟩, fun y n6 hy => ?_⟩⟩⟩
          obtain ⟨y1, y2, y3⟩ := hy
          have y1 : y = hs := by simpa using y1
          subst y
          refine a_nil ⟨hs, rfl, ⟨by omega, fun r hr => (hsOk r hr).1⟩, fun single hsg => ?_⟩
          have singleLen : single.length ≤ 100 := Nat.le_trans hsg.len (by omega)
          have firsts : single.map one1 = putIn (pts.map fun p => p.take 1) := by
            refine asc_putIn (w := 1) (fun p hp => ?_) hsg (fun r hr => ?_) (fun q hq => ?_)
            · obtain ⟨p0, hp0, rfl⟩ := List.mem_map.mp hp
              rw [List.length_take, ptsWd p0 hp0]
              omega
            · obtain ⟨_, p, hp, e⟩ := hsOk r hr
              show [r.2] ∈ _
              rw [← e, ← toldV, List.map_map]
              exact List.mem_map_of_mem (f := (fun p => List.take 1 p) ∘ vl) hp
            · rw [← toldV, List.map_map] at hq
              obtain ⟨p, hp, rfl⟩ := List.mem_map.mp hq
              obtain ⟨r, hr, e⟩ := hsCov p hp
              exact ⟨r, hr, e.symm⟩
          refine s_mid (fun Γ m => Γ.length = 24 ∧ Γ[0]? = some (some (.mk (rSql K rInt) l)) ∧ Γ[1]? = some (some (.mk (rPen K I) ())) ∧ Γ[16]? = some (some (.mk (rTup K (rRi C)) single)) ∧ m = n6) ?_ ?_
          · refine s_if <| t_or <| t_not <| t_B <| w_cb <| a_cons <| w_var rfl <| a_cons <| w_ty <| a_nil ⟨true, c_isiT ty_tup T.kitTT, fun _ => ?_, fun z => by cases z⟩
            refine t_test <| w_op0 (o_neD (dat_lst dat_pq) (by decide) (eq_lst eq_pq)) <| w_lc_map (K := K) (is := [15]) (S := rPq K) (fun r : V × Rat => r.2) <| i_tup <| w_var rfl ⟨by show _ ≤ bigN; unfold bigN; omega, fun r hr => ?_, ?_⟩
            · exact tg_name <| w_callP <| a_cons <| w_of <| w_var rfl <| a_nil ⟨r.2, rfl, trivial, fun y hy => ⟨hy, rfl⟩⟩
            refine w_lc_map (K := K) (is := [11]) (S := rPq K) (fun p : List Rat => p.headD 0) <| i_list <| w_callP <| a_cons <| w_lc_map (K := K) (is := [11]) (S := rTup K (rPq K)) (fun p : List Rat => p.take 1) <| i_list <| w_var rfl ⟨by show _ ≤ bigN; unfold bigN; omega, fun p hp => ?_, ?_⟩
            · exact tg_name <| w_toT <| w_var rfl <| w_int ⟨by decide, rfl, rfl⟩
            refine a_nil ⟨_, rfl, ⟨by rw [List.length_map]; omega, fun p hp q hq => ?_⟩, fun z hz => ?_⟩
            · obtain ⟨p0, hp0, rfl⟩ := List.mem_map.mp hp
              exact okAll p0 hp0 q (List.mem_of_mem_take hq)
            have hz : z = putIn (pts.map fun p => p.take 1) := hz
            rw [← firsts] at hz
            subst hz
            refine ⟨by rw [List.length_map]; show _ ≤ bigN; unfold bigN; omega, fun p hp => ?_, fun z => ?_, fun _ => s_next ⟨rfl, rfl, rfl, rfl, rfl⟩⟩
            · obtain ⟨r, hr, rfl⟩ := List.mem_map.mp hp
              exact tg_name <| w_opP o_ixT <| w_var rfl <| w_int ⟨r.2, L2.Lc.atI_nat (l := [r.2]) (i := 0) rfl, rfl, rfl⟩
            · rw [List.map_map] at z
              have : single.map ((fun p : List Rat => p.headD 0) ∘ one1) = single.map (fun r => r.2) := rfl
              rw [this] at z
              simp at z
          rintro Γ1 m ⟨e0', e1', e2', e16, rfl⟩
          refine s_if <| t_test <| w_neId (R := rRat C) (fun h => let ⟨a, _, _, e, _⟩ := h; ⟨a, e⟩) <| w_callK (fun es => es) (fun h => h) <| a_cons <| w_sqT (K := K) <| w_revT <| w_var e16 <| a_nil ⟨rfl, single.reverse, rfl, ⟨by rw [List.length_reverse]; exact singleLen, fun p hp => (hsOk p (hsg.sub p (List.mem_reverse.mp hp))).1⟩, fun again ha => w_var e16 ⟨asc_same hsg (fun _ => List.mem_reverse) ha, fun z => (by cases z), fun _ => s_next ⟨e0', e1', e2', by omega, ?_⟩⟩⟩
          rw [List.length_append]
          simp only [List.length_cons, List.length_nil]
          omega
        · rintro Γ' n' ⟨e0, e1, e2, e3, e4⟩
          rw [show (rangeL 0 (8 : Int).toNat).length = 8 from rangeL_len 8] at e4
          exact ⟨e0, e1, e2, e3, by omega⟩
      rintro Γa na ⟨e0, e1, e2, e3, e4⟩
      refine s_mid (fun _ _ => True) ?_ ?_
      · refine s_for (is := [2]) <| i_range <| a_cons <| w_int <| a_nil ⟨8, rfl, by decide, by decide, fun pre Γ n => Γ.length = 24 ∧ Γ[0]? = some (some (.mk (rSql K rInt) l)) ∧ Γ[1]? = some (some (.mk (rPen K I) ())) ∧ 0 ≤ n.1 ∧ n.1 ≤ 480 + 150 * pre.length, ⟨e0, e1, e2, e3, by simpa using e4⟩, ?_, fun _ _ _ => trivial⟩
        rintro pre x post Γ' n0 hl ⟨e0, e1, e2, e3, e4⟩
        have hpre : pre.length < 8 := rangeL_lt (k := 8) hl
        obtain ⟨g, rfl⟩ := ex22 e0 e1 e2
        -- names
        refine tg_name <| s_seq <| s_set <| w_cbP (T := rLst K rStr) <| a_cons <| w_to (K := K) (R := rStr) <| w_callS I <| a_cons <| w_var rfl <| a_cons <| w_lst (K := K) (R := rStr) <| a_cons <| w_str <| a_cons <| w_str <| a_cons <| w_str <| a_cons <| w_str <| a_cons <| w_str <| a_nil ⟨five, rfl, (show 5 ≤ bigN by decide), a_nil ⟨five, rfl, ⟨(show 5 ≤ 1000 by decide), by omega, by omega⟩, fun ys n1 hys => ?_⟩⟩
        obtain ⟨yp, y1, y2⟩ := hys
        have y2 : n1.1 ≤ n0.1 + 5 := y2
        refine w_op0 o_int <| w_int <| w_callS I <| a_cons <| w_var rfl <| a_cons <| w_int <| a_nil ⟨4, rfl, ⟨by omega, by omega, by omega⟩, fun r n2 hr => ?_⟩
        obtain ⟨⟨r0, r1⟩, r2, r3, _⟩ := hr
        have r3 := r3 (by decide)
        refine ⟨by omega, a_nil ⟨_, c_sortedS ?_, fun names hnm => ?_⟩⟩
        · have := yp.length_eq
          have h5 : five.length = 5 := rfl
          rw [List.length_take]
          omega
        have nmNd : names.Nodup := hnm.nodup_iff.mpr ((yp.nodup_iff.mpr five_nd).sublist (List.take_sublist _ _))
        have nmIn : ∀ s ∈ names, s ∈ five := fun s hs => yp.mem_iff.mp (List.mem_of_mem_take (hnm.mem_iff.mp hs))
        have nmLen : 1 ≤ names.length ∧ names.length ≤ 4 := by
          have h1 := yp.length_eq
          have h5 : five.length = 5 := rfl
          have h2 := hnm.length_eq
          rw [List.length_take] at h2
          omega
        have nmNo : nobody ∉ names := fun z => nobody_no (nmIn _ z)
        clear hnm
        -- pairs
        refine s_seq <| s_set <| w_lc (K := K) (is := [19]) (R := rStr) (S := rPq K) <| i_list <| w_var rfl ⟨by show _ ≤ bigN; unfold bigN; omega, fun pre2 (ys : List Rat) m => (∀ q ∈ ys, okB q) ∧ ys.length = pre2.length ∧ n2.1 ≤ m.1 ∧ m.1 ≤ n2.1 + 2 * pre2.length, ⟨(fun _ h => by cases h), rfl, by omega, by simp⟩, ?_, ?_⟩
        · rintro pre2 y post2 ys m hl2 ⟨c1, c2, c3, c4⟩
          have hp2 : pre2.length < 4 := by
            have := congrArg List.length hl2
            rw [List.length_append, List.length_cons] at this
            omega
          refine tg_name <| t_yes ⟨fun _ => w_callS I <| a_cons <| w_var rfl <| a_nil ⟨(), rfl, ⟨by omega, by omega⟩, fun q m2 hq => ?_⟩, fun z => by cases z⟩
          obtain ⟨q1, q2, q3⟩ := hq
          refine ⟨fun z hz => ?_, ?_, by omega, ?_⟩
          · rcases List.mem_append.mp hz with hz | hz
            · exact c1 z hz
            · rw [List.mem_singleton.mp hz]; exact q1
          · rw [List.length_append, List.length_append, c2]; rfl
          · rw [List.length_append]; simp only [List.length_cons, List.length_nil]; omega
        rintro pairs n3 _ ⟨c1, c2, c3, c4⟩
        -- point
        refine s_seq <| s_set <| w_cb <| a_cons <| w_lc_map (K := K) (is := [20]) (R := rPq K) (S := rRat C) (fun q => q) <| i_list <| w_var rfl ⟨by show _ ≤ bigN; unfold bigN; omega, fun q hq => ?_, a_nil ⟨_, c_tupL, ?_⟩⟩
        · exact tg_name <| w_callP <| a_cons <| w_var rfl <| a_nil ⟨q, rfl, (c1 q hq).2.mono (by decide), fun y hy => ⟨hy, rfl⟩⟩
        rw [List.map_id']
        -- forms
        refine s_seq <| s_asg (is := [15] ++ [21]) (R := rPr K rDic rDic) <| w_pr <| w_callS I <| a_cons <| w_var rfl <| a_cons <| w_var rfl <| a_cons <| w_op o_intC <| w_int <| w_int ⟨⟨by decide, by decide, by decide⟩, a_nil ⟨(names, 10 ^ (30 : Int).toNat), rfl, ⟨fun z => ?_, show names.length ≤ 10 by omega, nmNd, ⟨show (0 : Int) ≤ 10 ^ (30 : Int).toNat by decide, show (10 : Int) ^ (30 : Int).toNat < 2 ^ 110 by decide⟩, by omega, by omega⟩, fun one n4 h4 => ?_⟩⟩
        · have z : names = [] := z
          rw [z] at nmLen
          exact absurd nmLen.1 (by decide)
        obtain ⟨⟨o1, o2, o3, o4⟩, o5, o6⟩ := h4
        refine w_callS I <| a_cons <| w_var rfl <| a_cons <| w_cat <| w_var rfl <| w_lst (K := K) (R := rStr) <| a_cons <| w_str <| a_nil ⟨[nobody], rfl, (show 1 ≤ bigN by decide), ?_, a_cons <| w_int <| a_nil ⟨(names ++ [nobody], 9), rfl, ⟨by simp, ?_, ?_, ⟨show (0 : Int) ≤ 9 by decide, show (9 : Int) < 2 ^ 110 by decide⟩, by omega, by omega⟩, fun other n5 h5 => ?_⟩⟩
        · show _ ≤ bigN; unfold bigN; simp only [List.length_cons, List.length_nil]; omega
        · dsimp only; rw [List.length_append]; simp only [List.length_cons, List.length_nil]; omega
        · dsimp only
          rw [List.nodup_append]
          exact ⟨nmNd, by simp, fun a ha b hb e => nmNo (by rw [List.mem_singleton.mp hb] at e; rw [← e]; exact ha)⟩
        obtain ⟨⟨p1, p2, p3, p4⟩, p5, p6⟩ := h5
        refine tg_pair <| tg_name <| tg_name ?_
        have okB1 : ∀ q ∈ pairs, Sz 80 q := fun q hq => (c1 q hq).2
        have one120 : okF one := fun p hp => Nat.lt_trans (o3 p hp) (by decide)
        have other120 : okF other := fun p hp => Nat.lt_trans (p3 p hp) (by decide)
        -- due
        refine s_seq <| s_set (R := rPq K) <| w_pq <| w_pr <| w_int <| w_int ⟨0, rfl, ?_⟩
        refine s_mid (fun Γ m => ∃ zz o19 o20, zz = names.zip pairs ∧ Sz 1900 (atF one zz) ∧ Γ = [some (.mk (rSql K rInt) l), some (.mk (rPen K I) ()), some (.mk rInt x), g 3, g 4, g 5, g 6, g 7, g 8, g 9, g 10, some (.mk (rTup K (rRat C)) pairs), some (.mk (rPq K) (atF one zz)), g 13, g 14, some (.mk rDic one), g 16, some (.mk (rLst K rStr) names), some (.mk (rLst K (rPq K)) pairs), o19, o20, some (.mk rDic other), g 22, g 23] ∧ m = n5) ?_ ?_
        · refine s_for (is := [19] ++ [20]) (R := rPr K rStr (rPq K)) <| i_zipL <| a_cons <| w_var rfl <| a_cons <| w_var rfl <| a_nil ⟨names, pairs, rfl, fun zz Γ m => (∃ o19 o20, Γ = [some (.mk (rSql K rInt) l), some (.mk (rPen K I) ()), some (.mk rInt x), g 3, g 4, g 5, g 6, g 7, g 8, g 9, g 10, some (.mk (rTup K (rRat C)) pairs), some (.mk (rPq K) (atF one zz)), g 13, g 14, some (.mk rDic one), g 16, some (.mk (rLst K rStr) names), some (.mk (rLst K (rPq K)) pairs), o19, o20, some (.mk rDic other), g 22, g 23]) ∧ Sz (1 + 201 * zz.length) (atF one zz) ∧ m = n5, ⟨⟨_, _, rfl⟩, ⟨show 0 < 2 ^ 1 by decide, show 1 < 2 ^ 1 by decide⟩, rfl⟩, ?_, ?_⟩
          · rintro zz ⟨nm, q⟩ post2 Γ2 m hl2 ⟨⟨o19, o20, rfl⟩, hsz, rfl⟩
            have hz : zz.length < 4 := by
              have := congrArg List.length hl2
              rw [List.length_zip, List.length_append, List.length_cons] at this
              omega
            have hq : Sz 80 q := okB1 q (List.of_mem_zip (a := nm) (b := q) (by rw [hl2]; simp)).2
            have hv := lk_lt one120 nm
            have m1 : Sz (80 + 120) (q * ((((lk one nm).getD 0 : Int)) : Rat)) := hq.mul hv
            have m2 := hsz.add m1
            refine tg_pair <| tg_name <| tg_name <| s_set <| w_callP <| a_cons <| w_var rfl <| a_cons <| w_pr <| w_op o_intC <| w_pq0 <| w_var rfl <| w_get2 <| w_var rfl <| w_var rfl <| w_int ⟨?_, w_pq1 <| w_var rfl <| a_nil ⟨(atF one zz, (q.num * (lk one nm).getD 0, (q.den : Int))), rfl, ⟨hsz.mono (by omega), ?_, den_pos q, ?_⟩, fun y hy => ?_⟩⟩
            · have h1 := hq.num (by decide)
              have h2 : ((lk one nm).getD 0).natAbs.log2 < 120 := PySem.Flt.log2_lt_of (by decide) hv
              show CMulW _ _
              unfold CMulW
              omega
            · dsimp only
              rw [Int.natAbs_mul]
              exact Nat.lt_trans (mul_pow hq.1 hv) (Nat.pow_lt_pow_right (by decide) (by decide))
            · dsimp only
              rw [Int.natAbs_natCast]
              exact Nat.lt_trans hq.2 (Nat.pow_lt_pow_right (by decide) (by decide))
            · have ey : y = atF one (zz ++ [(nm, q)]) := by
                have hy : y = atF one zz + Rat.divInt (q.num * (lk one nm).getD 0) (q.den : Int) := hy
                rw [hy, plus_of, atF_snoc]
              subst ey
              refine ⟨⟨_, _, rfl⟩, ?_, rfl⟩
              rw [atF_snoc]
              refine m2.mono ?_
              rw [List.length_append]
              simp only [List.length_cons, List.length_nil]
              omega
          · rintro Γ2 m ⟨⟨o19, o20, rfl⟩, hsz, rfl⟩
            refine ⟨_, _, _, rfl, hsz.mono ?_, rfl, rfl⟩
            rw [List.length_zip]
            omega
        rintro Γ2 m ⟨zz, o19, o20, hzz, dueSz, rfl, rfl⟩
        have atOk : ∀ f : SD, okF f → okF f ∧ names.length ≤ 8 ∧ ∀ q ∈ pairs, Sz 80 q := fun f hf => ⟨hf, by omega, okB1⟩
        have zzIn : ∀ p ∈ zz, p.1 ∈ names := fun p hp => by
          rw [hzz] at hp
          exact (List.of_mem_zip (a := p.1) (b := p.2) hp).1
        -- the form by its points, beside the law's own sum
        refine s_seq <| s_if <| t_or <| t_B <| w_callP <| a_cons <| w_callP <| a_cons <| w_callP <| a_cons <| w_var rfl <| a_cons <| w_cb <| a_cons <| w_var rfl <| a_nil ⟨_, c_tupL, a_cons <| w_var rfl <| a_nil ⟨(one, names, pairs), rfl, atOk one one120, fun y hy => a_nil ⟨y, rfl, trivial, fun y2 hy2 => a_cons <| w_var rfl <| a_nil ⟨(y2, atF one zz), rfl, ?_, fun b hb => ⟨fun _ => ?_, fun z => ?_⟩⟩⟩⟩⟩
        · obtain ⟨hy, _⟩ := hy
          have hy2 : y2 = y := hy2
          have e : y2 = atF one zz := by rw [hy2, hy, hzz]
          exact ⟨e, by dsimp only; rw [e]; exact dueSz⟩
        · refine t_test <| w_op0 (o_neD dat_pq (by decide) eq_pq) <| w_callP <| a_cons <| w_callK List.reverse argsRev <| a_cons <| w_var rfl <| a_cons <| w_cb <| a_cons <| w_var rfl <| a_nil ⟨_, c_tupL, a_cons <| w_var rfl <| a_nil ⟨rfl, (one, names, pairs), rfl, atOk one one120, fun y hy => a_nil ⟨y, rfl, trivial, fun y2 hy2 => w_var rfl ⟨fun z => ?_, fun _ => s_next ?_⟩⟩⟩⟩
          · obtain ⟨hy, _⟩ := hy
            have hy2 : y2 = y := hy2
            have e : y2 = atF one zz := by rw [hy2, hy, hzz]
            rw [e] at z
            simp at z
          -- one more name
          refine s_dictPut (w_var rfl ⟨by show _ < bigN; unfold bigN; omega, fun z => nmNo (o2 _ z), ?_⟩) (show 22 < 24 by decide)
          have more120 : okF (one ++ [(nobody, 5)]) := fun p hp => by
            rcases List.mem_append.mp hp with hp | hp
            · exact one120 p hp
            · rw [List.mem_singleton.mp hp]; exact show 5 < 2 ^ 120 by decide
          -- both forms
          have nsNd : (names ++ [nobody]).Nodup := by
            rw [List.nodup_append]
            exact ⟨nmNd, by simp, fun a ha b hb e => nmNo (by rw [List.mem_singleton.mp hb] at e; rw [← e]; exact ha)⟩
          let c : Str → Int := fun s => cf one s + cf other s
          let pp : Str → Bool := fun s => !decide (c s = 0)
          have keysB : (((names ++ [nobody]).filter pp).map fun s => (s, c s)).map (·.1) = (names ++ [nobody]).filter pp := by rw [List.map_map]; exact List.map_id' _
          have cOk : ∀ s, (c s).natAbs < 2 ^ 114 := fun s => by
            have h1 : (cf one s).natAbs < 2 ^ 112 := by
              cases q : lk one s with
              | none => show ((lk one s).getD 0).natAbs < _; rw [q]; decide
              | some i => show ((lk one s).getD 0).natAbs < _; rw [q]; exact o3 _ (lk_mem q)
            have h2 : (cf other s).natAbs < 2 ^ 112 := by
              cases q : lk other s with
              | none => show ((lk other s).getD 0).natAbs < _; rw [q]; decide
              | some i => show ((lk other s).getD 0).natAbs < _; rw [q]; exact p3 _ (lk_mem q)
            show (cf one s + cf other s).natAbs < _
            omega
          refine s_seq <| s_set (R := rDic) <| w_cb <| a_cons <| w_lc_filter (K := K) (is := [19]) (R := rStr) (S := rPr K rStr rInt) pp (fun s => (s, c s)) <| i_list <| w_cat <| w_var rfl <| w_lst (K := K) (R := rStr) <| a_cons <| w_str <| a_nil ⟨[nobody], rfl, (show 1 ≤ bigN by decide), ?_, ?_, fun s hs => ?_, ?_⟩
          · show _ ≤ bigN; unfold bigN; simp only [List.length_cons, List.length_nil]; omega
          · rw [List.length_append]; show _ ≤ bigN; unfold bigN; simp only [List.length_cons, List.length_nil]; omega
          · exact tg_name <| t_test <| w_op0 o_neI <| w_op0 o_int <| w_get2 <| w_var rfl <| w_var rfl <| w_int <| w_get2 <| w_var rfl <| w_var rfl <| w_int <| w_int ⟨rfl, rfl, fun _ => w_pr <| w_var rfl <| w_op0 o_int <| w_get2 <| w_var rfl <| w_var rfl <| w_int <| w_get2 <| w_var rfl <| w_var rfl <| w_int ⟨rfl, rfl⟩⟩
          refine a_nil ⟨_, c_dictP (by rw [keysB]; exact nsNd.sublist (List.filter_sublist ..)), ?_⟩
          generalize hboth : ((names ++ [nobody]).filter pp).map (fun s => (s, c s)) = both
          have both120 : okF both := fun p hp => by
            rw [← hboth] at hp
            obtain ⟨s, _, rfl⟩ := List.mem_map.mp hp
            exact Nat.lt_trans (cOk s) (by decide)
          have bothC : ∀ p ∈ zz, cf both p.1 = cf one p.1 + cf other p.1 := fun p hp => by
            rw [← hboth]
            refine cf_made nsNd c pp (List.mem_append_left _ (zzIn p hp)) fun h => ?_
            have h : (!decide (c p.1 = 0)) = false := h
            simpa using h
          -- one more name makes no difference
          refine s_seq <| s_if <| t_test <| w_ownNe <| w_callP <| a_cons <| w_var rfl <| a_cons <| w_cb <| a_cons <| w_var rfl <| a_nil ⟨_, c_tupL, a_cons <| w_var rfl <| a_nil ⟨(one ++ [(nobody, 5)], names, pairs), rfl, atOk _ more120, fun y hy => w_callP <| a_cons <| w_var rfl <| a_nil ⟨atF one zz, rfl, dueSz.mono (by decide), fun y2 hy2 => ⟨(y, y2), rfl, trivial, fun z hz => ⟨fun w => ?_, fun _ => s_next ?_⟩⟩⟩⟩⟩
          · obtain ⟨hy, _⟩ := hy
            have hy2 : y2 = atF one zz := hy2
            have hz : z = decide (y = y2) := hz
            have hy : y = atF (one ++ [(nobody, 5)]) (names.zip pairs) := hy
            have e : y = y2 := by
              rw [hy, hy2, ← hzz]
              exact atF_same fun p hp => cf_more fun z => nmNo (by rw [← z]; exact zzIn p hp)
            rw [hz, decide_eq_true e] at w
            cases w
          -- two forms added
          refine s_mid (fun Γ m => Γ.length = 24 ∧ Γ[0]? = some (some (.mk (rSql K rInt) l)) ∧ Γ[1]? = some (some (.mk (rPen K I) ())) ∧ (Γ[11]? = some (some (.mk (rTup K (rRat C)) pairs)) ∧ Γ[15]? = some (some (.mk rDic one)) ∧ Γ[17]? = some (some (.mk (rLst K rStr) names))) ∧ 0 ≤ m.1 ∧ m.1 ≤ n0.1 + 150) ?_ ?_
          · refine s_if <| t_and <| t_test <| w_op o_neD0 <| w_var rfl <| w_dict0 ⟨rfl, fun _ => ?_, fun _ => ⟨fun z => (by cases z), fun _ => s_next ⟨rfl, rfl, rfl, ⟨rfl, rfl, rfl⟩, by omega, by omega⟩⟩⟩
            refine t_test <| w_ownNe (f2 := fsRat) <| w_callP <| a_cons <| w_var rfl <| a_cons <| w_cb <| a_cons <| w_var rfl <| a_nil ⟨_, c_tupL, a_cons <| w_var rfl <| a_nil ⟨(both, names, pairs), rfl, atOk _ both120, fun y hy => ?_⟩⟩
            refine w_ownB (f2 := fsRat) <| w_callP <| a_cons <| w_var rfl <| a_cons <| w_cb <| a_cons <| w_var rfl <| a_nil ⟨_, c_tupL, a_cons <| w_var rfl <| a_nil ⟨(one, names, pairs), rfl, atOk _ one120, fun y2 hy2 => ?_⟩⟩
            refine w_callP <| a_cons <| w_var rfl <| a_cons <| w_cb <| a_cons <| w_var rfl <| a_nil ⟨_, c_tupL, a_cons <| w_var rfl <| a_nil ⟨(other, names, pairs), rfl, atOk _ other120, fun y3 hy3 => ?_⟩⟩
            refine ⟨(y2, y3), rfl, ⟨hy2.2.mono (by decide), hy3.2.mono (by decide)⟩, fun y4 hy4 => ⟨(y, y4), rfl, trivial, fun z hz => ⟨fun w => ?_, fun _ => s_next ⟨rfl, rfl, rfl, ⟨rfl, rfl, rfl⟩, by omega, by omega⟩⟩⟩⟩
            have h1 : y = atF both (names.zip pairs) := hy.1
            have h2 : y2 = atF one (names.zip pairs) := hy2.1
            have h3 : y3 = atF other (names.zip pairs) := hy3.1
            have h4 : y4 = y2 + y3 := hy4
            have hz : z = decide (y = y4) := hz
            have e : y = y4 := by
              rw [h1, h4, h2, h3, ← hzz]
              exact atF_add bothC
            rw [hz, decide_eq_true e] at w
            cases w
          rintro Γ3 m3 ⟨e0', e1', e2', ⟨e11, e15, e17⟩, e3', e4'⟩
          -- a form stretched
          have hf : ∀ {H : Hp} {n : Int × Int} {d : Addr} {o : HO}, (mPen I).inv n H → (H d = some (.dK (dk one)) ∨ ∃ od, H d = some (.frz od (.dK (dk one)))) → ¬ (mPen I).foot d := fun {H n d o} i h f => by
            have i : penOk I n H := i
            rcases f with rfl | rfl
            · rcases h with h | ⟨od, h⟩ <;> (rw [i.1] at h; cases h)
            · rcases h with h | ⟨od, h⟩ <;> (rw [i.2.1] at h; cases h)
          have keysS : ((one.map (·.1)).map fun s => (s, -7 * cf one s)).map (·.1) = one.map (·.1) := by rw [List.map_map]; exact List.map_id' _
          refine s_if <| t_test <| w_ownNe (f2 := fsRat) <| w_callP <| a_cons <| w_cb (T := rDic) <| a_cons <| w_lock (R := rLst K (rPr K rStr rInt)) e15 (fun i h => hf (o := .lst []) i h) skips_prs fun d od => ?_
          rw [e0']
          refine w_lc_map (K := K) (is := [19]) (R := rStr) (S := rPr K rStr rInt) (fun s => (s, -7 * cf one s)) <| i_keysFz (d := d) (od := od) (l := one) rfl ⟨by rw [List.length_map]; show _ ≤ bigN; unfold bigN; omega, fun s hs => ?_, ?_⟩
          · obtain ⟨p, hp, rfl⟩ := List.mem_map.mp hs
            have hv : lk one p.1 = some p.2 := lk_nodup o1 hp
            refine tg_name <| w_pr <| w_var rfl <| w_op o_intC <| w_un u_neg <| w_int <| w_getFz (d := d) (od := od) (l := one) rfl <| w_var rfl ⟨p.2, hv, .inl ⟨by decide, by decide⟩, ?_, rfl⟩
            show (p.1, -7 * p.2) = (p.1, -7 * cf one p.1)
            unfold cf
            rw [hv]; rfl
          generalize hsc : ((one.map (·.1)).map fun s => (s, -7 * cf one s)) = sc
          have sc120 : okF sc := fun p hp => by
            rw [← hsc] at hp
            obtain ⟨s, hs, rfl⟩ := List.mem_map.mp hp
            obtain ⟨q, hq, rfl⟩ := List.mem_map.mp hs
            have hv : lk one q.1 = some q.2 := lk_nodup o1 hq
            have := o3 q hq
            show (-7 * cf one q.1).natAbs < _
            unfold cf
            rw [hv]
            show (-7 * q.2).natAbs < _
            omega
          have scC : ∀ p ∈ zz, cf sc p.1 = -7 * cf one p.1 := fun p _ => by
            rw [← hsc]
            exact cf_scaled o1 (-7) p.1
          refine a_nil ⟨sc, c_dictP (by rw [← hsc, keysS]; exact o1), a_cons <| w_cb <| a_cons <| w_var e17 <| a_nil ⟨_, c_tupL, a_cons <| w_var e11 <| a_nil ⟨(sc, names, pairs), rfl, atOk _ sc120, fun y hy => ?_⟩⟩⟩
          refine w_ownI (f1 := fsRat) <| w_callP <| a_cons <| w_var e15 <| a_cons <| w_cb <| a_cons <| w_var e17 <| a_nil ⟨_, c_tupL, a_cons <| w_var e11 <| a_nil ⟨(one, names, pairs), rfl, atOk _ one120, fun y2 hy2 => w_un u_neg <| w_int ⟨(y2, -7), rfl, ⟨hy2.2.mono (by decide), ?_⟩, fun y3 hy3 => ⟨(y, y3), rfl, trivial, fun z hz => ⟨fun w => ?_, fun _ => s_next ⟨e0', e1', e2', e3', ?_⟩⟩⟩⟩⟩⟩
          · show (7 : Nat) < 2 ^ 4000
            exact Nat.lt_of_lt_of_le (by decide : 7 < 2 ^ 3) (Nat.pow_le_pow_right (by decide) (by decide))
          · have h1 : y = atF sc (names.zip pairs) := hy.1
            have h2 : y2 = atF one (names.zip pairs) := hy2.1
            have h3 : y3 = y2 * (((-7 : Int)) : Rat) := hy3
            have hz : z = decide (y = y3) := hz
            have e : y = y3 := by
              rw [h1, h3, h2, ← hzz]
              exact atF_mul (-7) scC
            rw [hz, decide_eq_true e] at w
            cases w
          · rw [List.length_append]
            simp only [List.length_cons, List.length_nil]
            omega
        · rw [show b = false from hb] at z; cases z
      rintro Γz nz _
      -- the last answer
      refine s_ret <| w_andV <| w_op o_eqNil <| w_callP <| a_cons <| w_sqL (K := K) <| w_lst (K := K) (R := rPt K C) <| a_nil ⟨[], rfl, (show 0 ≤ bigN by decide), a_nil ⟨[], rfl, ⟨1, by decide, by decide, by decide, fun _ h => by cases h⟩, fun y hy => w_tup (K := K) (R := rInt) <| a_nil ⟨[], rfl, (show 0 ≤ bigN by decide), ⟨?_, rfl⟩, fun _ => ?_, fun z => by cases z⟩⟩⟩
      · exact List.length_eq_zero_iff.mp (Nat.le_zero.mp hy.len)
      refine w_andV <| w_op o_eqNil <| w_callP <| a_cons <| w_sqT (K := K) <| w_tup (K := K) (R := rRi C) <| a_nil ⟨[], rfl, (show 0 ≤ bigN by decide), a_nil ⟨[], rfl, ⟨by decide, fun _ h => by cases h⟩, fun y hy => w_tup (K := K) (R := rInt) <| a_nil ⟨[], rfl, (show 0 ≤ bigN by decide), ⟨?_, rfl⟩, fun _ => ?_, fun z => by cases z⟩⟩⟩
      · exact List.length_eq_zero_iff.mp (Nat.le_zero.mp hy.len)
      refine w_andV <| w_ownB (f2 := fsRat) <| w_callP <| a_cons <| w_disp1 <| a_cons <| w_tup (K := K) (R := rStr) <| a_nil ⟨[], rfl, (show 0 ≤ bigN by decide), a_cons <| w_tup (K := K) (R := rRat C) <| a_nil ⟨[], rfl, (show 0 ≤ bigN by decide), a_nil ⟨([("x", 1)], [], []), rfl, ⟨fun p hp => ?_, by decide, fun _ h => by cases h⟩, fun y hy => w_ratio1 <| a_cons <| w_int <| a_nil ⟨0, rfl, ⟨(y, 0), rfl, trivial, fun z hz => ⟨fun _ => ?_, fun w => ?_⟩⟩⟩⟩⟩⟩
      · rw [List.mem_singleton.mp hp]; exact show (1 : Nat) < 2 ^ 120 by decide
      · have hh : Rat.divInt 2 4 = Rat.divInt 1 2 := by
          show Rat.divInt (2 * 1) (2 * 2) = _
          exact Rat.divInt_mul_left (by decide)
        have hok : okB (Rat.divInt 1 2) := by
          have d1 := den_dvd (a := 1) (b := 2) (by decide)
          have d2 := num_le (a := 1) (b := 2) (by decide)
          have d3 := Int.le_of_dvd (by decide) d1
          refine ⟨Int.natCast_dvd_natCast.mp (Int.dvd_trans d1 (by decide)), ?_, ?_⟩
          · exact Nat.lt_of_le_of_lt d2 (by decide)
          · omega
        refine w_eqTR <| w_tupOf <| w_callP <| a_cons <| w_sqL (K := K) <| w_lst (K := K) (R := rRi C) <| a_cons <| w_id <| w_ratio <| a_cons <| w_int <| a_cons <| w_int <| a_nil ⟨2, 4, rfl, ⟨by decide, by decide⟩, fun u => a_cons <| w_id <| w_ratio <| a_cons <| w_int <| a_cons <| w_int <| a_nil ⟨1, 2, rfl, ⟨by decide, by decide⟩, fun u2 => a_nil ⟨[(u, Rat.divInt 2 4), (u2, Rat.divInt 1 2)], rfl, (show 2 ≤ bigN by decide), a_nil ⟨_, rfl, ⟨(show 2 ≤ 100 by decide), fun p hp => ?_⟩, fun y hy => ?_⟩⟩⟩⟩
        · simp only [List.mem_cons, List.not_mem_nil, or_false] at hp
          rcases hp with rfl | rfl
          · show okB (Rat.divInt 2 4)
            rw [hh]; exact hok
          · exact hok
        refine w_tup (K := K) (R := rRat C) <| a_cons <| w_ratio <| a_cons <| w_int <| a_cons <| w_int <| a_nil ⟨1, 2, rfl, ⟨by decide, by decide⟩, a_nil ⟨[Rat.divInt 1 2], rfl, (show 1 ≤ bigN by decide), ?_, rfl⟩⟩
        have e : y.map one1 = putIn [[Rat.divInt 1 2]] := by
          refine asc_putIn (w := 1) (fun p hp => by rw [List.mem_singleton.mp hp]; rfl) hy (fun p hp => ?_) (fun q hq => ?_)
          · simp only [List.mem_cons, List.not_mem_nil, or_false] at hp
            rcases hp with rfl | rfl
            · show [Rat.divInt 2 4] ∈ _
              rw [hh]; simp
            · show [Rat.divInt 1 2] ∈ _
              simp
          · rw [List.mem_singleton.mp hq]
            exact ⟨(u2, Rat.divInt 1 2), by simp, rfl⟩
        have e2 : putIn [[Rat.divInt 1 2]] = [[Rat.divInt 1 2]] := by
          unfold putIn insP
          simp
        rw [e2] at e
        have e3 := congrArg (List.map fun p : List Rat => p.headD 0) e
        rw [List.map_map] at e3
        exact e3
      · have h1 : y = 0 := hy.1
        have hz : z = decide (y = 0) := hz
        rw [hz, decide_eq_true h1] at w
        cases w⟩
end
end K05
end

-- part K05Head
section
set_option Elab.async false
set_option linter.all false
set_option maxRecDepth 100000
set_option maxHeartbeats 0
namespace K05
open PySem PySem.Spec PyProof.Rows L2 L2.Lc
abbrev Rw : PySem.W.OpenRow := PySem.W.OpenLaw.row PySem.Challenge.rw_longchances_k05_f_points_in_order_and_wh
abbrev hk : PySem.W.Hook := hookL 5 fa ex fn
def ob (s : PySem.W.SharedT) : AlX := obsXG 5 fa ex fn (HandSHeadRun.getT s)
theorem ob_eq (s : PySem.W.SharedT) : ob s = hk.obs s.abs := obsXG_eq (HandSHeadRun.getT_eq s)
def loose : List PySem.Str := ["_wall", "is_integer", "OddsError", "BadNumber", "BadRatio", "top_of", "bottom_of", "Ratio", "ascending_ratios", "ascending_points", "at_form", "_law_pen", "_law_draw", "_law_pick", "_law_mixed", "_law_unlike", "_law_shared", "_law_low", "_law_plus", "_law_is_less", "_law_ratio", "_law_pair", "_law_form", "_law_is_ahead", "_law_put_in", "_law_drawn_pair", "__name__"]
theorem run (w : World) : HandSHeadRun.RunEqI Rw (PySem.W.view Rw.prog [0, 31]) hk ob 4000 loose w := by
  unfold HandSHeadRun.RunEqI
  kernel_rfl
end K05
end

-- part K05Z
section
set_option Elab.async false
set_option linter.all false
set_option maxRecDepth 100000
set_option maxHeartbeats 0
namespace K05
open PySem PySem.Spec PyProof.Rows L2 L2.Lc
theorem law_sp {K : PySem.W.Frag} (H : Hp) (a : Addr) (ns : List Int) (hl : ns.length ≤ 63) (h : SqL K H a (ns.map V.int)) : spLaw K [.ref a] H (fun v _ => v = .bl true) fun _ _ _ => False := by
  have he : hid (fun _ => False) H = H := funext fun a => hid_no fun z => z
  refine ⟨fun _ => False, ns, (fun _ z => z.elim), ⟨⟨a, _, rfl, by rw [he]; exact h, Al.of_ints ns, by show _ ≤ bigN; unfold bigN; omega⟩, trivial⟩, trivial, fun v y H' po _ r => ?_⟩
  have r : v = .bl y := r
  have po : y = true := po
  rw [r, po]
end K05
open PySem PySem.W PySem.Calls PyProof.Rows
theorem PySem.Challenge.cw_longchances_k05_f_points_in_order_and_wh_holds : PySem.Challenge.rw_longchances_k05_f_points_in_order_and_wh.Holds := by
  w_on; o_law
  refine HandSHeadRun.head_imp (r := OpenLaw.row PySem.Challenge.rw_longchances_k05_f_points_in_order_and_wh) (q := view (OpenLaw.row PySem.Challenge.rw_longchances_k05_f_points_in_order_and_wh).prog [0, 31]) (H := K05.hk) (ob := K05.ob) (M := 4000) (loose := K05.loose) (d := HandSHeadRun.topDef (OpenLaw.row PySem.Challenge.rw_longchances_k05_f_points_in_order_and_wh).prog 31) (kwd := []) K05.ob_eq K05.run
    (by kernel_rfl) (by kernel_rfl) (by kernel_rfl) (by rfl) (by first | assumption | decide +kernel) (by decide +kernel) ⟨rfl, rfl, rfl, rfl, rfl, by decide +kernel⟩ ?hw ?hc
  case hw => w_witness2
  case hc =>
    refine L2.Lc.walkG (l := PySem.Challenge.rw_longchances_k05_f_points_in_order_and_wh) (n := 63) (k := 8) (x := "script") rfl (by decide) (by kernel_rfl) ⟨rfl, by decide, by decide⟩ ?F
    intro w mg fa h Y G hmg0
    obtain ⟨K, KX, c⟩ := Y
    have hmg : mg ("law" : PySem.Str) = some (.ref fa) := by
      have e : (HandSHeadRun.topDef (OpenLaw.row PySem.Challenge.rw_longchances_k05_f_points_in_order_and_wh).prog 31).name = ("law" : PySem.Str) := by kernel_rfl
      rw [← e]
      exact hmg0
    obtain ⟨f, fd, F, g⟩ := (K05.tx KX G c).d_law.ex
    rw [hmg] at g
    cases g
    have b := L2.FunD.bindsA (ps := ["script"]) F fun _ _ _ _ _ _ us hl => match us, hl with | [_], _ => rfl
    exact ⟨K, fd, K05.spLaw K, KX, fun s v => b s [v] rfl, fun H a ns hl _ hS => K05.law_sp H a ns hl hS, fun base X2 G2 => K05.c_law (K05.tx X2 G2 c) _ fd F⟩
end
