import PyProof.Rows.All
import Wide.All
import OpenK.AllK
import Wide.FinOn
import HandS.ForMost
import HandS.Wide
import HandS.Gcd
import HandS.Flow
import HandS.Conv
import HandS.Zip
import HandS.Evl
import HandS.Defaults
import HandS.IsInst
import HandS.Deep
import HandS.TupAny
import KE.KOpsOwn
import HandS.SlotsOwn
import HandS.Style
import KE.KRevSl
import KE.KSortTupG
import HandS.TupSets
import HandS.DictComp
import HandS.TryOnly
import HandS.Base
import HandS.Call
import HandS.HeadHook1
import HandS.HeadHook2
import KE.KDflt
import HandS.Exc
import HandS.ExcValue
import HandS.ExcInit
import HandS.ExcField
import HandS.ExcIs
import HandS.Lambda
import PyProof.ReprReads
import HandS.Ends
import HandS.HeadEnd
import HandS.RaiseMore
import HandS.MakeKwOnly
import KE.KExcIs
import HandS.Small
import HandS.Steps
import HandS.More
import PySem.Challenge.RW_longchances_k04_f_whole_between_by_halvi
import HandS.HeadHook4
import KE.KStateDown
import Lean
import HandS.Head0
import HandS.Head1
import HandS.Head2
import HandS.Head3
import HandS.EndTab

-- part LcBase
section
set_option Elab.async false
set_option linter.all false
set_option maxRecDepth 100000
set_option maxHeartbeats 2000000
/-! # Lc: a reckoning in pure terms over the hand layer: slots hold data of told kinds, a heap but for what may change -/
namespace L2.Lc
open PySem PySem.Spec PyProof.Rows L2
open Evl (Ex ex_l ex_t)

/-! ### heaps -/
open Classical in
/-- the heap without what may change -/
noncomputable def hid (M : Addr → Prop) (H : Hp) : Hp := fun a => if M a then none else H a
section
variable {M : Addr → Prop} {H H' : Hp} {a : Addr} {o : HO}
theorem hid_yes (h : M a) : hid M H a = none := by unfold hid; rw [if_pos h]
theorem hid_no (h : ¬ M a) : hid M H a = H a := by unfold hid; rw [if_neg h]
theorem hid_some (h : hid M H a = some o) : ¬ M a ∧ H a = some o := by
  by_cases q : M a
  · rw [hid_yes q] at h; cases h
  · rw [hid_no q] at h; exact ⟨q, h⟩
theorem hid_le : Ex (hid M H) H := fun _ _ h => (hid_some h).2
theorem hid_mono (e : Ex H H') : Ex (hid M H) (hid M H') := fun a o h => by
  obtain ⟨n, h⟩ := hid_some h
  rw [hid_no n]; exact e a o h
end
def NoT (o : HO) : Prop := ∀ xs, o ≠ .tup xs
/-- what may change is there, and no tuple -/
def Good (M : Addr → Prop) (H : Hp) : Prop := ∀ a, M a → ∃ o, H a = some o ∧ NoT o
theorem Good.ex {M : Addr → Prop} {H H' : Hp} (g : Good M H) (e : Ex H H') : Good M H' := fun a m => by
  obtain ⟨o, h1, h2⟩ := g a m
  exact ⟨o, e a o h1, h2⟩
theorem Good.fresh {M : Addr → Prop} {H : Hp} (g : Good M H) {p : Addr} (h : H p = none) : ¬ M p := fun m => by
  obtain ⟨o, h1, _⟩ := g p m
  rw [h] at h1; cases h1
theorem Good.tup {M : Addr → Prop} {H : Hp} (g : Good M H) {p : Addr} {xs : List V} (h : H p = some (.tup xs)) : ¬ M p := fun m => by
  obtain ⟨o, h1, h2⟩ := g p m
  rw [h] at h1; cases h1
  exact h2 xs rfl

/-! ### kinds of data -/
structure Rl (α : Type) where
  r : Hp → V → α → Prop
  mono : ∀ {H H' : Hp} {v : V} {x : α}, Ex H H' → r H v x → r H' v x
/-- a datum of its kind -/
inductive Ent : Type 1 where
  | mk {α : Type} (R : Rl α) (x : α)
def Ent.ok (G : Hp) (v : V) : Ent → Prop
  | .mk R x => R.r G v x
theorem Ent.ok_mono {G G' : Hp} {v : V} {e : Ent} (x : Ex G G') (h : e.ok G v) : e.ok G' v := by
  cases e with
  | mk R y => exact R.mono x h
abbrev Gm : Type 1 := List (Option Ent)
/-- the slots bear these data -/
def EnvOk (G : Hp) (σ : St) (Γ : Gm) : Prop := σ.length = Γ.length ∧ ∀ (i : Nat) (e : Ent), Γ[i]? = some (some e) → ∃ v, σ[i]? = some (some v) ∧ e.ok G v
section
variable {G G' : Hp} {σ : St} {Γ : Gm} {i : Nat} {e : Ent} {v : V}
theorem EnvOk.mono (h : EnvOk G σ Γ) (x : Ex G G') : EnvOk G' σ Γ := ⟨h.1, fun i e q => by
  obtain ⟨v, h1, h2⟩ := h.2 i e q
  exact ⟨v, h1, Ent.ok_mono x h2⟩⟩
theorem EnvOk.set (h : EnvOk G σ Γ) (r : e.ok G v) : EnvOk G (σ.set i (some v)) (Γ.set i (some e)) := by
  refine ⟨by simp [h.1], fun j f q => ?_⟩
  by_cases hj : i = j
  · subst hj
    by_cases hl : i < Γ.length
    · rw [List.getElem?_set_self hl] at q
      cases q
      exact ⟨v, List.getElem?_set_self (by rw [h.1]; exact hl), r⟩
    · rw [List.getElem?_eq_none (by simpa using hl)] at q; cases q
  · rw [List.getElem?_set_ne hj] at q ⊢
    exact h.2 j f q
theorem EnvOk.wipe (h : EnvOk G σ Γ) : ∀ vs : List Nat, EnvOk G (wipe σ vs) (vs.foldr (fun i (g : Gm) => g.set i none) Γ)
  | [] => h
  | k :: vs => by
    have ih := EnvOk.wipe h vs
    refine ⟨by simp only [L2.wipe, List.foldr_cons, List.length_set]; exact ih.1, fun j f q => ?_⟩
    show ∃ v, ((L2.wipe σ vs).set k none)[j]? = some (some v) ∧ _
    simp only [List.foldr_cons] at q
    by_cases hj : k = j
    · subst hj
      by_cases hl : k < (vs.foldr (fun i (g : Gm) => g.set i none) Γ).length
      · rw [List.getElem?_set_self hl] at q; cases q
      · rw [List.getElem?_eq_none (by simpa using hl)] at q; cases q
    · rw [List.getElem?_set_ne hj] at q ⊢
      exact ih.2 j f q
/-- less is known -/
theorem EnvOk.less {Γ' : Gm} (h : EnvOk G σ Γ) (hl : Γ'.length = Γ.length) (w : ∀ (i : Nat) (e : Ent), Γ'[i]? = some (some e) → Γ[i]? = some (some e)) : EnvOk G σ Γ' := ⟨h.1.trans hl.symm, fun i e q => h.2 i e (w i e q)⟩
end

/-! ### errors -/
/-- an error: its class, its fields -/
structure Er : Type 1 where
  C : Addr
  fs : List (Str × Ent)
def FldOk (G : Hp) (fs : List (Str × V)) (es : List (Str × Ent)) : Prop := ∀ f e, es.lookup f = some e → ∃ v, fs.lookup f = some v ∧ e.ok G v
def Er.ok (G : Hp) (cls : Value) (d : Option Addr) (e : Er) : Prop := cls = .ref e.C ∧ ((e.fs = [] ∧ d = none) ∨ ∃ dd fs, d = some dd ∧ G dd = some (.xd fs) ∧ FldOk G fs e.fs)
theorem Er.ok_mono {G G' : Hp} {cls : Value} {d : Option Addr} {e : Er} (x : Ex G G') (h : e.ok G cls d) : e.ok G' cls d := ⟨h.1, h.2.imp id fun ⟨dd, fs, h1, h2, h3⟩ => ⟨dd, fs, h1, x _ _ h2, fun f y q => by
  obtain ⟨v, q1, q2⟩ := h3 f y q
  exact ⟨v, q1, Ent.ok_mono x q2⟩⟩⟩

/-! ### what changes -/
structure Md (S : Type) where
  inv : S → Hp → Prop
  foot : Addr → Prop
  chg : Addr → Prop
  sub : ∀ a, chg a → foot a
  live : ∀ {n H a}, inv n H → foot a → H a ≠ none
  frame : ∀ {n H H'}, inv n H → (∀ a, foot a → H' a = H a) → (∀ a φ, H a = some (.ext φ) → H' a = some (.ext φ)) → inv n H'
  nt : ∀ {n H a}, inv n H → chg a → ∀ xs, H a ≠ some (.tup xs)
  E : XK := fun _ _ _ => False
  XP : Er → S → Prop := fun _ _ => False
/-- nothing changes -/
def pm : Md Unit where
  inv := fun _ _ => True
  foot := fun _ => False
  chg := fun _ => False
  sub := fun _ h => h
  live := fun _ h => h.elim
  frame := fun _ _ _ => trivial
  nt := fun _ h => h.elim
/-- the same, and what is wished of errors -/
def Md.wx {S : Type} (m : Md S) (E : XK) (XP : Er → S → Prop) : Md S := { m with E := E, XP := XP }
def ExM {S : Type} (m : Md S) (H H' : Hp) : Prop := ∀ a o, ¬ m.chg a → H a = some o → H' a = some o
section
variable {S : Type} {m : Md S} {M : Addr → Prop} {H H1 H2 : Hp} {n k : S}
theorem ExM.refl : ExM m H H := fun _ _ _ h => h
theorem ExM.trans (a : ExM m H H1) (b : ExM m H1 H2) : ExM m H H2 := fun x o n h => b x o n (a x o n h)
theorem ExM.of (e : Ex H H1) : ExM m H H1 := fun a o _ h => e a o h
theorem ExM.hid (e : ExM m H H1) (hm : ∀ a, m.chg a → M a) : Ex (hid M H) (hid M H1) := fun a o h => by
  obtain ⟨n, h⟩ := hid_some h
  rw [hid_no n]; exact e a o (fun z => n (hm a z)) h
theorem Md.kept (i : m.inv n H) (e : Ex H H1) : m.inv n H1 := m.frame i (fun a f => by
  cases q : H a with
  | none => exact absurd q (m.live i f)
  | some o => exact e a o q) fun a φ q => e a _ q
end
structure Cond {S : Type} (m : Md S) (M : Addr → Prop) (H : Hp) (n : S) : Prop where
  good : Good M H
  mm : ∀ a, m.chg a → M a
  inv : m.inv n H
  exc : ∀ e k H' cls d, m.XP e k → ExM m H H' → m.inv k H' → e.ok (hid M H') cls d → m.E cls d H'
section
variable {S : Type} {m : Md S} {M : Addr → Prop} {H H1 H2 : Hp} {n k : S}
theorem Cond.ex (c : Cond m M H n) (e : Ex H H1) : Cond m M H1 n := ⟨c.good.ex e, c.mm, m.kept c.inv e, fun y k H' cls d p x => c.exc y k H' cls d p ((ExM.of e).trans x)⟩
theorem Md.has (i : m.inv n H) {a : Addr} (z : m.chg a) : ∃ o, H a = some o ∧ NoT o := by
  cases q : H a with
  | none => exact absurd q (m.live i (m.sub a z))
  | some o => exact ⟨o, rfl, fun xs e => m.nt i z xs (by rw [q, e])⟩
theorem Cond.go (c : Cond m M H n) (e : ExM m H H1) (i : m.inv k H1) : Cond m M H1 k := ⟨fun a ma => by
  by_cases z : m.chg a
  · exact Md.has i z
  · obtain ⟨o, h1, h2⟩ := c.good a ma
    exact ⟨o, e a o z h1, h2⟩, c.mm, i, fun y k H' cls d p x => c.exc y k H' cls d p (e.trans x)⟩
theorem Cond.new (c : Cond m M H n) {p : Addr} {o : HO} (h : H p = none) : Cond m M (upd H p o) n := c.ex (Evl.Ex.new h)
end

/-! ### judgements -/
def EvW {S : Type} (m : Md S) (te : TE) (Γ : Gm) (n : S) {α : Type} (R : Rl α) (Post : α → S → Prop) : Prop :=
  ∀ (M : Addr → Prop) (σ : St) (H : Hp), Cond m M H n → EnvOk (hid M H) σ Γ → ∀ Q : VK,
    (∀ v x n' H', Post x n' → ExM m H H' → m.inv n' H' → R.r (hid M H') v x → Q v H') → te σ H Q
def TeW {S : Type} (m : Md S) (t : TT) (Γ : Gm) (n : S) (Post : Bool → S → Prop) : Prop :=
  ∀ (M : Addr → Prop) (σ : St) (H : Hp), Cond m M H n → EnvOk (hid M H) σ Γ → ∀ Q : Bool → Hp → Prop,
    (∀ b n' H', Post b n' → ExM m H H' → m.inv n' H' → Q b H') → t σ H Q
def ArgsOk (G : Hp) : List V → List Ent → Prop
  | [], [] => True
  | v :: vs, e :: es => e.ok G v ∧ ArgsOk G vs es
  | _, _ => False
theorem ArgsOk.mono {G G' : Hp} (x : Ex G G') : ∀ {vs : List V} {es : List Ent}, ArgsOk G vs es → ArgsOk G' vs es
  | [], [], _ => trivial
  | _ :: _, _ :: _, h => ⟨Ent.ok_mono x h.1, ArgsOk.mono x h.2⟩
  | [], _ :: _, h => h.elim
  | _ :: _, [], h => h.elim
theorem ArgsOk.len {G : Hp} : ∀ {vs : List V} {es : List Ent}, ArgsOk G vs es → vs.length = es.length
  | [], [], _ => rfl
  | _ :: _, _ :: _, h => congrArg Nat.succ (ArgsOk.len h.2)
  | [], _ :: _, h => h.elim
  | _ :: _, [], h => h.elim
def ArW {S : Type} (m : Md S) (ta : TA) (Γ : Gm) (n : S) (Post : List Ent → S → Prop) : Prop :=
  ∀ (M : Addr → Prop) (σ : St) (H : Hp), Cond m M H n → EnvOk (hid M H) σ Γ → ∀ Q : List V → Hp → Prop,
    (∀ vs es n' H', Post es n' → ExM m H H' → m.inv n' H' → ArgsOk (hid M H') vs es → Q vs H') → ta σ H Q
structure Dn (S β : Type) where
  nx : Gm → S → Prop
  rt : β → S → Prop
  bk : Gm → S → Prop := fun _ _ => False
  ct : Gm → S → Prop := fun _ _ => False
structure EndsOk {S β : Type} (m : Md S) (M : Addr → Prop) (H : Hp) (R : Rl β) (D : Dn S β) (E : Ends) : Prop where
  nx : ∀ Γ n σ H', D.nx Γ n → ExM m H H' → m.inv n H' → EnvOk (hid M H') σ Γ → E.nx σ H'
  rt : ∀ x n v H', D.rt x n → ExM m H H' → m.inv n H' → R.r (hid M H') v x → E.rt v H'
  bk : ∀ Γ n σ H', D.bk Γ n → ExM m H H' → m.inv n H' → EnvOk (hid M H') σ Γ → E.bk σ H'
  ct : ∀ Γ n σ H', D.ct Γ n → ExM m H H' → m.inv n H' → EnvOk (hid M H') σ Γ → E.ct σ H'
def StW {S β : Type} (m : Md S) (ts : TS) (Γ : Gm) (n : S) (R : Rl β) (D : Dn S β) : Prop :=
  ∀ (M : Addr → Prop) (σ : St) (H : Hp), Cond m M H n → EnvOk (hid M H) σ Γ → ∀ E : Ends, EndsOk m M H R D E → ts E σ H
/-- a target takes a datum -/
def TgW (g : TG) {α : Type} (R : Rl α) (x : α) (Γ : Gm) (Post : Gm → Prop) : Prop :=
  ∀ (M : Addr → Prop) (σ : St) (H : Hp) (v : V), EnvOk (hid M H) σ Γ → R.r (hid M H) v x → ∀ Q : St → Hp → Prop, (∀ σ' Γ', Post Γ' → EnvOk (hid M H) σ' Γ' → Q σ' H) → g v σ H Q
theorem EndsOk.at {S β : Type} {m : Md S} {M : Addr → Prop} {H H1 : Hp} {R : Rl β} {D : Dn S β} {E : Ends} (h : EndsOk m M H R D E) (e : ExM m H H1) : EndsOk m M H1 R D E :=
  ⟨fun Γ n σ H' d x => h.nx Γ n σ H' d (e.trans x), fun y n v H' d x => h.rt y n v H' d (e.trans x), fun Γ n σ H' d x => h.bk Γ n σ H' d (e.trans x), fun Γ n σ H' d x => h.ct Γ n σ H' d (e.trans x)⟩

/-! ### kinds -/
def rInt : Rl Int := ⟨fun _ v x => v = .int x, fun _ h => h⟩
def rBl : Rl Bool := ⟨fun _ v x => v = .bl x, fun _ h => h⟩
def rStr : Rl Str := ⟨fun _ v x => v = .str x, fun _ h => h⟩
def rNon : Rl Unit := ⟨fun _ v _ => v = .non, fun _ h => h⟩
/-- this very object -/
def rAt (a : Addr) : Rl Unit := ⟨fun _ v _ => v = .ref a, fun _ h => h⟩
/-- items of their kinds -/
inductive Al {α : Type} (P : V → α → Prop) : List V → List α → Prop where
  | nil : Al P [] []
  | cons {v x vs xs} : P v x → Al P vs xs → Al P (v :: vs) (x :: xs)
section
variable {α β : Type} {P P' : V → α → Prop}
theorem Al.mono : ∀ {vs : List V} {xs : List α}, (∀ v x, P v x → P' v x) → Al P vs xs → Al P' vs xs
  | _, _, _, .nil => .nil
  | _, _, f, .cons h t => .cons (f _ _ h) (Al.mono f t)
theorem Al.len : ∀ {vs : List V} {xs : List α}, Al P vs xs → vs.length = xs.length
  | _, _, .nil => rfl
  | _, _, .cons _ t => congrArg Nat.succ (Al.len t)
theorem Al.get : ∀ {vs : List V} {xs : List α} {i : Nat} {x : α}, Al P vs xs → xs[i]? = some x → ∃ v, vs[i]? = some v ∧ P v x
  | _, _, _, _, .nil, e => by simp at e
  | _, _, 0, _, .cons h _, e => by simp at e; subst e; exact ⟨_, rfl, h⟩
  | _, _, i + 1, x, .cons _ t, e => by
    obtain ⟨v, h1, h2⟩ := Al.get (i := i) (x := x) t (by simpa using e)
    exact ⟨v, by simpa using h1, h2⟩
theorem Al.getV : ∀ {vs : List V} {xs : List α} {i : Nat} {v : V}, Al P vs xs → vs[i]? = some v → ∃ x, xs[i]? = some x ∧ P v x
  | _, _, _, _, .nil, e => by simp at e
  | _, _, 0, _, .cons h _, e => by simp at e; subst e; exact ⟨_, rfl, h⟩
  | _, _, i + 1, x, .cons _ t, e => by
    obtain ⟨v, h1, h2⟩ := Al.getV (i := i) (v := x) t (by simpa using e)
    exact ⟨v, by simpa using h1, h2⟩
theorem Al.append : ∀ {vs ws : List V} {xs ys : List α}, Al P vs xs → Al P ws ys → Al P (vs ++ ws) (xs ++ ys)
  | _, _, _, _, .nil, s => s
  | _, _, _, _, .cons r t, s => .cons r (Al.append t s)
theorem Al.take : ∀ {vs : List V} {xs : List α} (n : Nat), Al P vs xs → Al P (vs.take n) (xs.take n)
  | _, _, 0, _ => .nil
  | _, _, _ + 1, .nil => .nil
  | _, _, n + 1, .cons r t => .cons r (Al.take n t)
theorem Al.drop : ∀ {vs : List V} {xs : List α} (n : Nat), Al P vs xs → Al P (vs.drop n) (xs.drop n)
  | _, _, 0, r => r
  | _, _, _ + 1, .nil => .nil
  | _, _, n + 1, .cons _ t => Al.drop n t
theorem Al.reverse : ∀ {vs : List V} {xs : List α}, Al P vs xs → Al P vs.reverse xs.reverse
  | _, _, .nil => .nil
  | _, _, .cons r t => by
    rw [List.reverse_cons, List.reverse_cons]
    exact Al.append (Al.reverse t) (.cons r .nil)
theorem Al.erase : ∀ {vs : List V} {xs : List α} (n : Nat), Al P vs xs → Al P (vs.eraseIdx n) (xs.eraseIdx n)
  | _, _, _, .nil => .nil
  | _, _, 0, .cons _ t => t
  | _, _, n + 1, .cons r t => .cons r (Al.erase n t)
theorem Al.map {f : α → V} (h : ∀ x, P (f x) x) : ∀ xs : List α, Al P (xs.map f) xs
  | [] => .nil
  | x :: xs => .cons (h x) (Al.map h xs)
end
theorem Al.ints {G : Hp} : ∀ {vs : List V} {xs : List Int}, Al (fun v x => rInt.r G v x) vs xs → vs = xs.map V.int
  | _, _, .nil => rfl
  | _, _, .cons h t => by rw [Al.ints t, (show _ = V.int _ from h)]; rfl
theorem Al.of_ints {G : Hp} : ∀ xs : List Int, Al (fun v x => rInt.r G v x) (xs.map V.int) xs := Al.map fun _ => rfl
/-- the most items that are spoken of -/
abbrev bigN : Nat := 100000
theorem bigN_line : bigN < sizeLine := by decide
variable (K : PySem.W.Frag)
/-- a list, of the text's or laid -/
def rSql {α : Type} (R : Rl α) : Rl (List α) := ⟨fun G v l => ∃ a vs, v = .ref a ∧ SqL K G a vs ∧ Al (fun v x => R.r G v x) vs l ∧ l.length ≤ bigN, fun e ⟨a, vs, h1, h2, h3, h4⟩ => ⟨a, vs, h1, ex_l e h2, h3.mono fun _ _ q => R.mono e q, h4⟩⟩

def rLst (_ : PySem.W.Frag) {α : Type} (R : Rl α) : Rl (List α) := ⟨fun G v l => ∃ a vs, v = .ref a ∧ G a = some (.lst vs) ∧ Al (fun v x => R.r G v x) vs l ∧ l.length ≤ bigN, fun e ⟨a, vs, h1, h2, h3, h4⟩ => ⟨a, vs, h1, e _ _ h2, h3.mono fun _ _ q => R.mono e q, h4⟩⟩
def rTup {α : Type} (R : Rl α) : Rl (List α) := ⟨fun G v l => ∃ a vs, v = .ref a ∧ SqT K G a vs ∧ Al (fun v x => R.r G v x) vs l ∧ l.length ≤ bigN, fun e ⟨a, vs, h1, h2, h3, h4⟩ => ⟨a, vs, h1, ex_t e h2, h3.mono fun _ _ q => R.mono e q, h4⟩⟩
/-- a pair, a tuple -/
def rPr {α β : Type} (R : Rl α) (S : Rl β) : Rl (α × β) := ⟨fun G v p => ∃ a x y, v = .ref a ∧ SqT K G a [x, y] ∧ R.r G x p.1 ∧ S.r G y p.2, fun e ⟨a, x, y, h1, h2, h3, h4⟩ => ⟨a, x, y, h1, ex_t e h2, R.mono e h3, S.mono e h4⟩⟩
theorem lst_sql {K : PySem.W.Frag} {α : Type} {R : Rl α} {G : Hp} {v : V} {l : List α} (h : (rLst K R).r G v l) : (rSql K R).r G v l := by
  obtain ⟨a, vs, h1, h2, h3⟩ := h
  exact ⟨a, vs, h1, .of h2, h3⟩
end L2.Lc
end

-- part LcRules
section
set_option Elab.async false
set_option linter.all false
set_option maxRecDepth 100000
set_option maxHeartbeats 200000
/-! # Rules of the reckoning -/
namespace L2.Lc
open PySem PySem.Spec PyProof.Rows L2
open Evl (Ex ex_l ex_t)

/-! ### targets: the slots that they store -/
def Upd (is : List Nat) (σ σ' : St) : Prop := σ'.length = σ.length ∧ ∀ j, j ∉ is → σ'[j]? = σ[j]?
theorem wipe_get (σ : St) : ∀ (vs : List Nat) (j : Nat), (wipe σ vs)[j]? = if j ∈ vs then (if j < σ.length then some none else none) else σ[j]?
  | [], j => by simp [wipe]
  | v :: vs, j => by
    unfold wipe
    by_cases e : v = j
    · subst e
      rw [List.getElem?_set]
      simp [wipe_length]
    · rw [List.getElem?_set_ne e, wipe_get σ vs j]
      have : (j ∈ v :: vs) ↔ j ∈ vs := by simp [Ne.symm e]
      simp only [this]
theorem Upd.wipe {is vs : List Nat} {σ σ' : St} (h : Upd is (wipe σ vs) σ') (s : ∀ i ∈ is, i ∈ vs) : wipe σ' vs = wipe σ vs := by
  have hl : σ'.length = σ.length := h.1.trans (wipe_length σ vs)
  apply List.ext_getElem?
  intro j
  rw [wipe_get, wipe_get, hl]
  by_cases q : j ∈ vs
  · rw [if_pos q, if_pos q]
  · rw [if_neg q, if_neg q, h.2 j (fun z => q (s j z)), wipe_get, if_neg q]
def TgI (is : List Nat) (g : TG) {α : Type} (R : Rl α) (x : α) (Γ : Gm) (Post : Gm → Prop) : Prop :=
  ∀ (M : Addr → Prop) (σ : St) (H : Hp) (v : V), EnvOk (hid M H) σ Γ → R.r (hid M H) v x → ∀ Q : St → Hp → Prop, (∀ σ' Γ', Post Γ' → EnvOk (hid M H) σ' Γ' → Upd is σ σ' → Q σ' H) → g v σ H Q
section
variable {α β γ : Type} {R : Rl α} {S : Rl β} {x : α} {y : β} {Γ : Gm} {Post : Gm → Prop} {K : PySem.W.Frag}
theorem tg_name {i : Nat} (h : Post (Γ.set i (some (.mk R x)))) : TgI [i] (gName i) R x Γ Post := fun M σ H v e r Q k =>
  k _ _ h (e.set (e := .mk R x) r) ⟨by simp, fun j hj => List.getElem?_set_ne (fun z => hj (by simp [z]))⟩
theorem tg_pair {is js : List Nat} {g1 g2 : TG} (h : TgI is g1 R x Γ fun Γ1 => TgI js g2 S y Γ1 Post) : TgI (is ++ js) (gTup K 2 (gCons g1 (gCons g2 gNil))) (rPr K R S) (x, y) Γ Post := fun M σ H v e r Q k => by
  obtain ⟨a, u, w, rfl, ht, r1, r2⟩ := r
  refine ⟨a, _, rfl, ex_t hid_le ht, rfl, ?_⟩
  refine ⟨u, [w], rfl, h M σ H u e r1 _ fun σ1 Γ1 p1 e1 u1 => ?_⟩
  refine ⟨w, [], rfl, p1 M σ1 H w e1 r2 _ fun σ2 Γ2 p2 e2 u2 => ?_⟩
  exact ⟨rfl, k σ2 Γ2 p2 e2 ⟨u2.1.trans u1.1, fun j hj => (u2.2 j fun z => hj (by simp [z])).trans (u1.2 j fun z => hj (by simp [z]))⟩⟩
end

/-! ### expressions -/
section
variable {Z : Type} {m : Md Z} {Γ : Gm} {n : Z} {α β γ : Type} {R : Rl α} {S : Rl β} {T : Rl γ} {Post : γ → Z → Prop} {K : PySem.W.Frag} {ta tb : TE}
theorem w_var {i : Nat} {x : γ} (h : Γ[i]? = some (some (.mk T x))) (p : Post x n) : EvW m (tVar i) Γ n T Post := fun M σ H c e Q k => by
  obtain ⟨v, h1, h2⟩ := e.2 i _ h
  exact ⟨v, h1, k v x n H p .refl c.inv h2⟩
theorem w_int {i : Int} {Post : Int → Z → Prop} (p : Post i n) : EvW m (tC (.int i)) Γ n rInt Post := fun M σ H c e Q k => k _ i n H p .refl c.inv rfl
theorem w_bl {b : Bool} {Post : Bool → Z → Prop} (p : Post b n) : EvW m (tC (.bl b)) Γ n rBl Post := fun M σ H c e Q k => k _ b n H p .refl c.inv rfl
theorem w_str {z : Str} {Post : Str → Z → Prop} (p : Post z n) : EvW m (tC (.str z)) Γ n rStr Post := fun M σ H c e Q k => k _ z n H p .refl c.inv rfl
/-- what a two-place operation does with data -/
def OpW (r : R2) (R : Rl α) (S : Rl β) (T : Rl γ) (C : α → β → Prop) (f : α → β → γ) : Prop :=
  ∀ (M : Addr → Prop) (H : Hp) (v u : V) (x : α) (y : β), Good M H → R.r (hid M H) v x → S.r (hid M H) u y → C x y → ∀ Q : VK, (∀ z H', Ex H H' → T.r (hid M H') z (f x y) → Q z H') → r v u H Q
theorem w_op {r : R2} {C : α → β → Prop} {f : α → β → γ} (hr : OpW r R S T C f) (h : EvW m ta Γ n R fun x n1 => EvW m tb Γ n1 S fun y n2 => C x y ∧ Post (f x y) n2) : EvW m (tOp r ta tb) Γ n T Post := fun M σ H c e Q k =>
  h M σ H c e _ fun v x n1 H1 p1 e1 i1 r1 => p1 M σ H1 (c.go e1 i1) (e.mono (e1.hid c.mm)) _ fun u y n2 H2 p2 e2 i2 r2 =>
    hr M H2 v u x y (c.go (e1.trans e2) i2).good (R.mono (e2.hid c.mm) r1) r2 p2.1 Q fun z H' ex rz => k z _ n2 H' p2.2 ((e1.trans e2).trans (.of ex)) (m.kept i2 ex) rz
theorem w_op0 {r : R2} {f : α → β → γ} (hr : OpW r R S T (fun _ _ => True) f) (h : EvW m ta Γ n R fun x n1 => EvW m tb Γ n1 S fun y n2 => Post (f x y) n2) : EvW m (tOp r ta tb) Γ n T Post :=
  w_op hr fun M σ H c e Q k => h M σ H c e Q fun v x n' H' p => k v x n' H' fun M σ H c e Q k => p M σ H c e Q fun v y n' H' p => k v y n' H' ⟨trivial, p⟩
def UnW (r : V → Hp → VK → Prop) (R : Rl α) (T : Rl γ) (f : α → γ) : Prop :=
  ∀ (M : Addr → Prop) (H : Hp) (v : V) (x : α), Good M H → R.r (hid M H) v x → ∀ Q : VK, (∀ z H', Ex H H' → T.r (hid M H') z (f x) → Q z H') → r v H Q
theorem w_un {r : V → Hp → VK → Prop} {f : α → γ} (hr : UnW r R T f) (h : EvW m ta Γ n R fun x n1 => Post (f x) n1) : EvW m (tUn r ta) Γ n T Post := fun M σ H c e Q k =>
  h M σ H c e _ fun v x n1 H1 p1 e1 i1 r1 => hr M H1 v x (c.go e1 i1).good r1 Q fun z H' ex rz => k z _ n1 H' p1 (e1.trans (.of ex)) (m.kept i1 ex) rz
theorem w_mono {Post' : γ → Z → Prop} (h : EvW m ta Γ n T Post) (w : ∀ x n, Post x n → Post' x n) : EvW m ta Γ n T Post' := fun M σ H c e Q k => h M σ H c e Q fun v x n' H' p => k v x n' H' (w x n' p)

/-! ### tests -/
theorem t_test {Post : Bool → Z → Prop} (h : EvW m ta Γ n rBl Post) : TeW m (tTest ta) Γ n Post := fun M σ H c e Q k =>
  h M σ H c e _ fun v x n1 H1 p1 e1 i1 r1 => ⟨x, r1, k x n1 H1 p1 e1 i1⟩
theorem t_B {Post : Bool → Z → Prop} (h : EvW m ta Γ n rBl Post) : TeW m (tB ta) Γ n Post := fun M σ H c e Q k =>
  h M σ H c e _ fun v x n1 H1 p1 e1 i1 r1 => ⟨x, r1, k x n1 H1 p1 e1 i1⟩
theorem t_yes {Post : Bool → Z → Prop} (h : Post true n) : TeW m tYes Γ n Post := fun M σ H c e Q k => k true n H h .refl c.inv
theorem t_and {t u : TT} {Post : Bool → Z → Prop} (h : TeW m t Γ n fun b n1 => (b = true → TeW m u Γ n1 Post) ∧ (b = false → Post false n1)) : TeW m (tAnd t u) Γ n Post := fun M σ H c e Q k =>
  h M σ H c e _ fun b n1 H1 p1 e1 i1 => by
    cases b with
    | true => exact p1.1 rfl M σ H1 (c.go e1 i1) (e.mono (e1.hid c.mm)) Q fun b n2 H2 p2 e2 i2 => k b n2 H2 p2 (e1.trans e2) i2
    | false => exact k false n1 H1 (p1.2 rfl) e1 i1
theorem t_or {t u : TT} {Post : Bool → Z → Prop} (h : TeW m t Γ n fun b n1 => (b = false → TeW m u Γ n1 Post) ∧ (b = true → Post true n1)) : TeW m (tOr t u) Γ n Post := fun M σ H c e Q k =>
  h M σ H c e _ fun b n1 H1 p1 e1 i1 => by
    cases b with
    | false => exact p1.1 rfl M σ H1 (c.go e1 i1) (e.mono (e1.hid c.mm)) Q fun b n2 H2 p2 e2 i2 => k b n2 H2 p2 (e1.trans e2) i2
    | true => exact k true n1 H1 (p1.2 rfl) e1 i1
theorem t_not {t : TT} {Post : Bool → Z → Prop} (h : TeW m t Γ n fun b n1 => Post (!b) n1) : TeW m (tNot t) Γ n Post := fun M σ H c e Q k => h M σ H c e _ fun b n1 H1 p1 e1 i1 => k _ n1 H1 p1 e1 i1
/-- a value's truth -/
def TruW (K : PySem.W.Frag) (R : Rl α) (f : α → Bool) : Prop := ∀ (G : Hp) (v : V) (x : α), R.r G v x → TruV K v G (f x)
def tTru (K : PySem.W.Frag) (ta : TE) : TT := fun σ H Q => ta σ H fun x H' => ∃ k, TruV K x H' k ∧ Q k H'
theorem truV_mono {K : PySem.W.Frag} {G H : Hp} {v : V} {b : Bool} (e : Ex G H) (h : TruV K v G b) : TruV K v H b := by
  cases v with
  | ref p =>
    rcases (show (∃ xs, SqL K G p xs ∧ b = !xs.isEmpty) ∨ (∃ xs, SqT K G p xs ∧ b = !xs.isEmpty) ∨ ∃ kvs, G p = some (.dK kvs) ∧ b = !kvs.isEmpty from h) with ⟨xs, h1, h2⟩ | ⟨xs, h1, h2⟩ | ⟨xs, h1, h2⟩
    · exact .inl ⟨xs, ex_l e h1, h2⟩
    · exact .inr (.inl ⟨xs, ex_t e h1, h2⟩)
    · exact .inr (.inr ⟨xs, e _ _ h1, h2⟩)
  | _ => exact h
theorem t_tru {f : α → Bool} {Post : Bool → Z → Prop} (hf : TruW K R f) (h : EvW m ta Γ n R fun x n1 => Post (f x) n1) : TeW m (tTru K ta) Γ n Post := fun M σ H c e Q k =>
  h M σ H c e _ fun v x n1 H1 p1 e1 i1 r1 => ⟨f x, truV_mono hid_le (hf _ v x r1), k _ n1 H1 p1 e1 i1⟩
theorem tru_int : TruW K rInt (fun i => i != 0) := fun _ v x h => by
  have h : v = .int x := h
  subst h; rfl
theorem tru_bl : TruW K rBl (fun i => i) := fun _ v x h => by
  have h : v = .bl x := h
  subst h; rfl
theorem w_if {t : TT} (h : TeW m t Γ n fun b n1 => (b = true → EvW m ta Γ n1 T Post) ∧ (b = false → EvW m tb Γ n1 T Post)) : EvW m (tIf t ta tb) Γ n T Post := fun M σ H c e Q k =>
  h M σ H c e _ fun b n1 H1 p1 e1 i1 => by
    cases b with
    | true => exact p1.1 rfl M σ H1 (c.go e1 i1) (e.mono (e1.hid c.mm)) Q fun v x n2 H2 p2 e2 i2 => k v x n2 H2 p2 (e1.trans e2) i2
    | false => exact p1.2 rfl M σ H1 (c.go e1 i1) (e.mono (e1.hid c.mm)) Q fun v x n2 H2 p2 e2 i2 => k v x n2 H2 p2 (e1.trans e2) i2
theorem w_andV {Post : Bool → Z → Prop} (h : EvW m ta Γ n rBl fun b n1 => (b = true → EvW m tb Γ n1 rBl Post) ∧ (b = false → Post false n1)) : EvW m (tAndV ta tb) Γ n rBl Post := fun M σ H c e Q k =>
  h M σ H c e _ fun v b n1 H1 p1 e1 i1 r1 => ⟨b, r1, by
    cases b with
    | true => exact p1.1 rfl M σ H1 (c.go e1 i1) (e.mono (e1.hid c.mm)) Q fun v x n2 H2 p2 e2 i2 => k v x n2 H2 p2 (e1.trans e2) i2
    | false => exact k _ false n1 H1 (p1.2 rfl) e1 i1 rfl⟩
theorem w_orV {Post : Bool → Z → Prop} (h : EvW m ta Γ n rBl fun b n1 => (b = false → EvW m tb Γ n1 rBl Post) ∧ (b = true → Post true n1)) : EvW m (tOrV ta tb) Γ n rBl Post := fun M σ H c e Q k =>
  h M σ H c e _ fun v b n1 H1 p1 e1 i1 r1 => ⟨b, r1, by
    cases b with
    | false => exact p1.1 rfl M σ H1 (c.go e1 i1) (e.mono (e1.hid c.mm)) Q fun v x n2 H2 p2 e2 i2 => k v x n2 H2 p2 (e1.trans e2) i2
    | true => exact k _ true n1 H1 (p1.2 rfl) e1 i1 rfl⟩
theorem w_orT {f : γ → Bool} {Post : γ → Z → Prop} (hf : TruW K T f) (h : EvW m ta Γ n T fun x n1 => (f x = true → Post x n1) ∧ (f x = false → EvW m tb Γ n1 T Post)) : EvW m (tOrT K ta tb) Γ n T Post := fun M σ H c e Q k =>
  h M σ H c e _ fun v x n1 H1 p1 e1 i1 r1 => ⟨f x, truV_mono hid_le (hf _ v x r1), by
    cases q : f x with
    | true => exact k v x n1 H1 (p1.1 q) e1 i1 r1
    | false => exact p1.2 q M σ H1 (c.go e1 i1) (e.mono (e1.hid c.mm)) Q fun v x n2 H2 p2 e2 i2 => k v x n2 H2 p2 (e1.trans e2) i2⟩
theorem w_notV {Post : Bool → Z → Prop} (h : EvW m ta Γ n rBl fun b n1 => Post (!b) n1) : EvW m (tNotV ta) Γ n rBl Post := fun M σ H c e Q k =>
  h M σ H c e _ fun v b n1 H1 p1 e1 i1 r1 => ⟨b, r1, k _ _ n1 H1 p1 e1 i1 rfl⟩

/-! ### arguments, displays -/
theorem a_nil {Post : List Ent → Z → Prop} (p : Post [] n) : ArW m tNil Γ n Post := fun M σ H c e Q k => k [] [] n H p .refl c.inv trivial
theorem a_cons {tr : TA} {Post : List Ent → Z → Prop} (h : EvW m ta Γ n R fun x n1 => ArW m tr Γ n1 fun es n2 => Post (.mk R x :: es) n2) : ArW m (tCons ta tr) Γ n Post := fun M σ H c e Q k =>
  h M σ H c e _ fun v x n1 H1 p1 e1 i1 r1 => p1 M σ H1 (c.go e1 i1) (e.mono (e1.hid c.mm)) _ fun vs es n2 H2 p2 e2 i2 a2 => k _ _ n2 H2 p2 (e1.trans e2) i2 ⟨R.mono (e2.hid c.mm) r1, a2⟩
theorem argsAl {G : Hp} : ∀ {vs : List V} {l : List α}, ArgsOk G vs (l.map fun x => Ent.mk R x) → Al (fun v x => R.r G v x) vs l
  | [], [], _ => .nil
  | _ :: _, _ :: _, h => .cons h.1 (argsAl h.2)
  | [], _ :: _, h => h.elim
  | _ :: _, [], h => h.elim
theorem new_l {M : Addr → Prop} {H : Hp} {p : Addr} {vs : List V} (hp : H p = none) (g : Good M H) : hid M (upd H p (.lst vs)) p = some (.lst vs) := by rw [hid_no (g.fresh hp), upd_same]
theorem new_t {M : Addr → Prop} {H : Hp} {p : Addr} {vs : List V} (hp : H p = none) (g : Good M H) : SqT K (hid M (upd H p (.tup vs))) p vs := .of (by rw [hid_no (g.fresh hp), upd_same])
theorem w_lst {t : TA} {Post : List α → Z → Prop} (h : ArW m t Γ n fun es n1 => ∃ l : List α, es = l.map (fun x => Ent.mk R x) ∧ l.length ≤ bigN ∧ Post l n1) : EvW m (tLst t) Γ n (rLst K R) Post := fun M σ H c e Q k =>
  h M σ H c e _ fun vs es n1 H1 p1 e1 i1 a1 => by
    obtain ⟨l, rfl, hl, p⟩ := p1
    have hn : vs.length = l.length := by rw [a1.len]; simp
    refine ⟨Nat.le_of_lt (Nat.lt_of_le_of_lt (by omega) bigN_line), fun q hq => ?_⟩
    have x := Evl.Ex.new (o := HO.lst vs) hq
    exact k _ l n1 _ p (e1.trans (.of x)) (m.kept i1 x) ⟨q, vs, rfl, new_l hq (c.go e1 i1).good, (argsAl a1).mono fun _ _ z => R.mono (hid_mono x) z, hl⟩
theorem w_tup {t : TA} {Post : List α → Z → Prop} (h : ArW m t Γ n fun es n1 => ∃ l : List α, es = l.map (fun x => Ent.mk R x) ∧ l.length ≤ bigN ∧ Post l n1) : EvW m (tTup t) Γ n (rTup K R) Post := fun M σ H c e Q k =>
  h M σ H c e _ fun vs es n1 H1 p1 e1 i1 a1 => by
    obtain ⟨l, rfl, hl, p⟩ := p1
    have hn : vs.length = l.length := by rw [a1.len]; simp
    refine ⟨Nat.le_of_lt (Nat.lt_of_le_of_lt (by omega) bigN_line), fun q hq => ?_⟩
    have x := Evl.Ex.new (o := HO.tup vs) hq
    exact k _ l n1 _ p (e1.trans (.of x)) (m.kept i1 x) ⟨q, vs, rfl, new_t hq (c.go e1 i1).good, (argsAl a1).mono fun _ _ z => R.mono (hid_mono x) z, hl⟩
theorem w_pr {Post : α × β → Z → Prop} (h : EvW m ta Γ n R fun x n1 => EvW m tb Γ n1 S fun y n2 => Post (x, y) n2) : EvW m (tTup (tCons ta (tCons tb tNil))) Γ n (rPr K R S) Post := fun M σ H c e Q k =>
  h M σ H c e _ fun v x n1 H1 p1 e1 i1 r1 => p1 M σ H1 (c.go e1 i1) (e.mono (e1.hid c.mm)) _ fun u y n2 H2 p2 e2 i2 r2 => by
    refine ⟨by show 2 ≤ sizeLine; decide, fun q hq => ?_⟩
    have z := Evl.Ex.new (o := HO.tup [v, u]) hq
    exact k _ (x, y) n2 _ p2 ((e1.trans e2).trans (.of z)) (m.kept i2 z) ⟨q, v, u, rfl, new_t hq (c.go (e1.trans e2) i2).good, R.mono (hid_mono z) (R.mono (e2.hid c.mm) r1), S.mono (hid_mono z) r2⟩

/-! ### calls -/
def spS {Z ι α β : Type} (m : ι → Md Z) (A : ι → α → List Ent) (pre : α → Z → Prop) (R : Rl β) (post : α → Z → β → Z → Prop) : Sp := fun vs H Q _ =>
  ∃ i M x n, Cond (m i) M H n ∧ ArgsOk (hid M H) vs (A i x) ∧ pre x n ∧ ∀ v y n' H', post x n y n' → ExM (m i) H H' → (m i).inv n' H' → R.r (hid M H') v y → Q v H'
/-- .. that changes nothing -/
def spP {α β : Type} (A : α → List Ent) (pre : α → Prop) (R : Rl β) (post : α → β → Prop) : Sp := fun vs H Q _ =>
  ∃ M x, Good M H ∧ ArgsOk (hid M H) vs (A x) ∧ pre x ∧ ∀ v y H', post x y → Ex H H' → R.r (hid M H') v y → Q v H'
theorem w_callS {Z ι : Type} {n : Z} {Post : γ → Z → Prop} {m : ι → Md Z} (i : ι) {A : ι → α → List Ent} {pre : α → Z → Prop} {post : α → Z → γ → Z → Prop} {E : XK} {t : TA}
    (h : ArW (m i) t Γ n fun es n1 => ∃ x, es = A i x ∧ pre x n1 ∧ ∀ y n2, post x n1 y n2 → Post y n2) : EvW (m i) (tCall (spS m A pre T post) [] E t) Γ n T Post := fun M σ H c e Q k =>
  h M σ H c e _ fun vs es n1 H1 p1 e1 i1 a1 => by
    obtain ⟨x, rfl, hp, hq⟩ := p1
    rw [List.append_nil]
    exact ⟨i, M, x, n1, c.go e1 i1, a1, hp, fun v y n' H' po x' iv r => k v y n' H' (hq y n' po) (e1.trans x') iv r⟩
theorem w_callP {A : α → List Ent} {pre : α → Prop} {post : α → γ → Prop} {E : XK} {t : TA}
    (h : ArW m t Γ n fun es n1 => ∃ x, es = A x ∧ pre x ∧ ∀ y, post x y → Post y n1) : EvW m (tCall (spP A pre T post) [] E t) Γ n T Post := fun M σ H c e Q k =>
  h M σ H c e _ fun vs es n1 H1 p1 e1 i1 a1 => by
    obtain ⟨x, rfl, hp, hq⟩ := p1
    rw [List.append_nil]
    exact ⟨M, x, (c.go e1 i1).good, a1, hp, fun v y H' po x' r => k v y n1 H' (hq y po) (e1.trans (.of x')) (m.kept i1 x') r⟩
/-- a built-in's call -/
def CbW (r : List V → Hp → VK → Prop) (es : List Ent) (T : Rl γ) (y : γ) : Prop :=
  ∀ (M : Addr → Prop) (H : Hp) (vs : List V), Good M H → ArgsOk (hid M H) vs es → ∀ Q : VK, (∀ z H', Ex H H' → T.r (hid M H') z y → Q z H') → r vs H Q
theorem w_cb {r : List V → Hp → VK → Prop} {t : TA} (h : ArW m t Γ n fun es n1 => ∃ y, CbW r es T y ∧ Post y n1) : EvW m (tCB r t) Γ n T Post := fun M σ H c e Q k =>
  h M σ H c e _ fun vs es n1 H1 p1 e1 i1 a1 => by
    obtain ⟨y, hc, p⟩ := p1
    exact hc M H1 vs (c.go e1 i1).good a1 Q fun z H' ex rz => k z y n1 H' p (e1.trans (.of ex)) (m.kept i1 ex) rz
end

/-! ### what is walked -/
def ItOk {α : Type} (M : Addr → Prop) (J : It) (R : Rl α) (l : List α) (H0 : Hp) : Prop := ∀ (M' : Addr → Prop) (H : Hp), Good M' H → Ex (hid M H0) (hid M' H) →
  (∀ i x, l[i]? = some x → J.go i H ∧ ∀ v H', J.yld i H v H' → Ex H H' ∧ R.r (hid M' H') v x) ∧ J.stop l.length H
def ItW {Z : Type} (m : Md Z) (wi : TI) (Γ : Gm) (n : Z) {α : Type} (R : Rl α) (Post : List α → Z → Prop) : Prop :=
  ∀ (M : Addr → Prop) (σ : St) (H : Hp), Cond m M H n → EnvOk (hid M H) σ Γ → ∀ Y : It → Hp → Prop,
    (∀ J l n' H', Post l n' → ExM m H H' → m.inv n' H' → ItOk M J R l H' → Y J H') → wi σ H Y
section
variable {Z : Type} {m : Md Z} {Γ : Gm} {n : Z} {α β γ : Type} {R : Rl α} {S : Rl β} {T : Rl γ} {K : PySem.W.Frag} {ta : TE}
theorem hid_of {M : Addr → Prop} {G H : Hp} (e : Ex G (hid M H)) : Ex G H := fun a o h => hid_le a o (e a o h)
theorem i_list {Post : List α → Z → Prop} (h : EvW m ta Γ n (rLst K R) Post) : ItW m (iList K ta) Γ n R Post := fun M σ H c e Z k =>
  h M σ H c e _ fun v l n1 H1 p1 e1 i1 r1 => by
    obtain ⟨a, vs, rfl, hs, hA, hl⟩ := lst_sql r1
    refine ⟨a, rfl, ⟨vs, ex_l hid_le hs⟩, k _ l n1 H1 p1 e1 i1 fun M' H' g x => ?_⟩
    have hs' := ex_l x hs
    have hs2 := ex_l hid_le hs'
    refine ⟨fun i y hy => ?_, ⟨vs, hs2, Nat.le_of_eq hA.len⟩⟩
    obtain ⟨w, hw, rw'⟩ := hA.get hy
    refine ⟨⟨vs, w, hs2, hw⟩, fun v H2 hv => ?_⟩
    obtain ⟨rfl, q⟩ := hv
    have := q vs hs2
    rw [hw] at this
    cases this
    exact ⟨fun _ _ h => h, R.mono x rw'⟩
theorem i_tup {Post : List α → Z → Prop} (h : EvW m ta Γ n (rTup K R) Post) : ItW m (iTup K ta) Γ n R Post := fun M σ H c e Z k =>
  h M σ H c e _ fun v l n1 H1 p1 e1 i1 r1 => by
    obtain ⟨a, vs, rfl, hs, hA, hl⟩ := r1
    refine ⟨a, rfl, ⟨vs, ex_t hid_le hs⟩, k _ l n1 H1 p1 e1 i1 fun M' H' g x => ?_⟩
    have hs' := ex_t x hs
    have hs2 := ex_t hid_le hs'
    refine ⟨fun i y hy => ?_, ⟨vs, hs2, Nat.le_of_eq hA.len⟩⟩
    obtain ⟨w, hw, rw'⟩ := hA.get hy
    refine ⟨⟨vs, w, hs2, hw⟩, fun v H2 hv => ?_⟩
    obtain ⟨rfl, q⟩ := hv
    have := q vs hs2
    rw [hw] at this
    cases this
    exact ⟨fun _ _ h => h, R.mono x rw'⟩
theorem args1 {G : Hp} {vs : List V} {e : Ent} (h : ArgsOk G vs [e]) : ∃ v, vs = [v] ∧ e.ok G v := by
  cases vs with
  | nil => exact h.elim
  | cons v vs => cases vs with
    | nil => exact ⟨v, rfl, h.1⟩
    | cons u vs => exact h.2.elim
theorem args2 {G : Hp} {vs : List V} {e f : Ent} (h : ArgsOk G vs [e, f]) : ∃ v u, vs = [v, u] ∧ e.ok G v ∧ f.ok G u := by
  cases vs with
  | nil => exact h.elim
  | cons v vs =>
    obtain ⟨u, rfl, q⟩ := args1 h.2
    exact ⟨v, u, rfl, h.1, q⟩
theorem args3 {G : Hp} {vs : List V} {e f g : Ent} (h : ArgsOk G vs [e, f, g]) : ∃ v u w, vs = [v, u, w] ∧ e.ok G v ∧ f.ok G u ∧ g.ok G w := by
  cases vs with
  | nil => exact h.elim
  | cons v vs =>
    obtain ⟨u, w, rfl, q⟩ := args2 h.2
    exact ⟨v, u, w, rfl, h.1, q⟩
def rangeL (lo : Int) (k : Nat) : List Int := (List.range k).map fun (i : Nat) => lo + (i : Int)
theorem it_range {M : Addr → Prop} {lo : Int} {k : Nat} {H0 : Hp} : ItOk M (Itr lo k) rInt (rangeL lo k) H0 := fun M' H' g x =>
  ⟨fun i y hy => by
    unfold rangeL at hy
    rw [List.getElem?_map] at hy
    cases q : (List.range k)[i]? with
    | none => rw [q] at hy; cases hy
    | some j =>
      rw [q] at hy
      obtain ⟨h1, h2⟩ := List.getElem?_eq_some_iff.mp q
      simp at h1 h2
      subst h2
      have hy : lo + (i : Int) = y := Option.some.inj hy
      subst hy
      refine ⟨h1, fun v H2 hv => ?_⟩
      obtain ⟨rfl, rfl⟩ := hv
      exact ⟨fun _ _ h => h, rfl⟩, by show k ≤ _; simp [rangeL]⟩
theorem i_range {t : TA} {Post : List Int → Z → Prop} (h : ArW m t Γ n fun es n1 => ∃ j : Int, es = [.mk rInt j] ∧ -(2 ^ 62) ≤ j ∧ j < 2 ^ 62 ∧ Post (rangeL 0 j.toNat) n1) : ItW m (iRng1 t) Γ n rInt Post := fun M σ H c e Z k =>
  h M σ H c e _ fun vs es n1 H1 p1 e1 i1 a1 => by
    obtain ⟨j, rfl, h1, h2, p⟩ := p1
    obtain ⟨v, rfl, a⟩ := args1 a1
    have a : v = .int j := a
    subst a
    exact ⟨j, rfl, h1, h2, k _ _ n1 H1 p e1 i1 it_range⟩
theorem i_range2 {t : TA} {Post : List Int → Z → Prop} (h : ArW m t Γ n fun es n1 => ∃ i j : Int, es = [.mk rInt i, .mk rInt j] ∧ (-(2 ^ 62) ≤ i ∧ i < 2 ^ 62 ∧ -(2 ^ 62) ≤ j ∧ j < 2 ^ 62) ∧ Post (rangeL i (j - i).toNat) n1) : ItW m (iRng2 t) Γ n rInt Post := fun M σ H c e Z k =>
  h M σ H c e _ fun vs es n1 H1 p1 e1 i1 a1 => by
    obtain ⟨i, j, rfl, h1, p⟩ := p1
    obtain ⟨v, u, rfl, a, b⟩ := args2 a1
    have a : v = .int i := a
    have b : u = .int j := b
    subst a b
    exact ⟨i, j, rfl, h1, k _ _ n1 H1 p e1 i1 it_range⟩
theorem zip_get {α β : Type} : ∀ {l : List α} {r : List β} {i : Nat} {x : α} {y : β}, (l.zip r)[i]? = some (x, y) → l[i]? = some x ∧ r[i]? = some y
  | [], _, _, _, _, h => by simp at h
  | _ :: _, [], _, _, _, h => by simp at h
  | a :: l, b :: r, 0, x, y, h => by simp at h; exact ⟨by simp [h.1], by simp [h.2]⟩
  | a :: l, b :: r, i + 1, x, y, h => by
    have := zip_get (l := l) (r := r) (i := i) (x := x) (y := y) (by simpa using h)
    exact ⟨by simpa using this.1, by simpa using this.2⟩
/-- zip of two lists -/
theorem i_zipL {t : TA} {Post : List (α × β) → Z → Prop} (h : ArW m t Γ n fun es n1 => ∃ (l : List α) (r : List β), es = [.mk (rLst K R) l, .mk (rLst K S) r] ∧ Post (l.zip r) n1) : ItW m (RZ.iZipA K t) Γ n (rPr K R S) Post := fun M σ H c e Z k =>
  h M σ H c e _ fun vs es n1 H1 p1 e1 i1 a1 => by
    obtain ⟨l, r, rfl, p⟩ := p1
    obtain ⟨v, u, rfl, A1, A2⟩ := args2 a1
    obtain ⟨a, xs, e1', hs, hA, _⟩ := lst_sql A1
    obtain ⟨b, ys, e2', ht, hB, _⟩ := lst_sql A2
    (
      subst e1' e2'
      refine ⟨a, b, xs, ys, rfl, .inl ⟨ex_l hid_le hs, ex_l hid_le ht, k _ (l.zip r) n1 H1 p e1 i1 fun M' H' g x => ?_⟩⟩
      have hs2 := ex_l (hid_of x) hs
      have ht2 := ex_l (hid_of x) ht
      refine ⟨fun i y hy => ?_, ⟨xs, ys, hs2, ht2, ?_⟩⟩
      · obtain ⟨y1, y2⟩ := y
        obtain ⟨g1, g2⟩ := zip_get hy
        obtain ⟨w1, hw1, r1⟩ := hA.get g1
        obtain ⟨w2, hw2, r2⟩ := hB.get g2
        refine ⟨⟨xs, ys, w1, w2, hs2, ht2, hw1, hw2⟩, fun v H2 hv => ?_⟩
        obtain ⟨Tt, x1, x2, rfl, hT, rfl, q1, q2⟩ := hv
        have c1 := q1 xs hs2
        have c2 := q2 ys ht2
        rw [hw1] at c1; rw [hw2] at c2
        cases c1; cases c2
        have nx := Evl.Ex.new (o := HO.tup [w1, w2]) hT
        exact ⟨nx, ⟨Tt, w1, w2, rfl, new_t hT g, R.mono (hid_mono nx) (R.mono x r1), S.mono (hid_mono nx) (S.mono x r2)⟩⟩
      · have := hA.len
        have := hB.len
        rw [List.length_zip]
        omega)
theorem i_zipT {t : TA} {Post : List (α × β) → Z → Prop} (h : ArW m t Γ n fun es n1 => ∃ (l : List α) (r : List β), es = [.mk (rTup K R) l, .mk (rTup K S) r] ∧ Post (l.zip r) n1) : ItW m (RZ.iZipA K t) Γ n (rPr K R S) Post := fun M σ H c e Z k =>
  h M σ H c e _ fun vs es n1 H1 p1 e1 i1 a1 => by
    obtain ⟨l, r, rfl, p⟩ := p1
    obtain ⟨v, u, rfl, A1, A2⟩ := args2 a1
    obtain ⟨a, xs, e1', hs, hA, _⟩ := A1
    obtain ⟨b, ys, e2', ht, hB, _⟩ := A2
    (
      subst e1' e2'
      refine ⟨a, b, xs, ys, rfl, .inr ⟨ex_t hid_le hs, ex_t hid_le ht, k _ (l.zip r) n1 H1 p e1 i1 fun M' H' g x => ?_⟩⟩
      have hs2 := ex_t (hid_of x) hs
      have ht2 := ex_t (hid_of x) ht
      refine ⟨fun i y hy => ?_, ⟨xs, ys, hs2, ht2, ?_⟩⟩
      · obtain ⟨y1, y2⟩ := y
        obtain ⟨g1, g2⟩ := zip_get hy
        obtain ⟨w1, hw1, r1⟩ := hA.get g1
        obtain ⟨w2, hw2, r2⟩ := hB.get g2
        refine ⟨⟨xs, ys, w1, w2, hs2, ht2, hw1, hw2⟩, fun v H2 hv => ?_⟩
        obtain ⟨Tt, x1, x2, rfl, hT, rfl, q1, q2⟩ := hv
        have c1 := q1 xs hs2
        have c2 := q2 ys ht2
        rw [hw1] at c1; rw [hw2] at c2
        cases c1; cases c2
        have nx := Evl.Ex.new (o := HO.tup [w1, w2]) hT
        exact ⟨nx, ⟨Tt, w1, w2, rfl, new_t hT g, R.mono (hid_mono nx) (R.mono x r1), S.mono (hid_mono nx) (S.mono x r2)⟩⟩
      · have := hA.len
        have := hB.len
        rw [List.length_zip]
        omega)

/-! ### comprehensions -/
abbrev wg (Γ : Gm) (vs : List Nat) : Gm := vs.foldr (fun i (g : Gm) => g.set i none) Γ
theorem take_get {l : List α} {i : Nat} {x : α} (h : l[i]? = some x) : l.take (i + 1) = l.take i ++ [x] ∧ l = l.take i ++ x :: l.drop (i + 1) := by
  obtain ⟨h1, h2⟩ := List.getElem?_eq_some_iff.mp h
  refine ⟨by rw [List.take_succ, h]; rfl, ?_⟩
  conv => lhs; rw [← List.take_append_drop i l]
  rw [List.drop_eq_getElem_cons h1, h2]
theorem w_lc {wi : TI} {g : TG} {tt : TT} {te : TE} {vs is : List Nat} {Post : List β → Z → Prop}
    (h : ItW m wi Γ n R fun l n1 => l.length ≤ bigN ∧ ∃ Pr : List α → List β → Z → Prop, Pr [] [] n1 ∧
      (∀ pre x post ys n, l = pre ++ x :: post → Pr pre ys n → TgI is g R x (wg Γ vs) fun Γ2 => TeW m tt Γ2 n fun b n2 =>
        (b = true → EvW m te Γ2 n2 S fun y n3 => Pr (pre ++ [x]) (ys ++ [y]) n3) ∧ (b = false → Pr (pre ++ [x]) ys n2)) ∧
      ∀ ys n, ys.length ≤ l.length → Pr l ys n → Post ys n) (hs : ∀ i ∈ is, i ∈ vs := by decide) :
    EvW m (tLc wi g tt te vs) Γ n (rLst K S) Post := fun M σ H c e Q k =>
  h M σ H c e _ fun J l n1 H1 p1 e1 i1 ok => by
    obtain ⟨hl, Pr, p0, pt, pd⟩ := p1
    intro D hD
    have c1 := c.go e1 i1
    have nD : ¬ m.foot D := fun z => m.live i1 z hD
    have nDc : ¬ m.chg D := fun z => nD (m.sub D z)
    have nDM : ¬ M D := c1.good.fresh hD
    -- the state between the turns
    let W : Nat → Nat → Hp → Prop := fun i k H => k = l.length - i ∧ i ≤ l.length ∧ ∃ ys acc n', Pr (l.take i) ys n' ∧ H D = some (.lst acc) ∧ Al (fun v y => S.r (hid (fun a => M a ∨ a = D) H) v y) acc ys ∧ ys.length ≤ i ∧ m.inv n' H ∧ ∀ a o, ¬ m.chg a → a ≠ D → H1 a = some o → H a = some o
    refine ⟨W, ⟨l.length, by simp, Nat.zero_le _, [], [], n1, by simpa using p0, upd_same, .nil, Nat.le_refl _, m.frame i1 (fun a f => upd_ne fun z => nD (z ▸ f)) (fun a φ q => by rw [upd_ne (ne_of_none q hD)]; exact q), fun a o _ hb q => by rw [upd_ne hb]; exact q⟩, ?_⟩
    rintro i kk H2 ⟨rfl, hi, ys, acc, n', hP, hacc, hAl, hys, hinv, hkeep⟩
    have x12 : Ex (hid M H1) (hid (fun a => M a ∨ a = D) H2) := fun a o q => by
      obtain ⟨na, q⟩ := hid_some q
      have nd : a ≠ D := fun z => by rw [z, hD] at q; cases q
      rw [hid_no (fun z => z.elim na nd)]
      exact hkeep a o (fun z => na (c.mm a z)) nd q
    have g2 : Good (fun a => M a ∨ a = D) H2 := fun a ma => by
      rcases ma with ma | rfl
      · by_cases z : m.chg a
        · exact Md.has hinv z
        · obtain ⟨o, q, q2⟩ := c1.good a ma
          exact ⟨o, hkeep a o z (fun z => by rw [z, hD] at q; cases q) q, q2⟩
      · exact ⟨_, hacc, fun _ z => by cases z⟩
    have it := ok _ H2 g2 x12
    by_cases hlt : i < l.length
    · right
      obtain ⟨x, hx⟩ : ∃ x, l[i]? = some x := ⟨l[i], List.getElem?_eq_getElem hlt⟩
      obtain ⟨go, yld⟩ := it.1 i x hx
      obtain ⟨tk, sp⟩ := take_get hx
      refine ⟨go, W (i + 1) (l.length - (i + 1)), fun H' w => ⟨_, by omega, w⟩, fun v H3 hy => ?_⟩
      obtain ⟨ey, ry⟩ := yld v H3 hy
      have hinv3 := m.kept hinv ey
      have g3 := g2.ex ey
      have k13 : ExM m H1 H3 := fun a o nc q => ey a o (by
        by_cases z : a = D
        · rw [z, hD] at q; cases q
        · exact hkeep a o nc z q)
      have c3 : Cond m (fun a => M a ∨ a = D) H3 n' := ⟨g3, fun a z => .inl (c.mm a z), hinv3, fun y k H' cls d p x i q => c1.exc y k H' cls d p (k13.trans x) i (Er.ok_mono (fun a o q => by
        obtain ⟨n1', q⟩ := hid_some q
        rw [hid_no fun z => n1' (.inl z)]; exact q) q)⟩
      have en3 : EnvOk (hid (fun a => M a ∨ a = D) H3) (wipe σ vs) (wg Γ vs) := ((e.mono (e1.hid c.mm)).mono (fun a o q => hid_mono ey a o (x12 a o q))).wipe vs
      have tg := pt (l.take i) x _ ys n' sp hP
      refine tg _ _ H3 v en3 ry _ fun σ4 Γ4 t4 en4 up => ⟨up.wipe hs, ?_⟩
      refine t4 _ σ4 H3 c3 en4 _ fun b n5 H5 p5 e5 i5 => ?_
      have c5 := c3.go e5 i5
      have fin : ∀ {H6 : Hp} {ys' : List β} {n6 : Z} {acc' : List V}, ExM m H3 H6 → m.inv n6 H6 → Pr (l.take i ++ [x]) ys' n6 → ∀ {H7 : Hp}, (∀ a, a ≠ D → H7 a = H6 a) → H7 D = some (.lst acc') → Al (fun v y => S.r (hid (fun a => M a ∨ a = D) H6) v y) acc' ys' → ys'.length ≤ i + 1 → W (i + 1) (l.length - (i + 1)) H7 := fun {H6 ys' n6 acc'} e6 i6 p6 {H7} h67 h7 al hy' => by
        have hh : hid (fun a => M a ∨ a = D) H7 = hid (fun a => M a ∨ a = D) H6 := by
          funext a
          by_cases q : M a ∨ a = D
          · rw [hid_yes q, hid_yes q]
          · rw [hid_no q, hid_no q]; exact h67 a fun z => q (.inr z)
        refine ⟨rfl, hlt, ys', acc', n6, by rw [tk]; exact p6, h7, by rw [hh]; exact al, hy', m.frame i6 (fun a f => h67 a fun z => nD (z ▸ f)) (fun a φ q => by
          by_cases z : a = D
          · rw [z, e6 D _ nDc (ey D _ hacc)] at q; cases q
          · rw [h67 a z]; exact q), fun a o nc nd q => ?_⟩
        rw [h67 a nd]
        exact e6 a o nc (ey a o (hkeep a o nc nd q))
      cases b with
      | false =>
        have p6 := p5.2 rfl
        exact fin e5 i5 p6 (fun _ _ => rfl) (e5 D _ nDc (ey D _ hacc)) (hAl.mono fun _ _ z => S.mono (fun a o q => e5.hid c3.mm a o (hid_mono ey a o q)) z) (by omega)
      | true =>
        show te σ4 H5 _
        refine p5.1 rfl _ σ4 H5 c5 (en4.mono (e5.hid c3.mm)) _ fun u y n6 H6 p6 e6 i6 r6 => ?_
        have d6 : H6 D = some (.lst acc) := e6 D _ nDc (e5 D _ nDc (ey D _ hacc))
        refine ⟨acc, d6, by rw [hAl.len]; exact Nat.lt_of_le_of_lt (by omega) bigN_line, ?_⟩
        refine fin (e5.trans e6) i6 p6 (fun a ha => upd_ne ha) upd_same ?_ (by simp; omega)
        refine Al.append (hAl.mono fun _ _ z => S.mono (fun a o q => e6.hid c5.mm a o (e5.hid c3.mm a o (hid_mono ey a o q))) z) (.cons r6 .nil)
    · left
      have hie : i = l.length := by omega
      subst hie
      refine ⟨it.2, ?_⟩
      rw [List.take_length] at hP
      have dD : ¬ M D := nDM
      refine k _ ys n' H2 (pd ys n' hys hP) (fun a o nc q => ?_) hinv ⟨D, acc, rfl, (by rw [hid_no dD]; exact hacc), hAl.mono fun _ _ z => S.mono (fun a o q => by
        obtain ⟨n1', q⟩ := hid_some q
        rw [hid_no fun z => n1' (.inl z)]; exact q) z, by omega⟩
      by_cases z : a = D
      · subst z
        have := e1 a o nc q
        rw [hD] at this; cases this
      · exact hkeep a o nc z (e1 a o nc q)
/-- each item gives one datum, nothing changes -/
theorem w_lc_map {wi : TI} {g : TG} {te : TE} {vs is : List Nat} {Post : List β → Z → Prop} (f : α → β)
    (h : ItW m wi Γ n R fun l n1 => l.length ≤ bigN ∧ (∀ x ∈ l, TgI is g R x (wg Γ vs) fun Γ2 => EvW m te Γ2 n1 S fun y n3 => y = f x ∧ n3 = n1) ∧ Post (l.map f) n1) (hs : ∀ i ∈ is, i ∈ vs := by decide) :
    EvW m (tLc wi g tYes te vs) Γ n (rLst K S) Post :=
  w_lc (is := is) (fun M σ H c e Z k => h M σ H c e Z fun J l n' H' ⟨h1, h2, h3⟩ => k J l n' H' ⟨h1, fun pre ys nn => ys = pre.map f ∧ nn = n', ⟨rfl, rfl⟩, fun pre x post ys nn hl ⟨hy, hn⟩ => by
    subst hn hy
    have hx := h2 x (by rw [hl]; simp)
    exact fun M σ H v e r Q k => hx M σ H v e r Q fun σ' Γ' p => k σ' Γ' (t_yes ⟨fun _ => w_mono p fun y n3 q => ⟨by rw [q.1]; simp, q.2⟩, fun z => by cases z⟩), fun ys nn _ ⟨hy, hn⟩ => by
    subst hn hy
    exact h3⟩) hs
/-- each item gives one datum, some are left out -/
theorem w_lc_filter {wi : TI} {g : TG} {tt : TT} {te : TE} {vs is : List Nat} {Post : List β → Z → Prop} (p : α → Bool) (f : α → β)
    (h : ItW m wi Γ n R fun l n1 => l.length ≤ bigN ∧ (∀ x ∈ l, TgI is g R x (wg Γ vs) fun Γ2 => TeW m tt Γ2 n1 fun b n2 => b = p x ∧ n2 = n1 ∧ (b = true → EvW m te Γ2 n1 S fun y n3 => y = f x ∧ n3 = n1)) ∧ Post ((l.filter p).map f) n1) (hs : ∀ i ∈ is, i ∈ vs := by decide) :
    EvW m (tLc wi g tt te vs) Γ n (rLst K S) Post :=
  w_lc (is := is) (fun M σ H c e Z k => h M σ H c e Z fun J l n' H' ⟨h1, h2, h3⟩ => k J l n' H' ⟨h1, fun pre ys nn => ys = (pre.filter p).map f ∧ nn = n', ⟨rfl, rfl⟩, fun pre x post ys nn hl ⟨hy, hn⟩ => by
    subst hn hy
    have hx := h2 x (by rw [hl]; simp)
    exact fun M σ H v e r Q k => hx M σ H v e r Q fun σ' Γ' t => k σ' Γ' (fun M σ H c e Q k => t M σ H c e Q fun b n2 H2 ⟨q1, q2, q3⟩ => k b n2 H2 ⟨fun hb => by
      subst q2
      refine w_mono (q3 hb) fun y n3 q => ⟨?_, q.2⟩
      rw [q.1, List.filter_append]
      have : p x = true := by rw [← q1]; exact hb
      simp [this], fun hb => by
      subst q2
      refine ⟨?_, rfl⟩
      rw [List.filter_append]
      have : p x = false := by rw [← q1]; exact hb
      simp [this]⟩), fun ys nn _ ⟨hy, hn⟩ => by
    subst hn hy
    exact h3⟩) hs
end

/-! ### statements -/
section
variable {Z : Type} {m : Md Z} {Γ : Gm} {n : Z} {α β γ : Type} {R : Rl α} {S : Rl β} {D : Dn Z β} {K : PySem.W.Frag} {te : TE} {t u : TS}
theorem s_next (h : D.nx Γ n) : StW m tNext Γ n S D := fun M σ H c e E k => k.nx Γ n σ H h .refl c.inv e
theorem s_seq (h : StW m t Γ n S { D with nx := fun Γ1 n1 => StW m u Γ1 n1 S D }) : StW m (tSeq t u) Γ n S D := fun M σ H c e E k =>
  h M σ H c e _ ⟨fun Γ1 n1 σ1 H1 p e1 i1 en1 => p M σ1 H1 (c.go e1 i1) en1 E (k.at e1), k.rt, k.bk, k.ct⟩
theorem s_mid (Q : Gm → Z → Prop) (h : StW m t Γ n S { D with nx := Q }) (h2 : ∀ Γ1 n1, Q Γ1 n1 → StW m u Γ1 n1 S D) : StW m (tSeq t u) Γ n S D := fun M σ H c e E k =>
  h M σ H c e _ ⟨fun Γ1 n1 σ1 H1 p e1 i1 en1 => h2 Γ1 n1 p M σ1 H1 (c.go e1 i1) en1 E (k.at e1), k.rt, k.bk, k.ct⟩
theorem s_asg {is : List Nat} {g : TG} (h : EvW m te Γ n R fun x n1 => TgI is g R x Γ fun Γ1 => D.nx Γ1 n1) : StW m (tAsg te g) Γ n S D := fun M σ H c e E k =>
  h M σ H c e _ fun v x n1 H1 p1 e1 i1 r1 => p1 M σ H1 v (e.mono (e1.hid c.mm)) r1 _ fun σ2 Γ2 p2 en2 _ => k.nx Γ2 n1 σ2 H1 p2 e1 i1 en2
theorem s_set {i : Nat} (h : EvW m te Γ n R fun x n1 => D.nx (Γ.set i (some (.mk R x))) n1) : StW m (tAsg te (gName i)) Γ n S D := s_asg (w_mono h fun _ _ p => tg_name p)
theorem s_ret (h : EvW m te Γ n S D.rt) : StW m (tRet te) Γ n S D := fun M σ H c e E k => h M σ H c e _ fun v x n1 H1 p1 e1 i1 r1 => k.rt x n1 v H1 p1 e1 i1 r1
theorem s_drop (h : EvW m te Γ n R fun _ n1 => D.nx Γ n1) : StW m (tDrop te) Γ n S D := fun M σ H c e E k => h M σ H c e _ fun v x n1 H1 p1 e1 i1 r1 => k.nx Γ n1 σ H1 p1 e1 i1 (e.mono (e1.hid c.mm))
theorem s_if {tc : TT} (h : TeW m tc Γ n fun b n1 => (b = true → StW m t Γ n1 S D) ∧ (b = false → StW m u Γ n1 S D)) : StW m (tIfS tc t u) Γ n S D := fun M σ H c e E k =>
  h M σ H c e _ fun b n1 H1 p1 e1 i1 => by
    cases b with
    | true => exact p1.1 rfl M σ H1 (c.go e1 i1) (e.mono (e1.hid c.mm)) E (k.at e1)
    | false => exact p1.2 rfl M σ H1 (c.go e1 i1) (e.mono (e1.hid c.mm)) E (k.at e1)
theorem s_par {i j : Nat} {ta : TA} (h : ArW m ta Γ n fun es n1 => ∃ e1 e2, es = [e1, e2] ∧ D.nx ((Γ.set i (some e1)).set j (some e2)) n1) : StW m (tPar i j ta) Γ n S D := fun M σ H c e E k =>
  h M σ H c e _ fun vs es n1 H1 p1 x1 i1 a1 => by
    obtain ⟨e1, e2, rfl, p⟩ := p1
    obtain ⟨v, w, rfl, r1, r2⟩ := args2 a1
    exact ⟨v, w, rfl, k.nx _ n1 _ H1 p x1 i1 (((e.mono (x1.hid c.mm)).set r1).set r2)⟩
theorem s_never : StW m tNever Γ n S D → True := fun _ => trivial
theorem s_mono {D' : Dn Z β} (h : StW m t Γ n S D) (h1 : ∀ Γ n, D.nx Γ n → D'.nx Γ n) (h2 : ∀ x n, D.rt x n → D'.rt x n) (h3 : ∀ Γ n, D.bk Γ n → D'.bk Γ n) (h4 : ∀ Γ n, D.ct Γ n → D'.ct Γ n) : StW m t Γ n S D' := fun M σ H c e E k =>
  h M σ H c e E ⟨fun Γ n σ H p => k.nx Γ n σ H (h1 Γ n p), fun x n v H p => k.rt x n v H (h2 x n p), fun Γ n σ H p => k.bk Γ n σ H (h3 Γ n p), fun Γ n σ H p => k.ct Γ n σ H (h4 Γ n p)⟩
/-- for -/
theorem s_for {wi : TI} {g : TG} {is : List Nat} (h : ItW m wi Γ n R fun l n1 => ∃ Iv : List α → Gm → Z → Prop, Iv [] Γ n1 ∧
      (∀ pre x post Γ' n', l = pre ++ x :: post → Iv pre Γ' n' → TgI is g R x Γ' fun Γ2 => StW m t Γ2 n' S { D with nx := Iv (pre ++ [x]), ct := Iv (pre ++ [x]), bk := D.nx }) ∧
      ∀ Γ' n', Iv l Γ' n' → D.nx Γ' n') : StW m (tFor wi g t) Γ n S D := fun M σ H c e E k =>
  h M σ H c e _ fun J l n1 H1 p1 e1 i1 ok => by
    obtain ⟨Iv, p0, pt, pd⟩ := p1
    have c1 := c.go e1 i1
    let W : Nat → Nat → St → Hp → Prop := fun i k σ H2 => k = l.length - i ∧ i ≤ l.length ∧ ∃ Γ' n', Iv (l.take i) Γ' n' ∧ ExM m H1 H2 ∧ m.inv n' H2 ∧ EnvOk (hid M H2) σ Γ'
    refine ⟨W, ⟨l.length, by simp, Nat.zero_le _, Γ, n1, by simpa using p0, .refl, i1, e.mono (e1.hid c.mm)⟩, ?_⟩
    rintro i kk σ2 H2 ⟨rfl, hi, Γ', n', hP, x12, hinv, en⟩
    have c2 := c1.go x12 hinv
    have it := ok M H2 c2.good (x12.hid c.mm)
    by_cases hlt : i < l.length
    · right
      obtain ⟨x, hx⟩ : ∃ x, l[i]? = some x := ⟨l[i], List.getElem?_eq_getElem hlt⟩
      obtain ⟨go, yld⟩ := it.1 i x hx
      obtain ⟨tk, sp⟩ := take_get hx
      refine ⟨go, W (i + 1) (l.length - (i + 1)), fun σ' H' w => ⟨_, by omega, w⟩, fun v H3 hy => ?_⟩
      obtain ⟨ey, ry⟩ := yld v H3 hy
      refine pt (l.take i) x _ Γ' n' sp hP M σ2 H3 v (en.mono (hid_mono ey)) ry _ fun σ4 Γ4 t4 en4 up => ?_
      have x13 : ExM m H1 H3 := x12.trans (.of ey)
      refine t4 M σ4 H3 (c2.go (.of ey) (m.kept hinv ey)) en4 _ ⟨fun Γ5 n5 σ5 H5 p5 e5 i5 en5 => ?_, fun y n5 v H5 p5 e5 => k.rt y n5 v H5 p5 ((e1.trans x13).trans e5), fun Γ5 n5 σ5 H5 p5 e5 => k.nx Γ5 n5 σ5 H5 p5 ((e1.trans x13).trans e5), fun Γ5 n5 σ5 H5 p5 e5 i5 en5 => ?_⟩
      · exact ⟨rfl, hlt, Γ5, n5, by rw [tk]; exact p5, x13.trans e5, i5, en5⟩
      · exact ⟨rfl, hlt, Γ5, n5, by rw [tk]; exact p5, x13.trans e5, i5, en5⟩
    · left
      have hie : i = l.length := by omega
      subst hie
      rw [List.take_length] at hP
      exact ⟨it.2, k.nx Γ' n' σ2 H2 (pd Γ' n' hP) (e1.trans x12) hinv en⟩
/-- while -/
theorem s_while {tc : TT} (Iv : Nat → Gm → Z → Prop) (k0 : Nat) (h0 : Iv k0 Γ n) (h : ∀ k Γ n, Iv k Γ n → TeW m tc Γ n fun b n1 => (b = true → StW m t Γ n1 S { D with nx := fun Γ2 n2 => ∃ k2, k2 < k ∧ Iv k2 Γ2 n2, ct := fun Γ2 n2 => ∃ k2, k2 < k ∧ Iv k2 Γ2 n2, bk := D.nx }) ∧ (b = false → D.nx Γ n1)) :
    StW m (tWhile tc t) Γ n S D := fun M σ H c e E k => by
  refine ⟨fun j σ2 H2 => ∃ Γ' n', Iv j Γ' n' ∧ ExM m H H2 ∧ m.inv n' H2 ∧ EnvOk (hid M H2) σ2 Γ', ⟨k0, Γ, n, h0, .refl, c.inv, e⟩, ?_⟩
  rintro j σ2 H2 ⟨Γ', n', hI, x, hinv, en⟩
  refine h j Γ' n' hI M σ2 H2 (c.go x hinv) en _ fun b n1 H3 p1 e1 i1 => ?_
  cases b with
  | false =>
    show E.nx σ2 H3
    exact k.nx Γ' n1 σ2 H3 (p1.2 rfl) (x.trans e1) i1 (en.mono (e1.hid c.mm))
  | true =>
    show ∃ N : St → Hp → Prop, _
    refine ⟨fun σ3 H4 => ∃ k2, k2 < j ∧ ∃ Γ' n', Iv k2 Γ' n' ∧ ExM m H H4 ∧ m.inv n' H4 ∧ EnvOk (hid M H4) σ3 Γ', fun σ' H' ⟨k2, l, w⟩ => ⟨k2, l, w⟩, ?_⟩
    have x3 := x.trans e1
    refine p1.1 rfl M σ2 H3 (c.go x3 i1) (en.mono (e1.hid c.mm)) _ ⟨fun Γ5 n5 σ5 H5 p5 e5 i5 en5 => ?_, fun y n5 v H5 p5 e5 => k.rt y n5 v H5 p5 (x3.trans e5), fun Γ5 n5 σ5 H5 p5 e5 => k.nx Γ5 n5 σ5 H5 p5 (x3.trans e5), fun Γ5 n5 σ5 H5 p5 e5 i5 en5 => ?_⟩
    · obtain ⟨k2, l, w⟩ := p5
      exact ⟨k2, l, Γ5, n5, w, x3.trans e5, i5, en5⟩
    · obtain ⟨k2, l, w⟩ := p5
      exact ⟨k2, l, Γ5, n5, w, x3.trans e5, i5, en5⟩
end
end L2.Lc
end

-- part LcOps
section
set_option Elab.async false
set_option linter.all false
set_option maxRecDepth 100000
set_option maxHeartbeats 400000
namespace L2.Lc
open PySem PySem.Spec PyProof.Rows L2
open Evl (Ex ex_l ex_t)

/-! ### defs -/
section
variable {P : Program} {w : World} {K : PySem.W.Frag} {mg : Str → Option Value} {base : Heap} {k : Nat} {x qual : Str} {params : Arguments} {body : List Stmt} {scope : Scope} {dvs : List V} {kws : List (Str × V)} {f : Addr} {fd : FuncData} {N ps : List Str}
theorem start_ok {G : Hp} {vs : List V} {es : List Ent} (h : ArgsOk G vs es) (k : Nat) : EnvOk G (vs.map some ++ List.replicate k none) (es.map some ++ List.replicate k none) := by
  refine ⟨by simp [h.len], fun i e q => ?_⟩
  have hl := h.len
  by_cases hi : i < es.length
  · rw [List.getElem?_append_left (by simpa using hi), List.getElem?_map] at q
    cases q2 : es[i]? with
    | none => rw [q2] at q; cases q
    | some e2 =>
      rw [q2] at q
      cases q
      have key : ∀ {vs : List V} {es : List Ent} {i : Nat} {e : Ent}, ArgsOk G vs es → es[i]? = some e → ∃ v, vs[i]? = some v ∧ e.ok G v := by
        intro vs
        induction vs with
        | nil => intro es i e h q; cases es with
          | nil => simp at q
          | cons _ _ => exact h.elim
        | cons v vs ih => intro es i e h q; cases es with
          | nil => exact h.elim
          | cons e0 es => cases i with
            | zero => simp at q; subst q; exact ⟨v, rfl, h.1⟩
            | succ i => obtain ⟨u, h1, h2⟩ := ih h.2 (i := i) (by simpa using q); exact ⟨u, by simpa using h1, h2⟩
      obtain ⟨v, h1, h2⟩ := key h q2
      refine ⟨v, ?_, h2⟩
      rw [List.getElem?_append_left (by simp; omega), List.getElem?_map, h1]
      rfl
  · rw [List.getElem?_append_right (by simpa using hi), List.getElem?_replicate] at q
    split at q <;> cases q
/-- a def that changes nothing and lets nothing out -/
theorem fnP {α β : Type} {A : α → List Ent} {pre : α → Prop} {R : Rl β} {post : α → β → Prop} (F : FunD K x qual params body scope dvs kws f fd) (S : FnScope N ps scope) (hA : ∀ x, (A x).length = ps.length)
    (hd : ∀ (cdv : Value) (B : Around) (outer : List Env) (s : Shared) (H : Hp) (E : XK), Room k (B.deeper (envOfC qual scope s.heap.objs.size f cdv)) → ∃ t, PSs (cxOf CX0 P w K mg base N qual scope f cdv B outer s H E).nox body t ∧
      ∀ x, pre x → StW pm t ((A x).map some ++ List.replicate (N.length - ps.length) none) () R { nx := fun _ _ => False, rt := fun y _ => post x y }) : FnOk P w K mg base CX0 (k + 1) f fd ps (spP A pre R post) := by
  refine F.ok S (fun vs H Q E ⟨M, x, _, a, _⟩ => a.len.trans (hA x)) fun cdv A' outer s H vs Q E hr ⟨M, x, g, a, hp, q⟩ => ?_
  obtain ⟨t, d, h⟩ := hd cdv A' outer s H E hr
  refine ⟨t, d.nox, ?_⟩
  have hl : vs.length = ps.length := a.len.trans (hA x)
  unfold start
  rw [hl]
  refine h x hp M _ H ⟨g, fun _ z => z.elim, trivial, fun _ _ _ _ _ z => z.elim⟩ (start_ok a _) _ ⟨fun _ _ _ _ z => z.elim, fun y n v H' po e _ r => q v y H' po (fun b o z => e b o (fun z => z.elim) z) r, fun _ _ _ _ z => z.elim, fun _ _ _ _ z => z.elim⟩
theorem fnS {Z ι α β : Type} {m : ι → Md Z} {A : ι → α → List Ent} {pre : α → Z → Prop} {R : Rl β} {post : α → Z → β → Z → Prop} (F : FunD K x qual params body scope dvs kws f fd) (S : FnScope N ps scope) (hA : ∀ i x, (A i x).length = ps.length)
    (hd : ∀ (cdv : Value) (B : Around) (outer : List Env) (s : Shared) (H : Hp) (E : XK), Room k (B.deeper (envOfC qual scope s.heap.objs.size f cdv)) → ∃ t, PSs (cxOf CX0 P w K mg base N qual scope f cdv B outer s H E).nox body t ∧
      ∀ i x n, pre x n → StW (m i) t ((A i x).map some ++ List.replicate (N.length - ps.length) none) n R { nx := fun _ _ => False, rt := fun y n' => post x n y n' }) : FnOk P w K mg base CX0 (k + 1) f fd ps (spS m A pre R post) := by
  refine F.ok S (fun vs H Q E ⟨i, M, x, n, _, a, _⟩ => a.len.trans (hA i x)) fun cdv A' outer s H vs Q E hr ⟨i, M, x, n, c, a, hp, q⟩ => ?_
  obtain ⟨t, d, h⟩ := hd cdv A' outer s H E hr
  refine ⟨t, d.nox, ?_⟩
  have hl : vs.length = ps.length := a.len.trans (hA i x)
  unfold start
  rw [hl]
  exact h i x n hp M _ H c (start_ok a _) _ ⟨fun _ _ _ _ z => z.elim, fun y n' v H' po e iv r => q v y n' H' po e iv r, fun _ _ _ _ z => z.elim, fun _ _ _ _ z => z.elim⟩
/-- a def of the module that can be called -/
structure Cal (P : Program) (w : World) (K : PySem.W.Frag) (mg : Str → Option Value) (base : Heap) (x : Str) (k : Nat) (ps : List Str) (sp : Sp) : Prop where
  ex : ∃ f fd, FnOk P w K mg base CX0 k f fd ps sp ∧ mg x = some (.ref f) ∧ PySem.W.keepIn K (.ref f) = true ∧ Binds K fd ps []
end
section
variable {X : Cx} {x : Str} {k : Nat} {ps : List Str} {sp : Sp} {e : Expr} {es : List Expr} {t : TA} {p pos : Pos}
theorem pe_cal (c : Cal X.prog X.w X.K X.mg X.base x k ps sp) (hr : Room k X.A) (hg : Gl X x) (ha : PA X (e :: es) t) (hdb : (x == ("__debug__" : Str)) = false := by decide) (he : starEach (e :: es) X.env = (false, eval e X.env) :: starEach es X.env := by rfl)
    (hpl : (backTo pos (starEach es X.env)).any (·.1) = false := by rfl) : PE X (.Call (.Name x p) (e :: es) [] pos) (tCall sp [] E0 t) := by
  obtain ⟨f, fd, F, gm, kp, b⟩ := c.ex
  exact pe_call F hr hg gm kp b .nil pass0 ha hdb he hpl
end

/-! ### operations on data -/
section
variable {α β γ : Type} {K : PySem.W.Frag}
theorem o_int {g : Int → Int → Int} : OpW (rI0 fun i j => .int (g i j)) rInt rInt rInt (fun _ _ => True) g := fun M H v u x y gd r1 r2 _ Q k => ⟨x, y, r1, r2, k _ H (fun _ _ h => h) rfl⟩
theorem o_intC {C : Int → Int → Prop} {g : Int → Int → Int} : OpW (rI C fun i j => .int (g i j)) rInt rInt rInt C g := fun M H v u x y gd r1 r2 c Q k => ⟨x, y, r1, r2, c, k _ H (fun _ _ h => h) rfl⟩
theorem o_cmp {g : Int → Int → Bool} : OpW (rI0 fun i j => .bl (g i j)) rInt rInt rBl (fun _ _ => True) g := fun M H v u x y gd r1 r2 _ Q k => ⟨x, y, r1, r2, k _ H (fun _ _ h => h) rfl⟩
theorem o_eqI : OpW rEq rInt rInt rBl (fun _ _ => True) (fun i j => decide (i = j)) := fun M H v u x y gd r1 r2 _ Q k => by
  have r1 : v = .int x := r1
  have r2 : u = .int y := r2
  subst r1 r2
  exact ⟨rfl, by have := k (.bl (decide (x = y))) H (fun _ _ h => h) rfl; simpa using this⟩
theorem o_neI : OpW rNe rInt rInt rBl (fun _ _ => True) (fun i j => !decide (i = j)) := fun M H v u x y gd r1 r2 _ Q k => by
  have r1 : v = .int x := r1
  have r2 : u = .int y := r2
  subst r1 r2
  exact ⟨rfl, by have := k (.bl (!decide (x = y))) H (fun _ _ h => h) rfl; simpa using this⟩
theorem o_eqS : OpW rEq rStr rStr rBl (fun _ _ => True) (fun i j => decide (i = j)) := fun M H v u x y gd r1 r2 _ Q k => by
  have r1 : v = .str x := r1
  have r2 : u = .str y := r2
  subst r1 r2
  exact ⟨rfl, by have := k (.bl (decide (x = y))) H (fun _ _ h => h) rfl; simpa using this⟩
theorem o_neS : OpW rNe rStr rStr rBl (fun _ _ => True) (fun i j => !decide (i = j)) := fun M H v u x y gd r1 r2 _ Q k => by
  have r1 : v = .str x := r1
  have r2 : u = .str y := r2
  subst r1 r2
  exact ⟨rfl, by have := k (.bl (!decide (x = y))) H (fun _ _ h => h) rfl; simpa using this⟩
theorem o_eqB : OpW rEq rBl rBl rBl (fun _ _ => True) (fun i j => decide (i = j)) := fun M H v u x y gd r1 r2 _ Q k => by
  have r1 : v = .bl x := r1
  have r2 : u = .bl y := r2
  subst r1 r2
  exact ⟨rfl, by have := k (.bl (decide (x = y))) H (fun _ _ h => h) rfl; simpa using this⟩
theorem u_neg : UnW (rU fun i => .int (-i)) rInt rInt (fun i => -i) := fun M H v x g r Q k => ⟨x, r, k _ H (fun _ _ h => h) rfl⟩
/-- an operation that wants something -/
def OpP (r : R2) (R : Rl α) (S : Rl β) (T : Rl γ) (f : α → β → γ → Prop) : Prop :=
  ∀ (M : Addr → Prop) (H : Hp) (v u : V) (x : α) (y : β) (z : γ), Good M H → R.r (hid M H) v x → S.r (hid M H) u y → f x y z → ∀ Q : VK, (∀ o H', Ex H H' → T.r (hid M H') o z → Q o H') → r v u H Q
variable {Z : Type} {m : Md Z} {Γ : Gm} {n : Z} {R : Rl α} {S : Rl β} {T : Rl γ} {ta tb : TE}
theorem w_opP {Post : γ → Z → Prop} {r : R2} {f : α → β → γ → Prop} (hr : OpP r R S T f) (h : EvW m ta Γ n R fun x n1 => EvW m tb Γ n1 S fun y n2 => ∃ z, f x y z ∧ Post z n2) : EvW m (tOp r ta tb) Γ n T Post := fun M σ H c e Q k =>
  h M σ H c e _ fun v x n1 H1 p1 e1 i1 r1 => p1 M σ H1 (c.go e1 i1) (e.mono (e1.hid c.mm)) _ fun u y n2 H2 p2 e2 i2 r2 => by
    obtain ⟨z, hz, p⟩ := p2
    exact hr M H2 v u x y z (c.go (e1.trans e2) i2).good (R.mono (e2.hid c.mm) r1) r2 hz Q fun o H' ex rz => k o z n2 H' p ((e1.trans e2).trans (.of ex)) (m.kept i2 ex) rz
theorem atI_al {P : V → α → Prop} {vs : List V} {xs : List α} {i : Int} {x : α} (h : Al P vs xs) (e : atI xs i = some x) : ∃ v, atI vs i = some v ∧ P v x := by
  unfold atI at e ⊢
  rw [h.len]
  cases q : ixN xs.length i with
  | none => rw [q] at e; cases e
  | some j =>
    rw [q] at e
    exact h.get e
theorem o_ixL : OpP (rIxL K) (rLst K R) rInt R (fun l i z => atI l i = some z) := fun M H v u x y z g r1 r2 hz Q k => by
  obtain ⟨a, vs, rfl, hs, hA, _⟩ := lst_sql r1
  have r2 : u = .int y := r2
  subst r2
  obtain ⟨o, ho, ro⟩ := atI_al hA hz
  exact ⟨a, vs, y, o, rfl, rfl, ex_l hid_le hs, ho, k o H (fun _ _ h => h) ro⟩
theorem o_ixT : OpP (rIxT K) (rTup K R) rInt R (fun l i z => atI l i = some z) := fun M H v u x y z g r1 r2 hz Q k => by
  obtain ⟨a, vs, rfl, hs, hA, _⟩ := r1
  have r2 : u = .int y := r2
  subst r2
  obtain ⟨o, ho, ro⟩ := atI_al hA hz
  exact ⟨a, vs, y, o, rfl, rfl, ex_t hid_le hs, ho, k o H (fun _ _ h => h) ro⟩
theorem atI_nat {l : List α} {i : Nat} {x : α} (h : l[i]? = some x) : atI l (i : Int) = some x := by
  obtain ⟨h1, _⟩ := List.getElem?_eq_some_iff.mp h
  unfold atI ixN
  rw [if_pos (by omega), if_pos (by omega)]
  simpa using h
/-- t[0], t[1] of a pair -/
theorem w_fst {Post : α → Z → Prop} (h : EvW m ta Γ n (rPr K R S) fun p n1 => Post p.1 n1) : EvW m (tOp (rIxT K) ta (tC (.int 0))) Γ n R Post := fun M σ H c e Q k =>
  h M σ H c e _ fun v p n1 H1 p1 e1 i1 r1 => by
    obtain ⟨a, x, y, rfl, hs, hx, hy⟩ := r1
    exact ⟨a, _, 0, x, rfl, rfl, ex_t hid_le hs, rfl, k x p.1 n1 H1 p1 e1 i1 hx⟩
theorem w_snd {Post : β → Z → Prop} (h : EvW m ta Γ n (rPr K R S) fun p n1 => Post p.2 n1) : EvW m (tOp (rIxT K) ta (tC (.int 1))) Γ n S Post := fun M σ H c e Q k =>
  h M σ H c e _ fun v p n1 H1 p1 e1 i1 r1 => by
    obtain ⟨a, x, y, rfl, hs, hx, hy⟩ := r1
    exact ⟨a, _, 1, y, rfl, rfl, ex_t hid_le hs, rfl, k y p.2 n1 H1 p1 e1 i1 hy⟩

/-! ### built-ins -/
theorem c_abs {x : Int} : CbW (fun xs H Q => ∃ i, xs = [V.int i] ∧ Q (.int (if i < 0 then -i else i)) H) [.mk rInt x] rInt (if x < 0 then -x else x) := fun M H vs g a Q k => by
  obtain ⟨v, rfl, r⟩ := args1 a
  have r : v = .int x := r
  subst r
  exact ⟨x, rfl, k _ H (fun _ _ h => h) rfl⟩
def rIntOf : List V → Hp → VK → Prop := fun xs H Q => (∃ i, xs = [.int i] ∧ Q (.int i) H) ∨ ∃ k, xs = [.bl k] ∧ Q (.int (if k then 1 else 0)) H
theorem c_int {x : Int} : CbW rIntOf [.mk rInt x] rInt x := fun M H vs g a Q k => by
  obtain ⟨v, rfl, r⟩ := args1 a
  have r : v = .int x := r
  subst r
  exact .inl ⟨x, rfl, k _ H (fun _ _ h => h) rfl⟩
theorem c_intB {x : Bool} : CbW rIntOf [.mk rBl x] rInt (if x then 1 else 0) := fun M H vs g a Q k => by
  obtain ⟨v, rfl, r⟩ := args1 a
  have r : v = .bl x := r
  subst r
  exact .inr ⟨x, rfl, k _ H (fun _ _ h => h) rfl⟩
def rLenOf (K : PySem.W.Frag) : List V → Hp → VK → Prop := fun xs H Q => ∃ x n, xs = [x] ∧ LenV K x H n ∧ Q (.int n) H
theorem c_lenL {l : List α} : CbW (rLenOf K) [.mk (rLst K R) l] rInt (l.length : Int) := fun M H vs g a Q k => by
  obtain ⟨v, rfl, r⟩ := args1 a
  obtain ⟨a, vs, rfl, hs, hA, _⟩ := lst_sql r
  exact ⟨_, vs.length, rfl, .inl ⟨vs, ex_l hid_le hs, rfl⟩, by rw [hA.len]; exact k _ H (fun _ _ h => h) rfl⟩
theorem c_lenT {l : List α} : CbW (rLenOf K) [.mk (rTup K R) l] rInt (l.length : Int) := fun M H vs g a Q k => by
  obtain ⟨v, rfl, r⟩ := args1 a
  obtain ⟨a, vs, rfl, hs, hA, _⟩ := r
  exact ⟨_, vs.length, rfl, .inr ⟨vs, ex_t hid_le hs, rfl⟩, by rw [hA.len]; exact k _ H (fun _ _ h => h) rfl⟩
def rListOf (K : PySem.W.Frag) : List V → Hp → VK → Prop := fun xs H Q => ∃ p ys, xs = [.ref p] ∧ (SqL K H p ys ∨ SqT K H p ys) ∧ ∀ l, H l = none → Q (.ref l) (upd H l (.lst ys))
theorem c_listL {l : List α} : CbW (rListOf K) [.mk (rLst K R) l] (rLst K R) l := fun M H vs g a Q k => by
  obtain ⟨v, rfl, r⟩ := args1 a
  obtain ⟨ad, vs, rfl, hs, hA, hl⟩ := lst_sql r
  refine ⟨ad, vs, rfl, .inl (ex_l hid_le hs), fun p hp => ?_⟩
  have x := Evl.Ex.new (o := HO.lst vs) hp
  exact k _ _ x ⟨p, vs, rfl, new_l hp g, hA.mono fun _ _ z => R.mono (hid_mono x) z, hl⟩
theorem c_listT {l : List α} : CbW (rListOf K) [.mk (rTup K R) l] (rLst K R) l := fun M H vs g a Q k => by
  obtain ⟨v, rfl, r⟩ := args1 a
  obtain ⟨ad, vs, rfl, hs, hA, hl⟩ := r
  refine ⟨ad, vs, rfl, .inr (ex_t hid_le hs), fun p hp => ?_⟩
  have x := Evl.Ex.new (o := HO.lst vs) hp
  exact k _ _ x ⟨p, vs, rfl, new_l hp g, hA.mono fun _ _ z => R.mono (hid_mono x) z, hl⟩
def rTupOf (K : PySem.W.Frag) : List V → Hp → VK → Prop := fun xs H Q => ∃ p ys, xs = [.ref p] ∧ ((SqL K H p ys ∧ ∀ l, H l = none → Q (.ref l) (upd H l (.tup ys))) ∨ (SqT K H p ys ∧ Q (.ref p) H))
theorem c_tupL {l : List α} : CbW (rTupOf K) [.mk (rLst K R) l] (rTup K R) l := fun M H vs g a Q k => by
  obtain ⟨v, rfl, r⟩ := args1 a
  obtain ⟨ad, vs, rfl, hs, hA, hl⟩ := lst_sql r
  refine ⟨ad, vs, rfl, .inl ⟨ex_l hid_le hs, fun p hp => ?_⟩⟩
  have x := Evl.Ex.new (o := HO.tup vs) hp
  exact k _ _ x ⟨p, vs, rfl, new_t hp g, hA.mono fun _ _ z => R.mono (hid_mono x) z, hl⟩
theorem c_tupT {l : List α} : CbW (rTupOf K) [.mk (rTup K R) l] (rTup K R) l := fun M H vs g a Q k => by
  obtain ⟨v, rfl, r⟩ := args1 a
  obtain ⟨ad, vs, rfl, hs, hA, hl⟩ := r
  exact ⟨ad, vs, rfl, .inr ⟨ex_t hid_le hs, k _ H (fun _ _ h => h) ⟨ad, vs, rfl, hs, hA, hl⟩⟩⟩
theorem c_gcd {x y : Int} : CbW rGcd [.mk rInt x, .mk rInt y] rInt ((Nat.gcd x.natAbs y.natAbs : Nat) : Int) := fun M H vs g a Q k => by
  obtain ⟨v, u, rfl, r1, r2⟩ := args2 a
  have r1 : v = .int x := r1
  have r2 : u = .int y := r2
  subst r1 r2
  exact ⟨x, y, rfl, k _ H (fun _ _ h => h) rfl⟩
/-- lcm of integers of less than ten thousand bits -/
def rLcm : List V → Hp → VK → Prop := fun vs H Q => ∃ a b : Int, vs = [.int a, .int b] ∧ a.natAbs < 2 ^ 9000 ∧ b.natAbs < 2 ^ 9000 ∧ Q (.int ((Nat.lcm a.natAbs b.natAbs : Nat) : Int)) H
theorem cr_lcm {X : Cx} : CallR X (.builtin "math.lcm") rLcm := by
  intro pins s σ H vs us Q I r h
  obtain ⟨a, b, rfl, ha, hb, q⟩ := h
  obtain ⟨t, u, rfl⟩ := Vals.int2 r
  have e1 : Nat.lcm 1 a.natAbs = a.natAbs := Nat.lcm_one_left _
  have p0 : (0 : Nat) < 2 ^ 9000 := Nat.two_pow_pos _
  have l1 : (max 1 a.natAbs).log2 < 9000 := PySem.Flt.log2_lt_of (by decide) (by rcases Nat.le_total 1 a.natAbs with z | z <;> simp only [Nat.max_eq_left z, Nat.max_eq_right z] <;> first | exact ha | exact Nat.one_lt_two_pow (by decide))
  have l2 : (max a.natAbs b.natAbs).log2 < 9000 := PySem.Flt.log2_lt_of (by decide) (by rcases Nat.le_total a.natAbs b.natAbs with z | z <;> simp only [Nat.max_eq_left z, Nat.max_eq_right z] <;> assumption)
  have hm : a.natAbs.lcm b.natAbs < 2 ^ 18000 := by
    have h1 : a.natAbs.lcm b.natAbs ≤ a.natAbs * b.natAbs := by
      unfold Nat.lcm
      exact Nat.div_le_self _ _
    have h2 : a.natAbs * b.natAbs < 2 ^ 9000 * 2 ^ 9000 := Nat.mul_lt_mul'' ha hb
    rw [← Nat.pow_add] at h2
    exact Nat.lt_of_le_of_lt h1 h2
  have l3 : ((((Nat.lcm 1 a.natAbs).lcm b.natAbs : Nat) : Int)).natAbs.log2 < bitsLine := by
    rw [e1, Int.natAbs_natCast]
    exact Nat.lt_of_lt_of_le (PySem.Flt.log2_lt_of (by decide) hm) (by decide)
  have g := PySem.W.mg_run_lcm a t b u (by omega) (by omega) l3
  rw [e1] at g
  exact call_function_meets PySem.W.MGF.kind_lcm PySem.W.MGF.plain_lcm PySem.W.MGF.entry_lcm (PySem.W.MGF.args_lcm _ _) g.meets ⟨.int _, H, I.tok _, ⟨_, rfl⟩, q⟩
theorem c_lcm {x y : Int} (hx : x.natAbs < 2 ^ 9000) (hy : y.natAbs < 2 ^ 9000) : CbW rLcm [.mk rInt x, .mk rInt y] rInt ((Nat.lcm x.natAbs y.natAbs : Nat) : Int) := fun M H vs g a Q k => by
  obtain ⟨v, u, rfl, r1, r2⟩ := args2 a
  have r1 : v = .int x := r1
  have r2 : u = .int y := r2
  subst r1 r2
  exact ⟨x, y, rfl, hx, hy, k _ H (fun _ _ h => h) rfl⟩
end
end L2.Lc
end

-- part LcOwn
section
set_option Elab.async false
set_option linter.all false
set_option maxRecDepth 100000
set_option maxHeartbeats 400000
/-! # instances with operators of their own -/
namespace PySem.W
open PySem PySem.Calls PyProof.Rows
section
variable {prog : Program} {w : World} {M : Model} {A : Around} {E : Value → Shared → Prop} {s : Shared} {K : Frag} {x y C L f : Addr} {h₀ : Heap} {m : Str → Option Value} {ox oy : Obj} {od od' : Option Obj} {nm T : String}
/-- x op y, two instances of one class that has the operator -/
theorem lc_bin {op : Operator} {Q : Value → Shared → Prop} (F : Fr h₀ L s.heap m) (X₀ : K.In h₀) (I : InstAt s.heap x ox C od) (J : InstAt s.heap y oy C od') (hc : selfFirst K C = true)
    (hs : findIn K (.ref C) (PySem.dunder op.info.2) = some (some (.ref f))) (hf : isFn K (.ref f) = true)
    (h : wpAny (model prog w) A (call (.ref f) [.ref x, .ref y]) (CmpBack Q) E s) : wpAny (model prog w) A (binaryOp op (.ref x) (.ref y)) Q E s := by
  have X := X₀.keeps F.keep
  obtain ⟨cd, rest, hcd, hm⟩ := ksp_first hc
  rcases hi : op.info with ⟨sym, nm'⟩
  rw [hi] at hs
  dsimp only at hs
  have one := ksp_try X I hs hf h
  obtain ⟨hh, g, d, tt, os⟩ := s
  have L1 : Looks (model prog w) hh (typeOf (.ref x)) (.ref C) := I.type
  have L2 : Looks (model prog w) hh (typeOf (.ref y)) (.ref C) := J.type
  have L3 : Looks (model prog w) hh (fillsNumberSlot (.ref C) nm') true := fills_K X hcd hm hs
  simp only [binaryOp, hi]
  refine wpAny_holding (wpAny_bind ?_)
  unfold binaryOp1
  refine wpAny_bind (L1.at (wpAny_bind (L2.at (wpAny_bind (L3.at ?_)))))
  have he : (Value.ref C == Value.ref C) = true := beq_self_eq_true _
  simp only [he, if_true]
  ksp_lk
  refine wpAny_mono one (fun r s' hr' => ?_) fun _ _ e => e
  obtain ⟨v, rfl, hq⟩ := hr'
  ksp_lk
  exact hq
theorem lc_ne_bind (self : Value) : bindSpecial (.builtin "object.__ne__") self = pure (.builtin "object.__ne__", [self]) := by kernel_rfl
theorem lc_ne_plain : plainId "object.__ne__" = true := by decide +kernel
theorem lc_check_obj {id n : String} {rest : List Value} {Q : Unit → Shared → Prop} (hk : builtinKind id = some .slot) (hs : splitId id = some ("object", n)) (ha : argsOk id ⟨.ref x :: rest, []⟩) (X : K.In s.heap) (I : InstAt s.heap x ox C od) (ho : subIn K (.ref C) (.type "object") = some true) (hq : Q () s) :
    wpAny M A (checkBuiltinCall id ⟨.ref x :: rest, []⟩) Q E s := by
  simp only [checkBuiltinCall, hk, hs]
  refine wpAny_bind ?_
  unfold isInstance
  refine wpAny_bind (m := typeOf (.ref x)) (I.type.here ((looks_subIn X ho).here ?_))
  simp only [Bool.not_true, Bool.false_eq_true, if_false]
  cases hsig : Manifest.signature? id with
  | none => exact wpAny_pure hq
  | some sig =>
    simp only [argsOk, hsig] at ha
    have h2 : Bind.checkArgs id sig ⟨.ref x :: rest, []⟩ = pure () := ha
    show wpAny M A (Bind.checkArgs id sig ⟨.ref x :: rest, []⟩) Q E _
    rw [h2]
    exact wpAny_pure hq
/-- x != y, the class at C has an __eq__ of its own, no __ne__ -/
theorem lc_ne {Q : Value → Shared → Prop} (hu : A.units + 1 < cLine) (F : Fr h₀ L s.heap m) (X₀ : K.In h₀) (I : InstAt s.heap x ox C od) (J : InstAt s.heap y oy C od') (hn : findIn K (.ref C) "__ne__" = some (some (.builtin "object.__ne__")))
    (hs : findIn K (.ref C) "__eq__" = some (some (.ref f))) (hf : isFn K (.ref f) = true) (ho : subIn K (.ref C) (.type "object") = some true)
    (h : wpAny (model prog w) A.in1 (call (.ref f) [.ref x, .ref y]) (fun v s' => ∃ b, v = .bool b ∧ Q (.bool (!b)) s') E s) : wpAny (model prog w) A (richCompare .NotEq (.ref x) (.ref y)) Q E s := by
  have X := X₀.keeps F.keep
  have body : ∀ {Z : Fin → Shared → Prop} {E' : Value → Shared → Prop}, wpAny (model prog w) A.in1 (call (.ref f) [.ref x, .ref y]) (fun v s' => ∃ b, v = .bool b ∧ Z (.done (.ret (.bool (!b)))) s') E' s → wpAny (model prog w) A.in1 (Builtin.«object.__ne__» ⟨[.ref x, .ref y], []⟩) Z E' s := fun {Z E'} hc => by
    unfold Builtin.«object.__ne__»
    repeat (first
      | with_reducible refine wpAny_cRoomFor hu ?_
      | (refine wpAny_bind (m := callSpecialIfBound? (.ref x) (Str.ofString "__eq__") [.ref y])
          (ifBound_K X I hs hf (wpAny_mono hc (fun r s' hr => by
            obtain ⟨b, rfl, hq⟩ := hr
            repeat (first | exact hq | exact wpAny_pure hq | exact wpAny_truthy_bool hq | (refine wpAny_bind (m := truthy (.bool _)) (wpAny_truthy_bool ?_)) | wp_step)) fun _ _ e => e)))
      | wp_step)
  have one : wpAny (model prog w) A (tryCompare (.ref x) "__ne__" (.ref y)) (fun r s' => ∃ v, r = some v ∧ Q v s') E s := by
    unfold tryCompare
    have hcall : wpAny (model prog w) A (call (.builtin "object.__ne__") [.ref x, .ref y]) (fun v s' => ∃ b, v = .bool b ∧ Q v s') E s := by
      refine wpAny_call (codeAny_call_builtin lc_ne_plain PySem.F.cmpEntry_ne (lc_check_obj PySem.F.cmpKind_ne PySem.F.cmpSplit_ne (PySem.F.cmpArgs_ne _ _) X I ho ?_))
      refine body (wpAny_mono h (fun v s' hv => ?_) fun _ _ e => e)
      obtain ⟨b, rfl, hq⟩ := hv
      exact ⟨b, rfl, ⟨_, rfl, hq⟩⟩
    refine wpAny_bind (m := callSpecialIfBound? (.ref x) (Str.ofString "__ne__") [.ref y]) ?_
    simp only [callSpecialIfBound?, bindSpecialIfBound?]
    refine wpAny_holding (wpAny_bind (wpAny_bind (wpAny_bind (I.type.here ((looks_findIn X hn).here ?_)))))
    refine wpAny_bind (wpAny_askSetting (wpAny_ite ?_))
    rw [lc_ne_bind]
    have fin : wpAny (model prog w) A (call (.builtin "object.__ne__") ([.ref x] ++ [.ref y]) >>= fun v => pure (some v)) (fun r s' => wpAny (model prog w) A (match r with
      | some .notImplemented | none => pure none
      | some v => pure (some v)) (fun r s' => ∃ v, r = some v ∧ Q v s') E s') E s := wpAny_bind (wpAny_mono hcall (fun v s' hv => wpAny_pure (by
        obtain ⟨b, rfl, hq⟩ := hv
        exact wpAny_pure ⟨_, rfl, hq⟩)) fun _ _ h' => h')
    split
    · exact wpAny_bind (wpAny_pure (wpAny_pure (by exact fin)))
    · exact wpAny_tryCatch (wpAny_bind (wpAny_pure (wpAny_pure (by exact fin))))
  unfold richCompare
  simp only [oneThing_ref]
  refine wpAny_holding (wpAny_bind (wpAny_cRoomFor (Nat.lt_of_succ_lt hu) ?_))
  refine wpAny_bind (I.type.here (wpAny_bind (J.type.here ?_)))
  rw [show (Value.ref C != Value.ref C) = false from by simp]
  simp only [Bool.false_eq_true, if_false]
  refine wpAny_bind (wpAny_pure ?_)
  simp only [Bool.false_eq_true, if_false]
  refine wpAny_bind (wpAny_mono one (fun r s' z => ?_) fun _ _ e => e)
  obtain ⟨v, rfl, hq⟩ := z
  exact wpAny_pure hq
end
end PySem.W
namespace L2.Lc
open PySem PySem.Spec PyProof.Rows L2
open Evl (Ex ex_l ex_t)
section
variable {X : Cx} {CX : CXT} {C f : Addr} {fd : FuncData} {n : Nat} {ps : List Str} {sp : Sp} {E : XK}
/-- what is asked of the class at C whose method m at f keeps the promise sp -/
structure OwnM (P : Program) (w : World) (K : PySem.W.Frag) (mg : Str → Option Value) (base : Heap) (C : Addr) (m : Str) (k : Nat) (ps : List Str) (sp : Sp) : Prop where
  ex : ∃ f fd, FnOk P w K mg base CX0 k f fd ps sp ∧ PySem.W.findIn K (.ref C) m = some (some (.ref f)) ∧ PySem.W.isFn K (.ref f) = true ∧ PySem.W.keepIn K (.ref f) = true ∧ Binds K fd ps []
  cls : Cls K C
  first : PySem.W.selfFirst K C = true
theorem inst_of {pins : List (Addr × Obj)} {s : Shared} {σ : St} {H : Hp} {a C dx : Addr} {fs : List (Str × V)} (I : Inv X pins σ H s) (e : H a = some (.ins C dx fs)) : ∃ od, PySem.W.InstAt s.heap a (PySem.W.instObj C dx) C (some od) := by
  obtain ⟨mA, O, _⟩ := ins_get I.hok e
  obtain ⟨od, J, _⟩ := O.look
  exact ⟨od, J⟩
theorem op_info {op : Operator} {m : Str} (h : PySem.dunder op.info.2 = m) : PySem.dunder op.info.2 = m := h
/-- x op y of two instances of the class at C -/
def rOwnB (C : Addr) (sp : Sp) : R2 := fun x y H Q => ∃ a dx fs b dy gs, x = .ref a ∧ y = .ref b ∧ H a = some (.ins C dx fs) ∧ H b = some (.ins C dy gs) ∧ sp [x, y] H Q E0
theorem op_ownB {op : Operator} {m : Str} {k : Nat} (O : OwnM X.prog X.w X.K X.mg X.base C m k ps sp) (hr : Room k X.A) (hm : PySem.dunder op.info.2 = m) : OpR X (binaryOp op) (rOwnB C sp) := by
  intro pins s σ H x y v u Q I rx ry h
  obtain ⟨a, dx, fs, b, dy, gs, rfl, rfl, ha, hb, q⟩ := h
  cases (show v = Value.ref a from rx)
  cases (show u = Value.ref b from ry)
  obtain ⟨f, fd, F, hs, hf, kp, bd⟩ := O.ex
  obtain ⟨od, J⟩ := inst_of I ha
  obtain ⟨od', J'⟩ := inst_of I hb
  obtain ⟨mF, hF⟩ := I.fr
  subst hm
  refine PySem.W.lc_bin hF I.ok.mod.kin J J' O.first hs hf (wpAny_mono (run_fn (us := [.ref a, .ref b]) (vs := [.ref a, .ref b]) F hr bd .nil (pass0 (X := X)) I (.cons rfl (.cons rfl .nil)) (by rw [List.append_nil]; exact q)) (fun w s' z => ?_) fun _ _ x => x)
  obtain ⟨z', H', I', rz, qz⟩ := z
  exact SlX.cmpback rz ⟨z', H', I', rz, qz⟩
/-- x op n, an instance and an integer -/
def rOwnI (C : Addr) (sp : Sp) : R2 := fun x y H Q => ∃ a dx fs i, x = .ref a ∧ y = .int i ∧ H a = some (.ins C dx fs) ∧ sp [x, y] H Q E0
theorem op_ownI {op : Operator} {m : Str} {k : Nat} {fo ro rc : Option Value} (O : OwnM X.prog X.w X.K X.mg X.base C m k ps sp) (hr : Room k X.A) (hm : PySem.dunder op.info.2 = m)
    (hrc : PySem.W.findIn X.K (.ref C) (PySem.dunderR op.info.2) = some rc) (hp : rc = none ∨ ∃ g : Addr, rc = some (.ref g)) (h1 : PySem.W.findIn X.K (.type "int") (PySem.dunder op.info.2) = some fo) (h2 : PySem.W.findIn X.K (.type "int") (PySem.dunderR op.info.2) = some ro)
    (hsub : PySem.W.subIn X.K (.type "int") (.ref C) = some false) : OpR X (binaryOp op) (rOwnI C sp) := by
  intro pins s σ H x y v u Q I rx ry h
  obtain ⟨a, dx, fs, i, rfl, rfl, ha, q⟩ := h
  cases (show v = Value.ref a from rx)
  obtain ⟨t, rfl⟩ := (show ∃ t, u = Value.int i t from ry)
  obtain ⟨f, fd, F, hs, hf, kp, bd⟩ := O.ex
  obtain ⟨od, J⟩ := inst_of I ha
  obtain ⟨mF, hF⟩ := I.fr
  subst hm
  refine PySem.W.ksp_binT (T := "int") hF I.ok.mod.kin J rfl O.first hs hf hrc hp h1 h2 hsub (wpAny_mono (run_fn (us := [.ref a, .int i t]) (vs := [.ref a, .int i]) F hr bd .nil (pass0 (X := X)) I (.cons rfl (.cons ⟨t, rfl⟩ .nil)) (by rw [List.append_nil]; exact q)) (fun w s' z => ?_) fun _ _ x => x)
  obtain ⟨z', H', I', rz, qz⟩ := z
  exact SlX.cmpback rz ⟨z', H', I', rz, qz⟩
/-- x == y of two instances of the class at C by its own __eq__ -/
theorem op_ownEq {k : Nat} (O : OwnM X.prog X.w X.K X.mg X.base C "__eq__" k ps sp) (hr : Room k X.A) : OpR X (compareOp .Eq) (rOwnB C sp) := by
  intro pins s σ H x y v u Q I rx ry h
  obtain ⟨a, dx, fs, b, dy, gs, rfl, rfl, ha, hb, q⟩ := h
  cases (show v = Value.ref a from rx)
  cases (show u = Value.ref b from ry)
  obtain ⟨f, fd, F, hs, hf, kp, bd⟩ := O.ex
  obtain ⟨od, J⟩ := inst_of I ha
  obtain ⟨od', J'⟩ := inst_of I hb
  obtain ⟨mF, hF⟩ := I.fr
  show wpAny _ _ (richCompare .Eq (.ref a) (.ref b)) _ _ _
  refine PySem.W.cmp_K (op := .Eq) (tb := .ref C) hr.units0 hF I.ok.mod.kin J J'.type (by unfold PySem.W.notFirst; rw [beq_self_eq_true, Bool.true_or]) hs hf ?_
  refine wpAny_mono (run_fn (us := [.ref a, .ref b]) (vs := [.ref a, .ref b]) F hr bd .nil (pass0 (X := X)) I (.cons rfl (.cons rfl .nil)) (by rw [List.append_nil]; exact q)) (fun w s' z => ?_) fun _ _ x => x
  obtain ⟨z', H', I', rz, qz⟩ := z
  exact SlX.cmpback rz ⟨z', H', I', rz, qz⟩
end
end L2.Lc
namespace L2.Lc
open PySem PySem.Spec PyProof.Rows L2
open Evl (Ex ex_l ex_t)
section
variable {X : Cx} {C : Addr} {ps : List Str} {sp : Sp} {k : Nat}
/-- x != y by the class's __eq__ -/
def rOwnNe (C : Addr) (sp : Sp) : R2 := fun x y H Q => ∃ a dx fs b dy gs, x = .ref a ∧ y = .ref b ∧ H a = some (.ins C dx fs) ∧ H b = some (.ins C dy gs) ∧ sp [x, y] H (fun z H' => ∃ c, z = .bl c ∧ Q (.bl (!c)) H') E0
theorem op_ownNe (O : OwnM X.prog X.w X.K X.mg X.base C "__eq__" k ps sp) (hr : Room (k + 1) X.A) (hn : PySem.W.findIn X.K (.ref C) "__ne__" = some (some (.builtin "object.__ne__"))) (ho : PySem.W.subIn X.K (.ref C) (.type "object") = some true) : OpR X (compareOp .NotEq) (rOwnNe C sp) := by
  intro pins s σ H x y v u Q I rx ry h
  obtain ⟨a, dx, fs, b, dy, gs, rfl, rfl, ha, hb, q⟩ := h
  cases (show v = Value.ref a from rx)
  cases (show u = Value.ref b from ry)
  obtain ⟨f, fd, F, hs, hf, kp, bd⟩ := O.ex
  obtain ⟨od, J⟩ := inst_of I ha
  obtain ⟨od', J'⟩ := inst_of I hb
  obtain ⟨mF, hF⟩ := I.fr
  show wpAny _ _ (richCompare .NotEq (.ref a) (.ref b)) _ _ _
  refine PySem.W.lc_ne (hu_of hr) hF I.ok.mod.kin J J' hn hs hf ho ?_
  have r2 : Vals [V.ref a, V.ref b] [Value.ref a, Value.ref b] := .cons rfl (.cons rfl .nil)
  have hl := F.len _ _ _ _ q
  refine wpAny_call (codeAny_mono (F.run X.A.in1 X.stack s H ⟨[.ref a, .ref b], []⟩ [.ref a, .ref b] [.ref a, .ref b] _ E0 hr.in1 I.env0.in1 (by have := bd s [.ref a, .ref b] I.kIn (by rw [List.append_nil]; exact hl); rw [List.append_nil] at this; exact this) r2 q) fun r s' hq => ?_)
  cases r with
  | error e => exact hq.elim
  | ok fl =>
    cases fl with
    | ret u =>
      obtain ⟨z, H', I', rz, c, rfl, qz⟩ := I.after hq
      cases (show u = Value.bool c from rz)
      exact ⟨c, rfl, .bl (!c), H', I', rfl, qz⟩
    | next => exact False.elim hq
    | brk => exact False.elim hq
    | cont => exact False.elim hq
end

/-! ### instances as data -/
def FsOk (G : Hp) : List (Str × V) → List (Str × Ent) → Prop
  | [], [] => True
  | p :: vs, q :: es => p.1 = q.1 ∧ q.2.ok G p.2 ∧ FsOk G vs es
  | _, _ => False
theorem FsOk.mono {G G' : Hp} (x : Ex G G') : ∀ {vs : List (Str × V)} {es : List (Str × Ent)}, FsOk G vs es → FsOk G' vs es
  | [], [], _ => trivial
  | _ :: _, _ :: _, h => ⟨h.1, Ent.ok_mono x h.2.1, FsOk.mono x h.2.2⟩
  | [], _ :: _, h => h.elim
  | _ :: _, [], h => h.elim
theorem FsOk.look {G : Hp} {f : Str} {e : Ent} : ∀ {vs : List (Str × V)} {es : List (Str × Ent)}, FsOk G vs es → es.lookup f = some e → ∃ v, vs.lookup f = some v ∧ e.ok G v
  | [], [], _, h => by cases h
  | p :: vs, q :: es, h, l => by
    obtain ⟨n, v⟩ := p
    obtain ⟨n', e'⟩ := q
    obtain ⟨rfl, h2, h3⟩ := h
    by_cases z : (f == n) = true
    · simp only [List.lookup, z] at l ⊢
      cases l
      exact ⟨v, rfl, h2⟩
    · have z : (f == n) = false := by simpa using z
      simp only [List.lookup, z] at l ⊢
      exact FsOk.look h3 l
  | [], _ :: _, h, _ => h.elim
  | _ :: _, [], h, _ => h.elim
def rIns {α : Type} (C : Addr) (fs : α → List (Str × Ent)) : Rl α := ⟨fun G v x => ∃ a dx vs, v = .ref a ∧ G a = some (.ins C dx vs) ∧ FsOk G vs (fs x), fun e ⟨a, dx, vs, h1, h2, h3⟩ => ⟨a, dx, vs, h1, e _ _ h2, h3.mono e⟩⟩
section
variable {Z : Type} {m : Md Z} {Γ : Gm} {n : Z} {α β γ : Type} {R : Rl α} {S : Rl β} {T : Rl γ} {K : PySem.W.Frag} {ta tb : TE} {C : Addr} {fs : α → List (Str × Ent)}
theorem w_fld {f : Str} {Post : γ → Z → Prop} (hc : Cls K C) (hn : NoAttr K C f) (h : EvW m ta Γ n (rIns C fs) fun x n1 => ∃ y, (fs x).lookup f = some (.mk T y) ∧ Post y n1) : EvW m (tFld K ta f) Γ n T Post := fun M σ H c e Q k =>
  h M σ H c e _ fun v x n1 H1 p1 e1 i1 r1 => by
    obtain ⟨a, dx, vs, rfl, h2, h3⟩ := r1
    obtain ⟨y, hy, p⟩ := p1
    obtain ⟨u, hu, ru⟩ := h3.look hy
    exact ⟨a, C, dx, vs, u, rfl, hid_le _ _ h2, hc, hn, hu, k u y n1 H1 p e1 i1 ru⟩
/-- an __init__ that makes these attributes -/
def spI {α : Type} (C : Addr) (A : α → List Ent) (pre : α → Prop) (fs : α → List (Str × Ent)) : Sp := fun vs H Q _ => ∃ M x a dx ws, vs = .ref a :: ws ∧ H a = some (.ins C dx []) ∧ Good M H ∧ M a ∧ ArgsOk (hid M H) ws (A x) ∧ pre x ∧
  ∀ H' vs', (∀ b o, b ≠ a → H b = some o → H' b = some o) → H' a = some (.ins C dx vs') → FsOk (hid M H') vs' (fs x) → Q .non H'
theorem w_make {A : α → List Ent} {pre : α → Prop} {E : XK} {t : TA} {dvs : List V} {Post : α → Z → Prop} (des : List Ent) (hd : ∀ G, ArgsOk G dvs des)
    (h : ArW m t Γ n fun es n1 => ∃ x, es ++ des = A x ∧ pre x ∧ Post x n1) : EvW m (tMake C (spI C A pre fs) dvs E t) Γ n (rIns C fs) Post := fun M σ H c e Q k =>
  h M σ H c e _ fun vs es n1 H1 p1 e1 i1 a1 => by
    obtain ⟨x, hx, hp, p⟩ := p1
    have c1 := c.go e1 i1
    intro a dx ha hdx hne
    have x1 : Ex H1 (upd H1 dx (.own a)) := Evl.Ex.new hdx
    have ha' : upd H1 dx (.own a) a = none := by rw [upd_ne (fun z => hne z.symm)]; exact ha
    have x2 : Ex (upd H1 dx (.own a)) (upd (upd H1 dx (.own a)) a (.ins C dx [])) := Evl.Ex.new ha'
    have xx := x1.trans x2
    have nM : ¬ M a := c1.good.fresh ha
    have happ : ∀ {G : Hp} {vs ws : List V} {es fs : List Ent}, ArgsOk G vs es → ArgsOk G ws fs → ArgsOk G (vs ++ ws) (es ++ fs) := by
      intro G vs
      induction vs with
      | nil => intro ws es fs h1 h2; cases es with
        | nil => exact h2
        | cons _ _ => exact h1.elim
      | cons v vs ih => intro ws es fs h1 h2; cases es with
        | nil => exact h1.elim
        | cons e es => exact ⟨h1.1, ih h1.2 h2⟩
    refine ⟨fun b => M b ∨ b = a, x, a, dx, vs ++ dvs, rfl, upd_same, fun b mb => ?_, .inr rfl, ?_, hp, fun H' vs' hk h' hf => ?_⟩
    · rcases mb with mb | rfl
      · exact (c1.good.ex xx) b mb
      · exact ⟨_, upd_same, fun _ z => by cases z⟩
    · rw [← hx]
      have y : Ex (hid M H1) (hid (fun b => M b ∨ b = a) (upd (upd H1 dx (.own a)) a (.ins C dx []))) := fun b o q => by
        obtain ⟨nb, q⟩ := hid_some q
        rw [hid_no (fun z => z.elim nb fun z => by rw [z, ha] at q; cases q)]
        exact xx b o q
      exact happ (a1.mono y) (hd _)
    · refine ⟨rfl, ?_⟩
      have eH : Ex H1 H' := fun b o q => hk b o (fun z => by rw [z, ha] at q; cases q) (xx b o q)
      refine k _ x n1 H' p (e1.trans (.of eH)) (m.kept i1 eH) ⟨a, dx, vs', rfl, by rw [hid_no nM]; exact h', hf.mono fun b o q => ?_⟩
      obtain ⟨nb, q⟩ := hid_some q
      rw [hid_no fun z => nb (.inl z)]; exact q
/-- the attributes of self, stage by stage -/
def mI (a C dx : Addr) : Md (List (Str × V)) := ⟨fun st H => H a = some (.ins C dx st), fun b => b = a, fun b => b = a, fun _ h => h, (fun {n H b} i f => by rw [f, i]; exact fun z => by cases z), fun {n H H'} i f _ => by rw [f a rfl]; exact i, (fun {n H b} i f xs => by rw [show b = a from f, i]; exact fun z => by cases z), fun _ _ _ => False, fun _ _ => False⟩
theorem s_fldI {a dx : Addr} {st : List (Str × V)} {f : Str} {D : Dn (List (Str × V)) β} (hc : Cls K C) (hn : NoAttr K C f)
    (h : EvW (mI a C dx) ta Γ st rInt fun y n1 => EvW (mI a C dx) tb Γ n1 (rAt a) fun _ n2 => n2.length < 1000 ∧ D.nx Γ (putF f (.int y) n2)) : StW (mI a C dx) (sFld K tb ta f) Γ st S D := fun M σ H c e E k =>
  h M σ H c e _ fun v y n1 H1 p1 e1 i1 r1 => p1 M σ H1 (c.go e1 i1) (e.mono (e1.hid c.mm)) _ fun u _ n2 H2 p2 e2 i2 r2 => by
    have r1 : v = .int y := r1
    have r2 : u = .ref a := r2
    subst r1 r2
    obtain ⟨h2, h3⟩ := p2
    refine ⟨a, C, dx, n2, rfl, i2, hc, hn, h2, ?_⟩
    refine k.nx Γ _ σ _ h3 (fun b o nb q => by rw [upd_ne nb]; exact (e1.trans e2) b o nb q) (by show upd H2 a _ a = _; rw [upd_same]) ((e.mono ((e1.trans e2).hid c.mm)).mono fun b o q => ?_)
    obtain ⟨nb, q⟩ := hid_some q
    rw [hid_no nb, upd_ne (fun z => nb (by rw [z]; exact c.mm a rfl))]
    exact q
/-- operators of instances -/
theorem w_ownB {A : α → List Ent} {pre : α → Prop} {post : α → γ → Prop} {β1 β2 : Type} {f1 : β1 → List (Str × Ent)} {f2 : β2 → List (Str × Ent)} {Post : γ → Z → Prop}
    (h : EvW m ta Γ n (rIns C f1) fun x n1 => EvW m tb Γ n1 (rIns C f2) fun y n2 => ∃ p, [Ent.mk (rIns C f1) x, .mk (rIns C f2) y] = A p ∧ pre p ∧ ∀ z, post p z → Post z n2) : EvW m (tOp (rOwnB C (spP A pre T post)) ta tb) Γ n T Post := fun M σ H c e Q k =>
  h M σ H c e _ fun v x n1 H1 p1 e1 i1 r1 => p1 M σ H1 (c.go e1 i1) (e.mono (e1.hid c.mm)) _ fun u y n2 H2 p2 e2 i2 r2 => by
    have r1' := (rIns C f1).mono (e2.hid c.mm) r1
    obtain ⟨a, dx, vs, rfl, g1, g2⟩ := id r1'
    obtain ⟨b, dy, ws, rfl, g3, g4⟩ := id r2
    obtain ⟨p, hA, hp, hq⟩ := p2
    refine ⟨a, dx, vs, b, dy, ws, rfl, rfl, hid_le _ _ g1, hid_le _ _ g3, M, p, (c.go (e1.trans e2) i2).good, ?_, hp, fun o z H' po x' r => k o z n2 H' (hq z po) ((e1.trans e2).trans (.of x')) (m.kept i2 x') r⟩
    rw [← hA]
    exact ⟨r1', r2, trivial⟩
theorem w_ownI {A : α → List Ent} {pre : α → Prop} {post : α → γ → Prop} {β1 : Type} {f1 : β1 → List (Str × Ent)} {Post : γ → Z → Prop}
    (h : EvW m ta Γ n (rIns C f1) fun x n1 => EvW m tb Γ n1 rInt fun y n2 => ∃ p, [Ent.mk (rIns C f1) x, .mk rInt y] = A p ∧ pre p ∧ ∀ z, post p z → Post z n2) : EvW m (tOp (rOwnI C (spP A pre T post)) ta tb) Γ n T Post := fun M σ H c e Q k =>
  h M σ H c e _ fun v x n1 H1 p1 e1 i1 r1 => p1 M σ H1 (c.go e1 i1) (e.mono (e1.hid c.mm)) _ fun u y n2 H2 p2 e2 i2 r2 => by
    have r1' := (rIns C f1).mono (e2.hid c.mm) r1
    obtain ⟨a, dx, vs, rfl, g1, g2⟩ := id r1'
    have r2' : u = .int y := r2
    subst r2'
    obtain ⟨p, hA, hp, hq⟩ := p2
    refine ⟨a, dx, vs, y, rfl, rfl, hid_le _ _ g1, M, p, (c.go (e1.trans e2) i2).good, ?_, hp, fun o z H' po x' r => k o z n2 H' (hq z po) ((e1.trans e2).trans (.of x')) (m.kept i2 x') r⟩
    rw [← hA]
    exact ⟨r1', r2, trivial⟩
theorem w_ownNe {A : α → List Ent} {pre : α → Prop} {post : α → Bool → Prop} {β1 β2 : Type} {f1 : β1 → List (Str × Ent)} {f2 : β2 → List (Str × Ent)} {Post : Bool → Z → Prop}
    (h : EvW m ta Γ n (rIns C f1) fun x n1 => EvW m tb Γ n1 (rIns C f2) fun y n2 => ∃ p, [Ent.mk (rIns C f1) x, .mk (rIns C f2) y] = A p ∧ pre p ∧ ∀ z, post p z → Post (!z) n2) : EvW m (tOp (rOwnNe C (spP A pre rBl post)) ta tb) Γ n rBl Post := fun M σ H c e Q k =>
  h M σ H c e _ fun v x n1 H1 p1 e1 i1 r1 => p1 M σ H1 (c.go e1 i1) (e.mono (e1.hid c.mm)) _ fun u y n2 H2 p2 e2 i2 r2 => by
    have r1' := (rIns C f1).mono (e2.hid c.mm) r1
    obtain ⟨a, dx, vs, rfl, g1, g2⟩ := id r1'
    obtain ⟨b, dy, ws, rfl, g3, g4⟩ := id r2
    obtain ⟨p, hA, hp, hq⟩ := p2
    refine ⟨a, dx, vs, b, dy, ws, rfl, rfl, hid_le _ _ g1, hid_le _ _ g3, M, p, (c.go (e1.trans e2) i2).good, ?_, hp, fun o z H' po x' r => ⟨z, r, k _ (!z) n2 H' (hq z po) ((e1.trans e2).trans (.of x')) (m.kept i2 x') rfl⟩⟩
    rw [← hA]
    exact ⟨r1', r2, trivial⟩

/-! ### isinstance -/
def rTy (t : String) : Rl Unit := ⟨fun _ v _ => v = .ty t, fun _ h => h⟩
/-- data of this kind have this type -/
def TyW (K : PySem.W.Frag) (R : Rl α) (t : Value) : Prop := ∀ (G H : Hp) (v : V) (x : α), R.r G v x → Ex G H → TyX K H v t
theorem ty_int : TyW K rInt (.type "int") := fun G H v x r _ => by
  have r : v = .int x := r
  subst r; exact .base (.int x)
theorem ty_bl : TyW K rBl (.type "bool") := fun G H v x r _ => by
  have r : v = .bl x := r
  subst r; exact .base (.bl x)
theorem ty_str : TyW K rStr (.type "str") := fun G H v x r _ => by
  have r : v = .str x := r
  subst r; exact .base (.str x)
structure IsiC (K : PySem.W.Frag) (C : Addr) : Prop where
  cl : Cls K C
  ca : PySem.W.findIn K (.ref C) "__class__" = some (some (.builtin "object.__class__"))
  cn : PySem.W.specialIn K (.builtin "object.__class__") "__get__" = some (some (.builtin "getset_descriptor.__get__"))
  ct : PySem.W.takesIn K (.builtin "object.__class__") = some true
  cm : PySem.W.mroIn K C (.type "object") = some true
theorem ty_ins (h : IsiC K C) : TyW K (rIns C fs) (.ref C) := fun G H v x r e => by
  obtain ⟨a, dx, vs, rfl, h2, _⟩ := r
  exact .base (.ins (e _ _ h2) h.cl h.ca h.cn h.ct h.cm)
theorem c_isiT {x : α} {t : Value} {c : String} {b : Bool} (ht : TyW K R t) (hk : PySem.W.kitOne K t (.type c) = some b) : CbW (rIsi K) [.mk R x, .mk (rTy c) ()] rBl b := fun M H vs g a Q k => by
  obtain ⟨v, u, rfl, r1, r2⟩ := args2 a
  have r2 : u = .ty c := r2
  subst r2
  exact ⟨v, _, t, .type c, b, rfl, .ty c, ht _ H v x r1 hid_le, hk, k _ H (fun _ _ h => h) rfl⟩
theorem c_isiC {x : α} {t : Value} {D : Addr} {b : Bool} (ht : TyW K R t) (hk : PySem.W.kitOne K t (.ref D) = some b) : CbW (rIsi K) [.mk R x, .mk (rAt D) ()] rBl b := fun M H vs g a Q k => by
  obtain ⟨v, u, rfl, r1, r2⟩ := args2 a
  have r2 : u = .ref D := r2
  subst r2
  exact ⟨v, _, t, .ref D, b, rfl, .own D, ht _ H v x r1 hid_le, hk, k _ H (fun _ _ h => h) rfl⟩
theorem w_ty {c : String} {Post : Unit → Z → Prop} (p : Post () n) : EvW m (tC (.ty c)) Γ n (rTy c) Post := fun M σ H cc e Q k => k _ () n H p .refl cc.inv rfl
theorem w_at {a : Addr} {Post : Unit → Z → Prop} (p : Post () n) : EvW m (tC (.ref a)) Γ n (rAt a) Post := fun M σ H cc e Q k => k _ () n H p .refl cc.inv rfl
end
end L2.Lc
end

-- part LcSeq
section
set_option Elab.async false
set_option linter.all false
set_option maxRecDepth 100000
set_option maxHeartbeats 400000
/-! # parts of sequences -/
namespace L2.Lc
open PySem PySem.Spec PyProof.Rows L2
open Evl (Ex ex_l ex_t)
theorem cut_to (xs : List V) (k : Nat) : cutV xs none (some (k : Int)) = xs.take k := by
  unfold cutV
  rw [HT.sIx_none, HT.sIx_nat, List.drop_zero, Nat.sub_zero]
  rcases Nat.le_total k xs.length with h | h
  · rw [Nat.min_eq_left h]
  · rw [Nat.min_eq_right h, List.take_of_length_le (Nat.le_refl _), List.take_of_length_le h]
theorem cut_from (xs : List V) (k : Nat) : cutV xs (some (k : Int)) none = xs.drop k := by
  unfold cutV
  rw [HT.sIx_none, HT.sIx_nat]
  rcases Nat.le_total k xs.length with h | h
  · rw [Nat.min_eq_left h, List.take_of_length_le (by rw [List.length_drop]; omega)]
  · rw [Nat.min_eq_right h, Nat.sub_self, List.take_zero, List.drop_eq_nil_of_le h]
section
variable {Z : Type} {m : Md Z} {Γ : Gm} {n : Z} {α β γ : Type} {R : Rl α} {S : Rl β} {K : PySem.W.Frag} {ta tb : TE}
theorem w_toS {Post : List α → Z → Prop} (h : EvW m ta Γ n (rSql K R) fun l n1 => EvW m tb Γ n1 rInt fun i n2 => 0 ≤ i ∧ Post (l.take i.toNat) n2) : EvW m (tSl (rSlL K) ta tNoPart (tPart tb)) Γ n (rLst K R) Post := fun M σ H c e Q k =>
  h M σ H c e _ fun v x n1 H1 p1 e1 i1 r1 => p1 M σ H1 (c.go e1 i1) (e.mono (e1.hid c.mm)) _ fun u y n2 H2 p2 e2 i2 r2 => by
    obtain ⟨h1, h2⟩ := p2
    obtain ⟨a, vs, rfl, hs, hA, hl⟩ := (rSql K R).mono (e2.hid c.mm) r1
    have r2 : u = .int y := r2
    subst r2
    refine ⟨y, rfl, a, vs, rfl, ex_l hid_le hs, fun p hp => ?_⟩
    have ey : y = (y.toNat : Int) := by omega
    have hc : cutV vs none (some y) = vs.take y.toNat := by conv => lhs; rw [ey, cut_to]
    rw [hc]
    have z := Evl.Ex.new (o := HO.lst (vs.take y.toNat)) hp
    refine k _ _ n2 _ h2 ((e1.trans e2).trans (.of z)) (m.kept i2 z) ⟨p, _, rfl, new_l hp (c.go (e1.trans e2) i2).good, (hA.take _).mono fun _ _ q => R.mono (hid_mono z) q, by rw [List.length_take]; omega⟩
theorem w_to {Post : List α → Z → Prop} (h : EvW m ta Γ n (rLst K R) fun l n1 => EvW m tb Γ n1 rInt fun i n2 => 0 ≤ i ∧ Post (l.take i.toNat) n2) : EvW m (tSl (rSlL K) ta tNoPart (tPart tb)) Γ n (rLst K R) Post :=
  w_toS fun M σ H c e Q k => h M σ H c e Q fun v x n1 H1 p e1 i1 r => k v x n1 H1 p e1 i1 (lst_sql r)
theorem w_from {Post : List α → Z → Prop} (h : EvW m ta Γ n (rLst K R) fun l n1 => EvW m tb Γ n1 rInt fun i n2 => 0 ≤ i ∧ Post (l.drop i.toNat) n2) : EvW m (tSl (rSlL K) ta (tPart tb) tNoPart) Γ n (rLst K R) Post := fun M σ H c e Q k =>
  h M σ H c e _ fun v x n1 H1 p1 e1 i1 r1 => p1 M σ H1 (c.go e1 i1) (e.mono (e1.hid c.mm)) _ fun u y n2 H2 p2 e2 i2 r2 => by
    obtain ⟨h1, h2⟩ := p2
    obtain ⟨a, vs, rfl, hs, hA, hl⟩ := lst_sql ((rLst K R).mono (e2.hid c.mm) r1)
    have r2 : u = .int y := r2
    subst r2
    refine ⟨y, rfl, a, vs, rfl, ex_l hid_le hs, fun p hp => ?_⟩
    have ey : y = (y.toNat : Int) := by omega
    have hc : cutV vs (some y) none = vs.drop y.toNat := by conv => lhs; rw [ey, cut_from]
    rw [hc]
    have z := Evl.Ex.new (o := HO.lst (vs.drop y.toNat)) hp
    refine k _ _ n2 _ h2 ((e1.trans e2).trans (.of z)) (m.kept i2 z) ⟨p, _, rfl, new_l hp (c.go (e1.trans e2) i2).good, (hA.drop _).mono fun _ _ q => R.mono (hid_mono z) q, by rw [List.length_drop]; omega⟩
/-- t[:i] -/
theorem w_toT {Post : List α → Z → Prop} (h : EvW m ta Γ n (rTup K R) fun l n1 => EvW m tb Γ n1 rInt fun i n2 => 0 ≤ i ∧ Post (l.take i.toNat) n2) : EvW m (tSl (rSlA K) ta tNoPart (tPart tb)) Γ n (rTup K R) Post := fun M σ H c e Q k =>
  h M σ H c e _ fun v x n1 H1 p1 e1 i1 r1 => p1 M σ H1 (c.go e1 i1) (e.mono (e1.hid c.mm)) _ fun u y n2 H2 p2 e2 i2 r2 => by
    obtain ⟨h1, h2⟩ := p2
    have r1' := (rTup K R).mono (e2.hid c.mm) r1
    obtain ⟨a, vs, rfl, hs, hA, hl⟩ := id r1'
    have r2 : u = .int y := r2
    subst r2
    have ey : y = (y.toNat : Int) := by omega
    refine ⟨y, rfl, a, vs, rfl, ex_t hid_le hs, fun hw => ?_, fun _ p hp => ?_⟩
    · have hz : min y.toNat vs.length = vs.length := by
        have := hw.2
        rw [ey, HT.sIx_nat] at this
        exact this
      have e3 : x.take y.toNat = x := List.take_of_length_le (by rw [← hA.len]; omega)
      rw [e3] at h2
      exact k _ _ n2 _ h2 (e1.trans e2) i2 r1'
    · have hc : cutV vs none (some y) = vs.take y.toNat := by conv => lhs; rw [ey, cut_to]
      rw [hc]
      have z := Evl.Ex.new (o := HO.tup (vs.take y.toNat)) hp
      refine k _ _ n2 _ h2 ((e1.trans e2).trans (.of z)) (m.kept i2 z) ⟨p, _, rfl, new_t hp (c.go (e1.trans e2) i2).good, (hA.take _).mono fun _ _ q => R.mono (hid_mono z) q, by rw [List.length_take]; omega⟩
  /-- l + m -/
theorem w_cat {Post : List α → Z → Prop} (h : EvW m ta Γ n (rLst K R) fun x n1 => EvW m tb Γ n1 (rLst K R) fun y n2 => x.length + y.length ≤ bigN ∧ Post (x ++ y) n2) : EvW m (tOp rCat ta tb) Γ n (rLst K R) Post := fun M σ H c e Q k =>
  h M σ H c e _ fun v x n1 H1 p1 e1 i1 r1 => p1 M σ H1 (c.go e1 i1) (e.mono (e1.hid c.mm)) _ fun u y n2 H2 p2 e2 i2 r2 => by
    obtain ⟨h1, h2⟩ := p2
    obtain ⟨a, vs, rfl, hs, hA, hl⟩ := (rLst K R).mono (e2.hid c.mm) r1
    obtain ⟨b, ws, rfl, ht, hB, hl2⟩ := r2
    refine ⟨a, b, vs, ws, rfl, rfl, hid_le _ _ hs, hid_le _ _ ht, by rw [hA.len, hB.len]; exact Nat.le_of_lt (Nat.lt_of_le_of_lt h1 bigN_line), fun p hp => ?_⟩
    have z := Evl.Ex.new (o := HO.lst (vs ++ ws)) hp
    exact k _ _ n2 _ h2 ((e1.trans e2).trans (.of z)) (m.kept i2 z) ⟨p, _, rfl, new_l hp (c.go (e1.trans e2) i2).good, (hA.append hB).mono fun _ _ q => R.mono (hid_mono z) q, by rw [List.length_append]; exact h1⟩
/-- l[::-1] -/
theorem w_revL {Post : List α → Z → Prop} (h : EvW m ta Γ n (rLst K R) fun x n1 => Post x.reverse n1) : EvW m (tRevL K ta) Γ n (rLst K R) Post := fun M σ H c e Q k =>
  h M σ H c e _ fun v x n1 H1 p1 e1 i1 r1 => by
    obtain ⟨a, vs, rfl, hs, hA, hl⟩ := lst_sql r1
    refine ⟨a, vs, rfl, ex_l hid_le hs, fun p hp => ?_⟩
    have z := Evl.Ex.new (o := HO.lst vs.reverse) hp
    exact k _ _ n1 _ p1 (e1.trans (.of z)) (m.kept i1 z) ⟨p, _, rfl, new_l hp (c.go e1 i1).good, hA.reverse.mono fun _ _ q => R.mono (hid_mono z) q, by rw [List.length_reverse]; exact hl⟩
end
end L2.Lc
end

-- part LcRev
section
set_option Elab.async false
set_option linter.all false
set_option maxRecDepth 100000
set_option maxHeartbeats 400000
namespace L2.Lc
open PySem PySem.Spec PyProof.Rows L2 HT
open Evl (Ex ex_l ex_t)
section
variable {prog : Program} {w : World} {A : Around} {E : Value → Shared → Prop} {s : Shared}
theorem adj_rev (n : Nat) : Builtin.Slice.sliceAdjust none none (-1) (n : Int) = ((n : Int) - 1, -1) := rfl
theorem places_rev (n : Nat) : Builtin.Slice.slicePlaces ((n : Int) - 1) (-1) (-1) = n := by
  unfold Builtin.Slice.slicePlaces
  have h1 : ¬ ((-1 : Int) > 0) := by decide
  rw [if_neg h1, show (- -1 : Int) = 1 by decide, Int.ediv_one]
  split <;> omega
theorem pick_rev (xs : Array Value) : ((List.range xs.size).filterMap fun (m : Nat) => xs[(((xs.size : Int) - 1) + (m : Int) * (-1)).toNat]?).toArray = xs.toList.reverse.toArray := by
  have e : (List.range xs.size).filterMap (fun (m : Nat) => xs[(((xs.size : Int) - 1) + (m : Int) * (-1)).toNat]?) = ((List.range xs.size).map fun k => xs.size - 1 - k).filterMap (xs[·]?) := by
    rw [List.filterMap_map]
    congr 1
    funext m
    show xs[(((xs.size : Int) - 1) + (m : Int) * (-1)).toNat]? = xs[xs.size - 1 - m]?
    congr 1
    omega
  rw [e, PySem.W.krv_range, List.filterMap_reverse, PySem.W.krv_all]
theorem sliceApplied_rev {sl : Addr} {vs : Value} {n : Nat} {Q : Int × Int × Nat → Shared → Prop} (hs : s.heap.IsSliceOf sl .none .none vs) (ps : IsPart vs (some (-1)))
    (h : Q ((n : Int) - 1, -1, n) s) : wpAny (model prog w) A (Builtin.Slice.sliceApplied (.ref sl) (pure (n : Int))) Q E s := by
  obtain ⟨os, hos, hcs, hds⟩ := id hs
  unfold Builtin.Slice.sliceApplied Builtin.Slice.sliceFields
  refine wpAny_bind (wpAny_bind (wpAny_field hos hds (x := .none) rfl (wpAny_bind (wpAny_field hos hds (x := .none) rfl (wpAny_bind (wpAny_field hos hds (x := vs) rfl (wpAny_pure ?_)))))))
  refine wpAny_bind (slicePart_ ps ?_)
  show wpAny _ _ (if ((-1 : Int) == 0) = true then _ else _) _ _ s
  rw [if_neg (by decide)]
  refine wpAny_bind (slicePart_none (wpAny_bind (slicePart_none (wpAny_bind (wpAny_pure ?_)))))
  show wpAny _ _ (pure ((n : Int) - 1, (-1 : Int), Builtin.Slice.slicePlaces ((n : Int) - 1) (-1) (-1))) _ _ s
  rw [places_rev]
  exact wpAny_pure h
theorem getItem_tuple_rev {t sl : Addr} {items : Array Value} {vs : Value} {Q : Value → Shared → Prop} (ht : IsTup s.heap t items) (hs : s.heap.IsSliceOf sl .none .none vs) (ps : IsPart vs (some (-1)))
    (h : Q (.ref s.heap.objs.size) { s with heap := s.heap.push { cls := .type "tuple", data := .seq items.toList.reverse.toArray } })
    (hsz : items.size ≤ sizeLine) : wpAny (model prog w) A (getItem (.ref t) (.ref sl)) Q E s := by
  have htake : sizeOk (.seq items.toList.reverse.toArray) := by
    show items.toList.reverse.toArray.size ≤ sizeLine
    rw [List.size_toArray, List.length_reverse, Array.length_toList]
    exact hsz
  obtain ⟨os, hos, hcs, hds⟩ := id hs
  have hTs : s.TypeIs (.ref sl) "slice" := ⟨os, hos, hcs⟩
  unfold getItem
  try with_reducible refine wpAny_holding ?_
  first | refine wpAny_bind (wpAny_pure ?_) | skip
  refine wpAny_bind (wpAny_sequenceKey ht.typeIs (by decide) ?_)
  refine wpAny_bind (wpAny_callSpecial?_slot (name := Str.ofString "__getitem__") ht.typeIs PyProof.Rows.slot_tuple_getitem
    (wpAny_call_entry PyProof.Rows.slot_tuple_getitem ht.typeIs entry_tuple_getitem ?_ (args_tuple_getitem _ _)))
  show wpAny _ _ (Builtin.Tuple.tupleItemsOf (.ref t) >>= _) _ _ s
  refine wpAny_bind (tupleItemsOf_ ht ?_)
  refine wpAny_bind (wpAny_typeOf hTs ?_)
  rw [if_pos (by decide)]
  refine wpAny_bind (sliceApplied_rev hs ps ?_)
  have hno : ¬ ((((items.size : Int) - 1) == 0 && (-1 : Int) == 1 && items.size == items.size) = true) := by
    intro q
    rw [Bool.and_eq_true, Bool.and_eq_true] at q
    exact absurd q.1.2 (by decide)
  show wpAny _ _ (if (((items.size : Int) - 1) == 0 && (-1 : Int) == 1 && items.size == items.size) = true then _ else _) _ _ s
  rw [if_neg hno, pick_rev]
  first
    | exact wpAny_bind (m := Builtin.Tuple.tupleExact _) (wpAny_newObj_type (wpAny_pure ⟨_, rfl, wpAny_pure h⟩) htake)
    | exact wpAny_bind (m := Builtin.Tuple.tupleExact _) (wpAny_newObj_type (wpAny_bind (wpAny_pure (wpAny_pure ⟨_, rfl, wpAny_pure h⟩))) htake)
    | exact wpAny_bind (wpAny_bind (m := Builtin.Tuple.tupleExact _) (wpAny_newObj_type (wpAny_pure (wpAny_pure ⟨_, rfl, wpAny_pure h⟩)) htake))
    | exact wpAny_bind (wpAny_bind (m := Builtin.Tuple.tupleExact _) (wpAny_newObj_type (wpAny_pure ⟨_, rfl, wpAny_pure h⟩) htake))
end
section
variable {X : Cx}
def tRevT (K : PySem.W.Frag) (te : TE) : TE := fun σ H Q => te σ H fun x H1 => ∃ a xs, x = .ref a ∧ SqT K H1 a xs ∧ ∀ p, H1 p = none → Q (.ref p) (upd H1 p (.tup xs.reverse))
theorem pe_revT {e : Expr} {te : TE} {k : Nat} {p1 p2 p3 pos : Pos} (he : PE X e te) : PE X (.Subscript e (.Slice none none (some (.UnaryOp .USub (.Constant (.int 1) k p1) p2)) p3) pos) (tRevT X.K te) := by
  refine ⟨fun pins s σ H Q I h => ?_⟩
  refine Subscript_ (thn (he.run pins s σ H _ I h) fun v s1 ⟨x, H1, I1, r1, q1⟩ => ?_)
  obtain ⟨a, xs, ex, hx, q⟩ := q1
  subst ex
  cases r1
  have hst : PO X (some (.UnaryOp .USub (.Constant (.int 1) k p1) p2)) (tPart (tUn (rU fun i => .int (-i)) (tC (.int 1)))) := po_some (pe_un un_neg pe_int)
  refine wpAny_Slice (thn (po_none.run pins s1 σ H1 (fun o H2 => o = none ∧ H2 = H1) I1 ⟨rfl, rfl⟩) fun vl s2 ⟨l, H2, I2, pl, el, e2⟩ => ?_)
  subst el e2
  refine thn (po_none.run pins s2 σ H2 (fun o H3 => o = none ∧ H3 = H2) I2 ⟨rfl, rfl⟩) fun vu s3 ⟨u, H3, I3, pu, eu, e3⟩ => ?_
  subst eu e3
  refine thn (hst.run pins s3 σ H3 (fun o H4 => o = some (-1) ∧ H4 = H3) I3 ⟨1, rfl, -1, rfl, rfl, rfl⟩) fun vs s4 ⟨o, H4, I4, ps, eo, e4⟩ => ?_
  subst eo e4
  have I5 : Inv X pins σ H4 { s4 with heap := s4.heap.push { cls := .type "slice", data := .fields #[vl, vu, vs] } } := I4.kept (t' := s4.toks) fun b ob q => Heap.get?_push_of_some _ q
  obtain ⟨its, r, ht, hz⟩ := I5.tuple hx
  have hlen := r.length
  cases pl
  cases pu
  show wpAny (model X.prog X.w) X.A (subscriptTail e (.Slice none none (some (.UnaryOp .USub (.Constant (.int 1) k p1) p2)) p3) (.ref a) (.ref s4.heap.objs.size)) (EP X pins σ Q) X.xe { s4 with heap := s4.heap.push { cls := .type "slice", data := .fields #[.none, .none, vs] } }
  refine tail_any (ops := [.ref a, .ref s4.heap.objs.size]) ht.typeIs (PyProof.Rows.slot_tuple_getitem.lookup) ?_ (by with_unfolding_all rfl)
  refine getItem_tuple_rev ht (Heap.IsSliceOf.new _ .none .none vs) ps ?_ (by rw [List.size_toArray]; omega)
  refine ⟨.ref _, _, I5.laid (t' := s4.toks) (o := .tup xs.reverse) (fun b ob q => Heap.get?_push_of_some _ q) (Nat.le_refl _) ?_, rfl, q _ (I5.hok.fresh (Nat.le_refl _))⟩
  exact ⟨by rw [List.length_reverse]; exact hz, _, r.reverse, _, Heap.get?_push_size _ rfl, rfl, 0, rfl⟩
end
section
variable {Z : Type} {m : Md Z} {Γ : Gm} {n : Z} {α : Type} {R : Rl α} {K : PySem.W.Frag} {ta : TE}
theorem w_revT {Post : List α → Z → Prop} (h : EvW m ta Γ n (rTup K R) fun x n1 => Post x.reverse n1) : EvW m (tRevT K ta) Γ n (rTup K R) Post := fun M σ H c e Q k =>
  h M σ H c e _ fun v x n1 H1 p1 e1 i1 r1 => by
    obtain ⟨a, vs, rfl, hs, hA, hl⟩ := r1
    refine ⟨a, vs, rfl, ex_t hid_le hs, fun p hp => ?_⟩
    have z := Evl.Ex.new (o := HO.tup vs.reverse) hp
    exact k _ _ n1 _ p1 (e1.trans (.of z)) (m.kept i1 z) ⟨p, _, rfl, new_t hp (c.go e1 i1).good, hA.reverse.mono fun _ _ q => R.mono (hid_mono z) q, by rw [List.length_reverse]; exact hl⟩
end
end L2.Lc
end

-- part LcData
section
set_option Elab.async false
set_option linter.all false
set_option maxRecDepth 100000
set_option maxHeartbeats 400000
/-! # plain data: equality at any depth -/
namespace L2.Lc
open PySem PySem.Spec PyProof.Rows L2
open Evl (Ex ex_l ex_t)
section
variable {K : PySem.W.Frag} {G H : Hp}
mutual
theorem dp_up (e : Ex G H) : ∀ (d : PyData) (v : V), Dp K G v d → Dp K H v d
  | .none, _, h => by cases h; exact .non
  | .bool b, _, h => by cases h; exact .bl b
  | .int i, _, h => by cases h; exact .int i
  | .str x, _, h => by cases h; exact .str x
  | .list ds, _, h => by
    cases h with
    | lst h1 h2 => exact .lst (ex_l e h1) (dps_up e ds _ h2)
  | .tuple ds, _, h => by
    cases h with
    | tup h1 h2 => exact .tup (ex_t e h1) (dps_up e ds _ h2)
  | .dict _, _, h => by cases h
theorem dps_up (e : Ex G H) : ∀ (ds : List PyData) (vs : List V), DpAll K G vs ds → DpAll K H vs ds
  | [], _, h => by cases h; exact .nil
  | d :: ds, _, h => by
    cases h with
    | cons h1 h2 => exact .cons (dp_up e d _ h1) (dps_up e ds _ h2)
end
end
/-- a kind of plain data -/
structure DatW (K : PySem.W.Frag) {α : Type} (R : Rl α) (toD : α → PyData) (k : Nat) : Prop where
  dp : ∀ {G : Hp} {v : V} {x : α}, R.r G v x → Dp K G v (toD x) ∧ (toD x).canLay0 = true
  depth : ∀ x, (toD x).depth ≤ k
/-- equality of such data -/
structure DatE {α : Type} (toD : α → PyData) (eq : α → α → Bool) : Prop where
  eqv : ∀ x y, PyData.eqv (toD x) (toD y) = eq x y
section
variable {K : PySem.W.Frag} {α β : Type} {R : Rl α} {S : Rl β} {dR : α → PyData} {dS : β → PyData} {k j : Nat}
theorem dat_int : DatW K rInt PyData.int 0 := ⟨fun {G v x} r => by
  have r : v = .int x := r
  subst r
  exact ⟨.int x, rfl⟩, fun _ => Nat.le_refl _⟩
theorem lay_all {dR : α → PyData} : ∀ {l : List α}, (∀ x ∈ l, (dR x).canLay0 = true) → PyData.canLayAll0 (l.map dR) = true
  | [], _ => rfl
  | x :: l, h => by
    show (PyData.canLay0 (dR x) && PyData.canLayAll0 (l.map dR)) = true
    rw [h x (List.mem_cons_self ..), lay_all (l := l) fun y hy => h y (List.mem_cons_of_mem _ hy)]
    rfl
theorem depth_all {dR : α → PyData} (h : ∀ x, (dR x).depth ≤ k) : ∀ l : List α, PyData.depthAll (l.map dR) ≤ k
  | [] => Nat.zero_le _
  | x :: l => Nat.max_le.mpr ⟨h x, depth_all h l⟩
theorem al_dp (D : DatW K R dR k) {G : Hp} : ∀ {vs : List V} {l : List α}, Al (fun v x => R.r G v x) vs l → DpAll K G vs (l.map dR) ∧ ∀ x ∈ l, (dR x).canLay0 = true
  | _, _, .nil => ⟨.nil, fun _ h => by cases h⟩
  | _, _, .cons h t => by
    obtain ⟨h1, h2⟩ := D.dp h
    obtain ⟨t1, t2⟩ := al_dp D t
    refine ⟨.cons h1 t1, fun y hy => ?_⟩
    rcases List.mem_cons.mp hy with rfl | hy
    · exact h2
    · exact t2 y hy
theorem dat_lst (D : DatW K R dR k) : DatW K (rLst K R) (fun l => .list (l.map dR)) (k + 1) := ⟨fun {G v l} r => by
  obtain ⟨a, vs, rfl, hs, hA, _⟩ := lst_sql r
  obtain ⟨h1, h2⟩ := al_dp D hA
  exact ⟨.lst hs h1, lay_all h2⟩, fun l => Nat.succ_le_succ (depth_all D.depth l)⟩
theorem dat_tup (D : DatW K R dR k) : DatW K (rTup K R) (fun l => .tuple (l.map dR)) (k + 1) := ⟨fun {G v l} r => by
  obtain ⟨a, vs, rfl, hs, hA, _⟩ := r
  obtain ⟨h1, h2⟩ := al_dp D hA
  exact ⟨.tup hs h1, lay_all h2⟩, fun l => Nat.succ_le_succ (depth_all D.depth l)⟩
theorem dat_pr (D : DatW K R dR k) (F : DatW K S dS k) : DatW K (rPr K R S) (fun p => .tuple [dR p.1, dS p.2]) (k + 1) := ⟨fun {G v p} r => by
  obtain ⟨a, x, y, rfl, hs, hx, hy⟩ := r
  obtain ⟨h1, h2⟩ := D.dp hx
  obtain ⟨h3, h4⟩ := F.dp hy
  refine ⟨.tup hs (.cons h1 (.cons h3 .nil)), ?_⟩
  show (PyData.canLay0 (dR p.1) && (PyData.canLay0 (dS p.2) && true)) = true
  rw [h2, h4]; rfl, fun p => by
  show max ((dR p.1).depth) (max ((dS p.2).depth) 0) + 1 ≤ k + 1
  have := D.depth p.1
  have := F.depth p.2
  omega⟩
theorem eq_int : DatE PyData.int (fun a b => decide (a = b)) := ⟨fun a b => by
  show (a == b) = _
  by_cases h : a = b
  · subst h; simp
  · simp [h]⟩
theorem eqv_all [DecidableEq α] {dR : α → PyData} (E : DatE dR fun a b => decide (a = b)) : ∀ l m : List α, PyData.eqvAll (l.map dR) (m.map dR) = decide (l = m)
  | [], [] => by simp [PyData.eqvAll]
  | [], _ :: _ => by simp [PyData.eqvAll]
  | _ :: _, [] => by simp [PyData.eqvAll]
  | x :: l, y :: m => by
    show (PyData.eqv (dR x) (dR y) && PyData.eqvAll (l.map dR) (m.map dR)) = _
    rw [E.eqv, eqv_all E l m]
    simp [List.cons.injEq]
theorem eq_lst [DecidableEq α] (E : DatE dR fun a b => decide (a = b)) : DatE (fun l : List α => PyData.list (l.map dR)) fun a b => decide (a = b) := ⟨fun l m => by
  show PyData.eqvAll _ _ = _
  exact eqv_all E l m⟩
theorem eq_tup [DecidableEq α] (E : DatE dR fun a b => decide (a = b)) : DatE (fun l : List α => PyData.tuple (l.map dR)) fun a b => decide (a = b) := ⟨fun l m => by
  show PyData.eqvAll _ _ = _
  exact eqv_all E l m⟩
theorem eq_pr [DecidableEq α] [DecidableEq β] (E : DatE dR fun a b => decide (a = b)) (F : DatE dS fun a b => decide (a = b)) : DatE (fun p : α × β => .tuple [dR p.1, dS p.2]) fun a b => decide (a = b) := ⟨fun p q => by
  show (PyData.eqv (dR p.1) (dR q.1) && (PyData.eqv (dS p.2) (dS q.2) && true)) = _
  rw [E.eqv, F.eqv]
  obtain ⟨p1, p2⟩ := p
  obtain ⟨q1, q2⟩ := q
  simp [Prod.mk.injEq]⟩
theorem shaped_of {d : PyData} (h : d.canLay0 = true) (k : d.depth ≤ 64) : SeqAt.shaped d = true := by
  unfold SeqAt.shaped
  rw [h, decide_eq_true k]; rfl
theorem o_eqD (D : DatW K R dR k) (hk : k ≤ 64) {eq : α → α → Bool} (E : DatE dR eq) : OpW (rEqD K) R R rBl (fun _ _ => True) eq := fun M H v u x y gd r1 r2 _ Q q => by
  obtain ⟨h1, h2⟩ := D.dp r1
  obtain ⟨h3, h4⟩ := D.dp r2
  refine ⟨_, _, dp_up hid_le _ _ h1, dp_up hid_le _ _ h3, shaped_of h2 (Nat.le_trans (D.depth x) hk), shaped_of h4 (Nat.le_trans (D.depth y) hk), ?_⟩
  rw [E.eqv]
  exact q _ H (fun _ _ h => h) rfl
theorem o_neD (D : DatW K R dR k) (hk : k ≤ 64) {eq : α → α → Bool} (E : DatE dR eq) : OpW (rNeD K) R R rBl (fun _ _ => True) (fun x y => !eq x y) := fun M H v u x y gd r1 r2 _ Q q => by
  obtain ⟨h1, h2⟩ := D.dp r1
  obtain ⟨h3, h4⟩ := D.dp r2
  refine ⟨_, _, dp_up hid_le _ _ h1, dp_up hid_le _ _ h3, shaped_of h2 (Nat.le_trans (D.depth x) hk), shaped_of h4 (Nat.le_trans (D.depth y) hk), ?_⟩
  rw [E.eqv]
  exact q _ H (fun _ _ h => h) rfl
theorem any_eqv [DecidableEq α] {dR : α → PyData} (E : DatE dR fun a b => decide (a = b)) (x : α) : ∀ l : List α, (l.map dR).any (fun z => PyData.eqv z (dR x)) = decide (x ∈ l)
  | [] => by simp
  | y :: l => by
    rw [List.map_cons, List.any_cons, E.eqv, any_eqv E x l]
    by_cases h : y = x
    · simp [h]
    · simp [h, Ne.symm h]
theorem o_inD [DecidableEq α] (D : DatW K R dR k) (hk : k < 64) (E : DatE dR fun a b => decide (a = b)) : OpW (rInD K) R (rLst K R) rBl (fun _ _ => True) (fun x l => decide (x ∈ l)) := fun M H v u x y gd r1 r2 _ Q q => by
  obtain ⟨h1, h2⟩ := D.dp r1
  obtain ⟨h3, h4⟩ := (dat_lst D).dp r2
  refine ⟨_, _, dp_up hid_le _ _ h1, dp_up hid_le _ _ h3, shaped_of h2 (Nat.le_trans (D.depth x) (by omega)), shaped_of h4 (Nat.le_trans ((dat_lst D).depth y) (by omega)), ?_⟩
  rw [any_eqv E]
  exact q _ H (fun _ _ h => h) rfl
theorem o_notInD [DecidableEq α] (D : DatW K R dR k) (hk : k < 64) (E : DatE dR fun a b => decide (a = b)) : OpW (rNotInD K) R (rLst K R) rBl (fun _ _ => True) (fun x l => !decide (x ∈ l)) := fun M H v u x y gd r1 r2 _ Q q => by
  obtain ⟨h1, h2⟩ := D.dp r1
  obtain ⟨h3, h4⟩ := (dat_lst D).dp r2
  refine ⟨_, _, dp_up hid_le _ _ h1, dp_up hid_le _ _ h3, shaped_of h2 (Nat.le_trans (D.depth x) (by omega)), shaped_of h4 (Nat.le_trans ((dat_lst D).depth y) (by omega)), ?_⟩
  rw [any_eqv E]
  exact q _ H (fun _ _ h => h) rfl
end
theorem hu65 {k : Nat} {A : Around} (hr : Room k A) : A.units + 65 < cLine := by have := hr.un; omega
end L2.Lc
end

-- part LcSort
section
set_option Elab.async false
set_option linter.all false
set_option maxRecDepth 100000
set_option maxHeartbeats 400000
/-! # sorted of tuples of integers, of any size and sign -/
namespace L2.Lc
open PySem PySem.Spec PyProof.Rows L2
open Evl (Ex ex_l ex_t)
open PyProof.Rows
def lexI : List Int → List Int → Bool
  | [], [] => false
  | [], _ :: _ => true
  | _ :: _, [] => false
  | x :: r, y :: t => decide (x < y) || (!decide (y < x) && lexI r t)
abbrev noText : Nat → Bool := fun _ => false
theorem lexI_eq : ∀ a b : List Int, lexLt itemOrd (a.map Sum.inl) (b.map Sum.inl) = lexI a b
  | [], [] => rfl
  | [], _ :: _ => rfl
  | _ :: _, [] => rfl
  | x :: r, y :: t => by
    show lexLt itemOrd (Sum.inl x :: r.map Sum.inl) (Sum.inl y :: t.map Sum.inl) = _
    rw [lex_cons, lexI_eq r t]
    rfl
theorem items_ints : ∀ (ns : List Int) (its : List Value) (i : Nat), Vals (ns.map V.int) its → tupItems noText i its = some (ns.map Sum.inl)
  | [], _, _, .nil => rfl
  | n :: ns, _, i, .cons (l₂ := us) r t => by
    obtain ⟨k, rfl⟩ := r
    show (tupItems noText (i + 1) us).map (Sum.inl n :: ·) = _
    rw [items_ints ns us (i + 1) t]
    rfl
section
variable {X : Cx} {pins : List (Addr × Obj)} {σ : St} {H : Hp} {s : Shared}
theorem key_tup (I : Inv X pins σ H s) {t : Addr} {ns : List Int} (h : H t = some (.tup (ns.map V.int))) : G.tupKeyC s.heap noText (.ref t) = some (ns.map Sum.inl) ∧ (ns ≠ [] → ∃ f, TupOf s.heap noText (.ref t) f) := by
  obtain ⟨_, its, rv, o, ho, hc, n, hd⟩ := (show ObjOk X.prog X.w H s.heap t (.tup (ns.map V.int)) from I.hok t _ h)
  refine ⟨?_, fun hne => ?_⟩
  · unfold G.tupKeyC G.isTupObj tupKey
    simp only [ho, hc, hd, beq_self_eq_true, if_true]
    exact items_ints ns its 0 rv
  · cases ns with
    | nil => exact absurd rfl hne
    | cons m ns =>
      cases rv with
      | cons r _ =>
        obtain ⟨k, rfl⟩ := r
        exact ⟨.int m k, t, o, _, n, rfl, ho, hc, hd, rfl, fun _ => ⟨m, k, rfl⟩, fun z => by cases z⟩
/-- x is a tuple that holds these -/
def IsT (H : Hp) (x : V) (ns : List Int) : Prop := ∃ t, x = .ref t ∧ H t = some (.tup (ns.map V.int))
def rSortZ (K : PySem.W.Frag) : List V → Hp → VK → Prop := fun vs H Q => ∃ (a : Addr) (xs : List V), vs = [V.ref a] ∧ SqL K H a xs ∧ (∀ x ∈ xs, ∃ ns, IsT H x ns ∧ ns ≠ []) ∧
  ∀ (ys : List V) (p : Addr), ys.Perm xs → ys.Pairwise (fun x y => ∀ n m, IsT H x n → IsT H y m → lexI m n = false) → H p = none → Q (.ref p) (upd H p (.lst ys))
theorem tups_of {h : Heap} : ∀ {vs : List Value}, (∀ v ∈ vs, ∃ f, TupOf h noText v f) → ∃ fs, TupsOf h noText vs fs
  | [], _ => ⟨[], .nil⟩
  | v :: vs, k => by
    obtain ⟨f, hf⟩ := k v (List.mem_cons_self ..)
    obtain ⟨fs, hfs⟩ := tups_of fun u hu => k u (List.mem_cons_of_mem _ hu)
    exact ⟨f :: fs, .cons hf hfs⟩
theorem cr_sortZ : CallR X (.builtin "sorted") (rSortZ X.K) := by
  intro pins s σ H vs us Q I r h
  obtain ⟨a, xs, rfl, hs, hx, q⟩ := h
  obtain ⟨its, rv, hl, hz⟩ := I.list hs
  rw [Vals.ref1 r]
  have refs : ∀ x ∈ xs, ∃ t, x = V.ref t := fun x m => by
    obtain ⟨ns, ⟨t, e, _⟩, _⟩ := hx x m
    exact ⟨t, e⟩
  obtain ⟨e1, e2⟩ := bkV_refs rv refs
  have hkey : ∀ v ∈ its, ∃ t ns, v = .ref t ∧ H t = some (.tup (ns.map V.int)) ∧ ns ≠ [] := fun v hv => by
    obtain ⟨t, rfl⟩ := e2 v hv
    have hm : V.ref t ∈ xs := by
      rw [e1]
      exact List.mem_map_of_mem (f := bkV) hv
    obtain ⟨ns, ⟨t', e, ht⟩, hn⟩ := hx _ hm
    cases e
    exact ⟨t, ns, rfl, ht, hn⟩
  obtain ⟨fs, hfs⟩ := tups_of (h := s.heap) (vs := its) fun v hv => by
    obtain ⟨t, ns, rfl, ht, hn⟩ := hkey v hv
    exact (key_tup I ht).2 hn
  refine G.sorted_tups hl.isList hfs (fun v hv => by
    obtain ⟨t, ns, rfl, ht, _⟩ := hkey v hv
    exact ⟨_, (key_tup I ht).1⟩) (by rw [← rv.length]; exact hz) fun st' hp hs' _ => ?_
  -- the outcome's items
  generalize hZ : (arrOf st').toList = zs
  have hp2 : zs.Perm (its.zip its) := by
    have := Array.perm_iff_toList_perm.mp hp
    rw [pairsOf_toList, hZ] at this
    exact this
  have same : ∀ p ∈ zs, p.1 = p.2 ∧ p.1 ∈ its := fun p hp => mem_zip_self (hp2.mem_iff.mp hp)
  have hout : ((arrOf st').map (·.2)).toList = zs.map (·.2) := by rw [Array.toList_map, hZ]
  have h1 : (zs.map (·.2)).Perm its := by
    have := hp2.map (·.2)
    rwa [List.map_snd_zip (Nat.le_refl _)] at this
  obtain ⟨ep, he'⟩ := PyProof.Rows.sortedAll_at s.heap its ((arrOf st').map (·.2))
  have h3 : ∀ u ∈ zs.map (·.2), ∃ a, u = Value.ref a := fun u hu => e2 u (h1.mem_iff.mp hu)
  have hpm : ((zs.map (·.2)).map bkV).Perm xs := by
    rw [e1]
    exact h1.map bkV
  have hlen : ((zs.map (·.2)).map bkV).length ≤ sizeLine := by
    rw [hpm.length_eq]
    exact hz
  refine ⟨.ref _, upd H (s.heap.objs.size + 1) (.lst ((zs.map (·.2)).map bkV)), I.laid (t' := s.toks) (fun _ _ => PyProof.Rows.sortedAll_old) (Nat.le_succ _) ⟨hlen, zs.map (·.2), ep, bkV_vals h3, by rw [he', ← hout]⟩, rfl, q _ _ hpm ?_ (I.hok.fresh (Nat.le_succ _))⟩
  rw [List.pairwise_map, List.pairwise_map, List.pairwise_iff_getElem]
  intro i j hi hj hij n m hn hm
  have si := same _ (List.getElem_mem hi)
  have sj := same _ (List.getElem_mem hj)
  have asz : (arrOf st').size = zs.length := by rw [← hZ, Array.length_toList]
  have gi : ∀ (i : Nat) (hi : i < zs.length), (arrOf st')[i]? = some zs[i] := fun i hi => by
    rw [← Array.getElem?_toList, hZ, List.getElem?_eq_getElem hi]
  have hsz : (pairsOf its).size = zs.length := by rw [← hp.size_eq, asz]
  have le := hs' i j (Nat.le_of_lt hij) (by rw [hsz]; exact hj)
  have kk : ∀ (i : Nat) (hi : i < zs.length) (n : List Int), IsT H (bkV zs[i].2) n → KK (G.tupKindC s.heap noText) (arrOf st') i = n.map Sum.inl := fun i hi n hn => by
    obtain ⟨t, et, ht⟩ := hn
    have eu := bkV_ref et
    have sm := (same _ (List.getElem_mem hi)).1
    unfold KK
    rw [gi i hi]
    show (G.tupKeyC s.heap noText zs[i].1).getD [] = _
    rw [sm, eu, (key_tup I ht).1]
    rfl
  rw [kk i hi n hn, kk j hj m hm] at le
  have le : lexLt itemOrd (m.map Sum.inl) (n.map Sum.inl) = false := le
  rwa [lexI_eq] at le
end
end L2.Lc
end

-- part LcDc
section
set_option Elab.async false
set_option linter.all false
set_option maxRecDepth 100000
set_option maxHeartbeats 1000000
/-! # dict comprehensions whose keys are tuples of integers and texts -/
namespace L2.Lc
open PySem PySem.Spec PyProof.Rows L2
open Evl (Ex ex_l ex_t)
/-- d[k] = v within a comprehension, a key of either kind -/
theorem put_comp {X : Cx} {pins : List (Addr × Obj)} {σ : St} {H H' : Hp} {s : Shared} {E : Value → Shared → Prop} {D : Addr} {y v : V} {u r : Value} {Q : Unit → Shared → Prop}
    (room : X.A.units + 1 < cLine) (I : Inv X pins σ H s) (g : DPut H D y v H') (ry : RelV y u) (rv : RelV v r) (k : ∀ s', Inv X pins σ H' s' → Q () s') : wpAny (model X.prog X.w) X.A (dictSet D u r) Q E s := by
  rcases g with ⟨kvs, key, e, rfl, l, rfl⟩ | ⟨kvs, key, b, e, rfl, eb, l, rfl⟩
  · exact d_dictSet I e l ry rv k
  · obtain rfl : u = Value.ref b := ry
    obtain ⟨z, hd, xs, rel, dd⟩ := dt_of I.hok e
    have more := length_putK kvs key v
    refine wpAny_dictSet_heap (show X.A.units < cLine from Nat.lt_of_succ_lt room) (key_of I.hok eb) dd (fun h' dd' same => k _ ?_) (by rw [← Paired.length rel]; exact z)
    obtain ⟨ob, es, ep, hob, p2, p3, p4, _, p5⟩ := dd'
    have step := (rel.put key eb rv).keeps (H' := upd H D (.dT (putK kvs key v))) fun c ys ec => by
      rw [upd_ne fun z => by rw [z, e] at ec; cases ec]
      exact ec
    exact d_write I (by rw [e]; exact True.intro) same ⟨ob, hob⟩ ⟨by omega, hd, _, step, ob, es, ep, hob, p2, p3, p4, p5⟩
section
variable {X : Cx}
/-- {k: v for target in iter if ..}: the new dict D is told as one with tuple keys -/
def tDcT (wi : TI) (g : TG) (tt : TT) (tk tv : TE) (vs : List Nat) : TE := fun σ H Q => wi σ H fun J H1 => ∀ D, H1 D = none → ∃ W : Nat → Nat → Hp → Prop, (∃ m, W 0 m (upd H1 D (.dT []))) ∧ ∀ i m H, W i m H →
  (J.stop i H ∧ Q (.ref D) H) ∨ (J.go i H ∧ ∃ Nx : Hp → Prop, (∀ H', Nx H' → ∃ m', m' < m ∧ W (i + 1) m' H') ∧ ∀ x H', J.yld i H x H' → g x (wipe σ vs) H' fun σ2 H2 => wipe σ2 vs = wipe σ vs ∧ tt σ2 H2 fun b H3 =>
    if b = true then tk σ2 H3 fun y H4 => tv σ2 H4 fun z H5 => ∃ H6, DPut H5 D y z H6 ∧ Nx H6 else Nx H3)
variable {kx vx tg iter : Expr} {ifs : List Expr} {scope : Scope} {own : List (Str × Nat)} {pos pos' : Pos} {wi : TI} {g : TG} {tt : TT} {tk tv : TE}
theorem pe_dcT (hc : X.calm = true) (room : X.A.units + 1 < cLine) (hN : X.N.Nodup) (hi : PI X tg iter wi) (ok : BlkOk X.N X.env.scope scope own)
    (hg : ∀ s H C cl fp, PG (X.blk s H scope (compEnvC scope cl C X.env) fp) tg g) (ht : ∀ s H C cl fp, PTs (X.blk s H scope (compEnvC scope cl C X.env) fp) ifs tt)
    (hk : ∀ s H C cl fp, PE (X.blk s H scope (compEnvC scope cl C X.env) fp) kx tk) (he : ∀ s H C cl fp, PE (X.blk s H scope (compEnvC scope cl C X.env) fp) vx tv)
    (hs : ∀ x, foldedSetIterable iter X.env x = pure x := by intro _; rfl) : PE X (.DictComp kx vx [⟨tg, iter, ifs, 0⟩] scope pos) (tDcT wi g tt tk tv (own.map (·.2))) := by
  refine ⟨fun pins s σ H Q I h => ?_⟩
  rw [arm_eval_DictComp]
  have cellOf : ∀ y ∈ scope.names, y.2 = .free → ∃ c, X.env.cells.lookup y.1 = some c := by
    intro y hy e
    exact (ok.free y hy e).elim (fun k => I.ok.has _ (.inl k)) (fun k => I.ok.has _ (.inr k))
  refine wpAny_comprehension_free rfl hs (closure_ok cellOf) ok.kind (fun y hy e => by rw [ok.uniq y hy, e]) (thn (hi.run pins s σ H _ I h) fun xv s1 hx => thn hx fun itv s2 h2 => ?_)
  obtain ⟨it, fp, tn, J, H2, rfl, I2, T, st2, f2, q⟩ := h2
  refine wpAny_newObj_type (newEnv_comp ?_)
  obtain ⟨D, hD⟩ : ∃ D, s2.heap.objs.size = D := ⟨_, rfl⟩
  rw [hD]
  have free : H2 D = none := I2.hok.fresh (Nat.le_of_eq hD)
  obtain ⟨W, ⟨m0, w0⟩, turn⟩ := q D free
  let s3 : Shared := { s2 with heap := s2.heap.push { cls := .type "dict", data := .dict #[] } }
  have I3 : Inv X pins σ (upd H2 D (.dT [])) s3 :=
    I2.laid (t' := s2.toks) (fun b o e => Heap.get?_push_of_some _ e) (Nat.le_of_eq hD) (by rw [← hD]; exact dt_empty s2.heap I2.big)
  have below : ∀ b ∈ fp, b < s2.heap.objs.size := fun b hb => (T.obj _ _ st2 b hb).elim fun o e => Heap.lt_size e.1
  have f3 : ∀ b ∈ fp, FpOk X pins (upd H2 D (.dT [])) b ∧ b < s3.heap.objs.size := by
    intro b hb
    have lt := below b hb
    refine ⟨⟨?_, (f2 b hb).2⟩, by show b < (s2.heap.push _).objs.size; rw [Heap.size_push]; exact Nat.lt_succ_of_lt lt⟩
    rw [upd_ne (show b ≠ D from hD ▸ Nat.ne_of_lt lt)]
    exact (f2 b hb).1
  have st3 : tn 0 s3.heap := T.keep _ _ _ st2 fun b _ o e => Heap.get?_push_of_some _ e
  have I4 := block_start I3 ok hN f3
  have none3 : ∀ b ∈ fp, (upd H2 D (.dT [])) b = none := fun b hb => (f3 b hb).1.1
  generalize hH3 : upd H2 D (.dT []) = H3 at I3 I4 w0 none3 f3
  have G1 := hg s3 H3 s3.heap.objs.size (cellsFrom (s3.heap.objs.size + 1) scope.names (cloFrom X.env.cells scope.names [])) fp
  have G2 := ht s3 H3 s3.heap.objs.size (cellsFrom (s3.heap.objs.size + 1) scope.names (cloFrom X.env.cells scope.names [])) fp
  have G3 := hk s3 H3 s3.heap.objs.size (cellsFrom (s3.heap.objs.size + 1) scope.names (cloFrom X.env.cells scope.names [])) fp
  have G4 := he s3 H3 s3.heap.objs.size (cellsFrom (s3.heap.objs.size + 1) scope.names (cloFrom X.env.cells scope.names [])) fp
  show codeAny _ _ (.compStart _ 0 (.ref it) (.ref D) (compEnvC scope (cellsFrom (s3.heap.objs.size + 1) scope.names (cloFrom X.env.cells scope.names [])) s3.heap.objs.size X.env)) (compPost (model X.prog X.w) X.A X.xe none _ (.ref D) s3.heap.objs.size) { s3 with heap := pushCells (s3.heap.push { cls := .type "dict", data := .dict #[] }) scope.names }
  generalize hce : compEnvC scope (cellsFrom (s3.heap.objs.size + 1) scope.names (cloFrom X.env.cells scope.names [])) s3.heap.objs.size X.env = ce at I4 G1 G2 G3 G4 ⊢
  have locs : ce.locals = s3.heap.objs.size := by subst hce; rfl
  generalize hs4 : ({ s3 with heap := pushCells (s3.heap.push { cls := .type "dict", data := .dict #[] }) scope.names } : Shared) = s4 at I4 ⊢
  have st4 : tn 0 s4.heap := T.keep _ _ _ st3 fun b _ o e => by rw [← hs4]; exact pushCells_keeps _ _ _ _ (Heap.get?_push_of_some _ e)
  have stay : ∀ {σ' : St} {H' : Hp} {s' : Shared}, Inv (X.blk s3 H3 scope ce fp) [] σ' H' s' → (∀ b ∈ fp, H' b = none) → ∀ b ∈ fp, FpOk (X.blk s3 H3 scope ce fp) [] H' b := by
    intro σ' H' s' I' hn b hb
    exact ⟨hn b hb, (I'.ok.exf b hb).1, I'.ok.exfs b hb, .inl hb, (fun x c e => (I'.ok.exf b hb).2 x c e), (fun p hp => by simp at hp)⟩
  have loop : codeAny (model X.prog X.w) X.A (.compLoop (.DictComp kx vx [⟨tg, iter, ifs, 0⟩] scope pos) 0 (.ref it) (.ref D) ce) (compPost (model X.prog X.w) X.A X.xe none (EP X pins σ Q) (.ref D) s3.heap.objs.size) s4 := by
    refine compLoop_anyD (fun n s' => ∃ i H', Inv (X.blk s3 H3 scope ce fp) [] (wipe σ (own.map (·.2))) H' s' ∧ tn i s'.heap ∧ (∀ b ∈ fp, H' b = none) ∧ W i n H') ?_ m0 ⟨0, H3, I4, st4, none3, w0⟩
    rintro n s5 ⟨i, H5, I5, st5, n5, w5⟩
    rcases turn i n H5 w5 with ⟨stop, qq⟩ | ⟨go, Nx, next, step⟩
    · refine thnF (T.done (X.blk s3 H3 scope ce fp) rfl rfl rfl hc i [] s5 _ H5 (fun _ _ => False) I5 (stay I5 n5) st5 stop) ?_
      rintro r s6 ⟨rfl, I6⟩
      have I7 : Inv X pins σ H5 s6 := I3.call' (ch := fp) I6.os I6.base I6.hok I6.bare fun b hb => by
        obtain ⟨⟨_, z1, z2, z3, z4, z5⟩, _⟩ := f3 b hb
        exact ⟨z3, z1, z4, z5⟩
      have nC : H5 s3.heap.objs.size = none := by have z := I6.free; rw [show (X.blk s3 H3 scope ce fp).env.locals = s3.heap.objs.size from locs] at z; exact z
      obtain ⟨m, hn, _⟩ := I6.loc
      rw [show (X.blk s3 H3 scope ce fp).env.locals = s3.heap.objs.size from locs] at hn
      refine ⟨m, hn, fun h'' sb => ?_⟩
      obtain ⟨a0, a1, a2, a3, a4, a5⟩ := I3.fpOk (Nat.le_refl _) nC
      exact ⟨.ref D, H5, I7.turned (t' := s6.toks) (fun b o hb e => (sb.2 b hb).trans e) a0 a1 a3 a4 a5, rfl, qq⟩
    · refine thnF (T.item (X.blk s3 H3 scope ce fp) rfl rfl rfl hc i [] s5 _ H5 (fun _ _ => False) I5 (stay I5 n5) st5 go) ?_
      rintro r s6 ⟨u, rfl, h6⟩
      refine thnF h6 fun _ s7 ⟨x, H7, I7, r7, y7, st7, n7⟩ => ?_
      have P7 := I7.pinned (stay I7 n7) (T.obj _ _ st7)
      refine thnF (G1.run _ s7 _ H7 x u _ P7 r7 (step x H7 y7)) fun _ s8 ⟨σ8, H8, I8, hw8, q8⟩ => ?_
      refine thnF (G2.run _ s8 σ8 H8 _ I8 q8) fun b s9 ⟨H9, I9, q9⟩ => ?_
      have close : ∀ {s' : Shared} {H' : Hp}, Inv (X.blk s3 H3 scope ce fp) ([] ++ pinsAt fp s7.heap) σ8 H' s' → Nx H' →
          ∃ m, m < n ∧ ∃ i H', Inv (X.blk s3 H3 scope ce fp) [] (wipe σ (own.map (·.2))) H' s' ∧ tn i s'.heap ∧ (∀ b ∈ fp, H' b = none) ∧ W i m H' := by
        intro s' H' I' nx
        obtain ⟨m', less, w'⟩ := next H' nx
        have pinned : ∀ b ∈ fp, ∀ o, s7.heap.get? b = some o → s'.heap.get? b = some o ∧ H' b = none := fun b hb o e => by
          have z := I'.pin (b, o) (List.mem_append_right _ (List.mem_append_right _ (mem_pinsAt hb e)))
          exact ⟨z.1, z.2.1⟩
        refine ⟨m', less, i + 1, H', (I'.unpinned (pins := [])).weak (by rw [← hw8, wipe_length]) (fun j v e => by rw [← hw8] at e; exact (wipe_some e).1), T.keep _ _ _ st7 (fun b hb o e => (pinned b hb o e).1), (fun b hb => ?_), w'⟩
        obtain ⟨o, e, _⟩ := T.obj _ _ st7 b hb
        exact (pinned b hb o e).2
      cases b with
      | false => exact close I9 q9
      | true =>
        refine thnF (G3.run _ s9 σ8 H9 _ I9 q9) fun z s10 ⟨yk, H10, I10, r10, q10⟩ => ?_
        refine thnF (G4.run _ s10 σ8 H10 _ I10 q10) fun z2 s11 ⟨yv, H11, I11, r11, H12, put, nx⟩ => ?_
        exact put_comp (X := X.blk s3 H3 scope ce fp) room I11 put r10 r11 fun s12 I12 => close I12 nx
  exact codeAny_compStart_dict loop (T.self X.A 0 _ _ _ st4 loop)
end
end L2.Lc
end

-- part LcKx
section
set_option Elab.async false
set_option linter.all false
set_option maxRecDepth 100000
set_option maxHeartbeats 400000
/-! # the layer's rules, the written part told apart from the context -/
namespace L2.Lc
open PySem PySem.Spec PyProof.Rows L2
section
variable {X : Cx} {K : PySem.W.Frag} {ta tb tl : TE} {a b e o l value : Expr} {rest : List Expr} {f : Str} {pos p p2 tpos pos' : Pos} {tg : Expr} {kk k : Nat}
theorem kfld (hK : X.K = K) (he : PE X e ta) (hb : attributeBase e f X.env (eval e X.env) = eval e X.env) : PE X (.Attribute e f pos) (tFld K ta f) := by
  subst hK; exact pe_fld he hb
theorem ksfld (hK : X.K = K) (ha : PE X o ta) (hv : PE X value tb) (hs : swapsWith value (some (.Attribute o f pos')) pos.line X.env = pure false) : PS X (.Assign [.Attribute o f pos'] value pos) (sFld K ta tb f) := by
  subst hK; exact ps_fld ha hv hs
theorem ki_list (hK : X.K = K) (hl : PE X l tl) : PI X tg l (iList K tl) := by
  subst hK; exact pi_list hl
theorem ki_tup (hK : X.K = K) (hl : PE X l tl) : PI X tg l (iTup K tl) := by
  subst hK; exact pi_tup hl
theorem ki_zip (hK : X.K = K) {e2 : Expr} {t : TA} {elts : List Expr} (hg : Gl X "zip") (hm : X.mg "zip" = none) (ha : PA X [e, e2] t)
    (hs : starEach [e, e2] X.env = (false, eval e X.env) :: starEach [e2] X.env := by rfl) (hpl : (backTo pos (starEach [e2] X.env)).any (·.1) = false := by rfl) : PI X (.Tuple elts kk tpos) (.Call (.Name "zip" p) [e, e2] [] pos) (RZ.iZipA K t) := by
  subst hK; exact RZ.pi_zipA hg hm ha hs hpl
theorem ix_listK (hK : X.K = K) : IxR X (rIxL K) := by
  subst hK; exact ix_list
theorem ix_tupK (hK : X.K = K) : IxR X (rIxT K) := by
  subst hK; exact ix_tup
theorem sl_listK (hK : X.K = K) : SlR X (rSlL K) := by
  subst hK; exact sl_list
theorem sl_tupK (hK : X.K = K) : SlR X (rSlA K) := by
  subst hK; exact sl_tupA
theorem op_eqDK (hK : X.K = K) (hu : X.A.units + 64 < cLine) : OpR X (compareOp .Eq) (rEqD K) := by
  subst hK; exact op_eqD hu
theorem op_neDK (hK : X.K = K) (hu : X.A.units + 64 < cLine) : OpR X (compareOp .NotEq) (rNeD K) := by
  subst hK; exact op_neD hu
theorem op_inDK (hK : X.K = K) (hu : X.A.units + 65 < cLine) : OpR X (compareOp .In) (rInD K) := by
  subst hK; exact op_inD hu
theorem op_notInDK (hK : X.K = K) (hu : X.A.units + 65 < cLine) : OpR X (compareOp .NotIn) (rNotInD K) := by
  subst hK; exact op_notInD hu
theorem korT (hK : X.K = K) (ha : PE X a ta) (hb : PE X (.BoolOp .Or (b :: rest) pos) tb) : PE X (.BoolOp .Or (a :: b :: rest) pos) (tOrT K ta tb) := by
  subst hK; exact pe_orT ha hb
theorem krevL (hK : X.K = K) {p1 p3 : Pos} (he : PE X e ta) : PE X (.Subscript e (.Slice none none (some (.UnaryOp .USub (.Constant (.int 1) k p1) p2)) p3) pos) (tRevL K ta) := by
  subst hK; exact pe_revL he
theorem krevT (hK : X.K = K) {p1 p3 : Pos} (he : PE X e ta) : PE X (.Subscript e (.Slice none none (some (.UnaryOp .USub (.Constant (.int 1) k p1) p2)) p3) pos) (tRevT K ta) := by
  subst hK; exact pe_revT he
theorem kgtup (hK : X.K = K) {es : List Expr} {t : TGs} {n : Nat} (hc : X.calm = true) (h : PGs X es t) (hn : (assignEach es X.env).length = n := by rfl) (hst : (assignEach es X.env).findIdx? (·.1) = none := by rfl) : PG X (.Tuple es k pos) (gTup K n t) := by
  subst hK; exact pg_tup hc h hn hst
theorem kbm (hK : X.K = K) {T id : String} {name : Str} {apos cpos : Pos} {es : List Expr} {to : TE} {t : TA} {r : V → List V → Hp → VK → Prop} (pa : PlainAttrs T) (slot : Slot T name id) (hty : typeOf (.builtin id) = pure (.type "method_descriptor")) (hm : MtR X id r) (ho : PE X o to) (ha : PA X (e :: es) t)
    (hbase : attributeBase o name X.env (eval o X.env) = eval o X.env := by rfl)
    (hfew : ((backTo cpos (starEach (e :: es) X.env)).all (fun x => !x.1) && (backToKw cpos (keywordEach [] X.env)).all (fun x => x.1.isSome)
      && decide ((e :: es).length + ([] : List Keyword).length + (if ([] : List Keyword).isEmpty then 0 else 1) < 30)) = true := by rfl)
    (hline : (apos.endLine == cpos.line) = true := by rfl) (hs : starEach (e :: es) X.env = (false, eval e X.env) :: starEach es X.env := by rfl) (hplain : (backTo cpos (starEach es X.env)).any (·.1) = false := by rfl) :
    PE X (.Call (.Attribute o name apos) (e :: es) [] cpos) (tBM K T r to t) := by
  subst hK; exact pe_bm pa slot hty hm ho ha hbase hfew hline hs hplain
end
end L2.Lc
end

-- part LcHead
section
set_option Elab.async false
set_option linter.all false
set_option maxRecDepth 100000
set_option maxHeartbeats 400000
/-! # a law's text and head for Lc -/
namespace L2.Lc
open PySem PySem.Spec PyProof.Rows L2
open He
/-! ### a hook with further facts -/
abbrev AlX : Type := Bool × AlD
def obsX (fa : List Fa) (ex : PySem.W.Frag → Bool) (fn : List DefD) (K : PySem.W.Frag) : AlX := (ex K, obsD fa fn K)
def valX (fn : List DefD) : AlX := (true, valD fn)
def SaysL (fa : List Fa) (ex : PySem.W.Frag → Bool) (fn : List DefD) (K : PySem.W.Frag) : Prop := obsX fa ex fn K = valX fn
def obsXG (n : Nat) (fa : List Fa) (ex : PySem.W.Frag → Bool) (fn : List DefD) (g : Addr → Option Obj) : AlX := obsX fa ex fn (frG g (asD g n))
def hookL (n : Nat) (fa : List Fa) (ex : PySem.W.Frag → Bool) (fn : List DefD) : PySem.W.Hook where
  α := AlX
  obs := fun s => obsXG n fa ex fn s.heap.get?
  val := fun _ => valX fn
  says := fun _ h => ∃ K : PySem.W.Frag, K.In h ∧ SaysL fa ex fn K
  of := fun _ _ e => ⟨_, frG_in, e⟩
  keeps := fun _ _ _ ⟨K, hK, c⟩ k => ⟨K, PySem.W.Frag.In.keeps hK k, c⟩
theorem obsXG_eq {n : Nat} {fa : List Fa} {ex : PySem.W.Frag → Bool} {fn : List DefD} {g : Addr → Option Obj} {s : Shared} (h : ∀ a, g a = s.heap.get? a) : obsXG n fa ex fn g = (hookL n fa ex fn).obs s := by
  have e : g = s.heap.get? := funext h
  rw [e] <;> rfl
section
variable {fa : List Fa} {ex : PySem.W.Frag → Bool} {fn : List DefD} {K : PySem.W.Frag}
theorem SaysL.d (c : SaysL fa ex fn K) : SaysD fa fn K := congrArg (fun z : AlX => z.2) c
theorem SaysL.e (c : SaysL fa ex fn K) : ex K = true := congrArg (fun z : AlX => z.1) c
end
/-! ### defs -/
structure FG (K : PySem.W.Frag) (mg : Str → Option Value) (x : Str) (st : Stmt) : Prop where
  ex : ∃ f fd, FunD K x x (defArgs st) (defBody st) (defScope st) [] [] f fd ∧ mg x = some (.ref f)
/-- a method of the class at C -/
structure FM (K : PySem.W.Frag) (C : Addr) (m qual : Str) (st : Stmt) (dvs : List V) : Prop where
  ex : ∃ f fd, FunD K m qual (defArgs st) (defBody st) (defScope st) dvs [] f fd ∧ PySem.W.findIn K (.ref C) m = some (some (.ref f)) ∧ PySem.W.isFn K (.ref f) = true
def BindN (x qual : Str) (st : Stmt) (ps : List Str) : Prop := ∀ (kV doc pm : Value) (an : Option Addr) (cdv ct : Value) (us : List Value), us.length = ps.length → bindArgs (PySem.W.fnOf x qual (defArgs st) (defBody st) (defScope st) .none kV doc pm an cdv ct) ⟨us, []⟩ = pure (ps.zip us)
section
variable {P : Program} {w : World} {K : PySem.W.Frag} {mg : Str → Option Value} {base : Heap} {k : Nat} {x qual m : Str} {st : Stmt} {ps : List Str} {sp : Sp} {C : Addr}
theorem FG.cal (F : FG K mg x st) (hb : BindN x x st ps) (h : ∀ f fd, FunD K x x (defArgs st) (defBody st) (defScope st) [] [] f fd → FnOk P w K mg base CX0 k f fd ps sp) : Cal P w K mg base x k ps sp := by
  obtain ⟨f, fd, F, g⟩ := F.ex
  exact ⟨f, fd, h f fd F, g, F.kp, F.bindsN hb⟩
theorem FM.own (F : FM K C m qual st []) (hb : BindN m qual st ps) (hc : Cls K C) (hf : PySem.W.selfFirst K C = true) (h : ∀ f fd, FunD K m qual (defArgs st) (defBody st) (defScope st) [] [] f fd → FnOk P w K mg base CX0 k f fd ps sp) : OwnM P w K mg base C m k ps sp := by
  obtain ⟨f, fd, F, g, i⟩ := F.ex
  exact ⟨⟨f, fd, h f fd F, g, i, F.kp, F.bindsN hb⟩, hc, hf⟩
/-- a class whose __init__ keeps the promise; dvs: the defaults that fill up -/
structure MkC (P : Program) (w : World) (K : PySem.W.Frag) (mg : Str → Option Value) (base : Heap) (x : Str) (C : Addr) (k : Nat) (ps : List Str) (dvs : List V) (sp : Sp) : Prop where
  ex : ∃ f fd ds, Mk K C f ∧ FnOk P w K mg base CX0 k f fd ps sp ∧ Vals dvs ds ∧ Binds K fd ps ds
  g : mg x = some (.ref C)
end
section
variable {X : Cx} {x : Str} {k : Nat} {ps : List Str} {sp : Sp} {e : Expr} {es : List Expr} {t : TA} {p pos : Pos} {C : Addr} {dvs : List V}
theorem pe_mkC (c : MkC X.prog X.w X.K X.mg X.base x C k ps dvs sp) (hr : Room (k + 1) X.A) (hg : Gl X x) (ha : PA X (e :: es) t) (hdb : (x == ("__debug__" : Str)) = false := by decide) (he : starEach (e :: es) X.env = (false, eval e X.env) :: starEach es X.env := by rfl)
    (hpl : (backTo pos (starEach es X.env)).any (·.1) = false := by rfl) : PE X (.Call (.Name x p) (e :: es) [] pos) (tMake C sp dvs E0 t) := by
  obtain ⟨f, fd, ds, M, F, hd, b⟩ := c.ex
  exact pe_make M F hr hg c.g b hd pass0 ha hdb he hpl
end
/-! ### an __init__ -/
section
variable {P : Program} {w : World} {K : PySem.W.Frag} {mg : Str → Option Value} {base : Heap} {k : Nat} {x qual : Str} {params : Arguments} {body : List Stmt} {scope : Scope} {dvs : List V} {kws : List (Str × V)} {f : Addr} {fd : FuncData} {N ps : List Str} {C : Addr}
theorem fnI {α : Type} {A : α → List Ent} {pre : α → Prop} {fs : α → List (Str × Ent)} (F : FunD K x qual params body scope dvs kws f fd) (S : FnScope N ps scope) (hA : ∀ x, (A x).length + 1 = ps.length)
    (hd : ∀ (cdv : Value) (B : Around) (outer : List Env) (s : Shared) (H : Hp) (E : XK), Room k (B.deeper (envOfC qual scope s.heap.objs.size f cdv)) → ∃ t, PSs (cxOf CX0 P w K mg base N qual scope f cdv B outer s H E).nox body t ∧
      ∀ (a dx : Addr) x, pre x → StW (mI a C dx) t ((.mk (rAt a) () :: A x).map some ++ List.replicate (N.length - ps.length) none) [] rNon { nx := fun _ st => FsOk (fun _ => none) st (fs x), rt := fun _ _ => False }) : FnOk P w K mg base CX0 (k + 1) f fd ps (spI C A pre fs) := by
  refine F.ok S (fun vs H Q E ⟨M, x, a, dx, ws, e, _, _, _, ao, _⟩ => by subst e; rw [List.length_cons, ao.len]; exact hA x) fun cdv A' outer s H vs Q E hr ⟨M, x, a, dx, ws, e, ha, g, ma, ao, hp, q⟩ => ?_
  subst e
  obtain ⟨t, d, h⟩ := hd cdv A' outer s H E hr
  refine ⟨t, d.nox, ?_⟩
  have hl : (V.ref a :: ws).length = ps.length := by rw [List.length_cons, ao.len]; exact hA x
  unfold start
  rw [hl]
  have st := start_ok (G := hid M H) (vs := V.ref a :: ws) (es := .mk (rAt a) () :: A x) ⟨rfl, ao⟩ (N.length - ps.length)
  refine h a dx x hp M _ H ⟨g, fun b hb => by rw [show b = a from hb]; exact ma, ha, fun _ _ _ _ _ z => z.elim⟩ st _ ⟨fun Γ n σ H' p e iv en => ?_, fun _ _ _ _ z => z.elim, fun _ _ _ _ z => z.elim, fun _ _ _ _ z => z.elim⟩
  exact q H' n (fun b o nb hb => e b o nb hb) iv (p.mono fun _ _ z => by cases z)
/-- a class's maker, all parameters given -/
theorem mkC_of {m : Str} {st : Stmt} {sp : Sp} {dvs : List V} (F : FM K C m qual st dvs) (hm : m = "__init__") (hmk : PySem.W.makesIn K C = true) (kp : PySem.W.keepIn K (.ref C) = true) (g : mg x = some (.ref C)) (ws : List V)
    (hb : ∀ f fd, FunD K m qual (defArgs st) (defBody st) (defScope st) dvs [] f fd → ∃ ds, Vals ws ds ∧ Binds K fd ps ds) (h : ∀ f fd, FunD K m qual (defArgs st) (defBody st) (defScope st) dvs [] f fd → FnOk P w K mg base CX0 k f fd ps sp) : MkC P w K mg base x C k ps ws sp := by
  obtain ⟨f, fd, F, hf, hi⟩ := F.ex
  subst hm
  obtain ⟨ds, hd, b⟩ := hb f fd F
  exact ⟨⟨f, fd, ds, ⟨hmk, hf, hi, kp⟩, h f fd F, hd, b⟩, g⟩
end
section
variable {Z : Type} {m : Md Z} {Γ : Gm} {n : Z} {α β γ : Type} {R : Rl α} {S : Rl β} {ta : TE}
/-- the same value as a datum of another kind -/
theorem w_as {Post : β → Z → Prop} (g : α → β) (hg : ∀ H v x, R.r H v x → S.r H v (g x)) (h : EvW m ta Γ n R fun x n1 => Post (g x) n1) : EvW m ta Γ n S Post := fun M σ H c e Q k =>
  h M σ H c e _ fun v x n1 H1 p1 e1 i1 r1 => k v (g x) n1 H1 p1 e1 i1 (hg _ _ _ r1)
end
end L2.Lc
end

-- part LcLam
section
set_option Elab.async false
set_option linter.all false
set_option maxRecDepth 100000
set_option maxHeartbeats 2000000
/-! # LcLam: a lambda, with defaults or without, handed to a def that calls it -/
namespace L2.Lc
open PySem PySem.Spec PyProof.Rows L2
open LamX (Tabs TabS TabB CodeO lamEnv lamCx)
/-- all but the tables told stay -/
def ExtT (T : List (Addr × Str)) (H H' : Hp) : Prop := ∀ b o, (∀ p ∈ T, p.1 ≠ b) → H b = some o → H' b = some o
theorem ExtT.refl {T : List (Addr × Str)} (H : Hp) : ExtT T H H := fun _ _ _ h => h
theorem Tabs.ne {T : List (Addr × Str)} {H : Hp} (t : Tabs T H) {b : Addr} {o : HO} (e : H b = some o) (n : ∀ ps, o ≠ .tbl ps) : ∀ p ∈ T, p.1 ≠ b := fun p hp z => by
  obtain ⟨ps, h1, _⟩ := t p hp
  rw [z, e] at h1
  exact n ps (Option.some.inj h1)
/-- the lambda's object at f, its defaults' tuple beside it -/
structure LamO (X : Cx) (H : Hp) (s : Shared) (params : Arguments) (body : Expr) (scope : Scope) (D : List Value → Prop) (f c' : Addr) : Prop where
  obj : ∃ (dvs : List Value) (dV doc pm ctv : Value), D dvs ∧ s.heap.get? f = some (PySem.W.kdv_obj "<lambda>" (X.env.qual ++ "<lambda>") params (.expr body) scope (cloFrom X.env.cells scope.names []) dV doc pm c' ctv) ∧
    (dvs = [] ∧ dV = .none ∨ ∃ t, dvs ≠ [] ∧ dV = .ref t ∧ s.heap.get? t = some (PySem.W.kdv_tup dvs) ∧ H t = none ∧ t ∉ frs X.stack)
  free : H f = none
  nofr : f ∉ frs X.stack
  code : H c' = some (CodeO c' (X.env.qual ++ "<lambda>"))
section
variable {X : Cx} {pins : List (Addr × Obj)} {σ : L2.St} {H : Hp} {s : Shared}
theorem pushedI {o : Obj} {t' : Nat} (I : Inv X pins σ H s) : Inv X pins σ H { s with heap := s.heap.push o, toks := t' } := I.kept fun b u e => Heap.get?_push_of_some _ e
theorem outFr (I : Inv X pins σ H s) {f : Addr} (hf : s.heap.objs.size ≤ f) : f ∉ frs X.stack := fun z => by
  rcases List.mem_cons.mp (I.stkSub _ z) with e | e
  · have h1 := I.lt
    rw [← e] at h1
    exact absurd (Nat.lt_of_lt_of_le h1 hf) (Nat.lt_irrefl _)
  · exact I.nofs hf e
/-- what is asked behind the lambda's making -/
def LamQ (X : Cx) (pins : List (Addr × Obj)) (σ : L2.St) (H : Hp) (T : List (Addr × Str)) (params : Arguments) (body : Expr) (scope : Scope) (D : List Value → Prop) (Q : Value → Shared → Prop) : Prop :=
  ∀ (f c' : Addr) (H1 : Hp) (s' : Shared), Inv X pins σ H1 s' → ExtT T H H1 → Tabs T H1 → LamO X H1 s' params body scope D f c' → Q (.ref f) s'
theorem lam_tail {T : List (Addr × Str)} {c P : Addr} {params : Arguments} {body : Expr} {scope : Scope} {pos : Pos} {dV : Value} {dvs : List Value} {D : List Value → Prop} {E : Value → Shared → Prop} {Q : Value → Shared → Prop}
    (I : Inv X pins σ H s) (TB : TabB X.base X.mg c P) (hcode : X.env.code = .ref c) (hm : (P, X.env.qual ++ "<lambda>") ∈ T) (hu : ∀ p ∈ T, p.1 = P → p.2 = X.env.qual ++ "<lambda>") (hT : Tabs T H)
    (hfree : ∀ y ∈ scope.names, y.2 = .free → ∃ c, X.env.cells.lookup y.1 = some c)
    (hD : D dvs) (hd : dvs = [] ∧ dV = .none ∨ ∃ t, dvs ≠ [] ∧ dV = .ref t ∧ s.heap.get? t = some (PySem.W.kdv_tup dvs) ∧ (∀ H1, ExtT T H H1 → (∀ b, s.heap.get? b ≠ none → H b = none → H1 b = none) → H1 t = none) ∧ t ∉ frs X.stack)
    (h : LamQ X pins σ H T params body scope D Q) :
    wpAny (model X.prog X.w) X.A (makeTail "<lambda>" (X.env.qual ++ "<lambda>") params (.expr body) scope X.env dV .none none pos pos.line) Q E s := by
  obtain ⟨ps, hP, ht, ha⟩ := hT _ hm
  have bP : s.heap.BuiltinsAt X.mg P := TB.bm.keeps I.bk
  have hP' : s.heap.get? P = some { cls := .none, data := .fields ps } := I.hok P _ hP
  cases hc : codeAmong pos ps.toList with
  | none =>
    refine PySem.W.kdv_makeTail (mg := X.mg) (c := c) (P := P) (ps := ps) (closure_ok hfree) I.ok.glob (I.mod.glob.keeps I.bk) hcode (TB.code.keeps I.bk) hP' ht hc TB.gP bP fun c' ctv doc h' tk hx hge hlt hrec htb => ?_
    obtain ⟨c2, oc, vs, t, e2, hoc, hdd, hv⟩ := hrec
    cases e2
    have hsz : s.heap.objs.size ≤ h'.objs.size := Nat.le_trans hge (Nat.le_of_lt hlt)
    have nC : H c' = none := I.hok.fresh hge
    have I1 := LamX.inv_table (t' := tk) (more := #[rawInt pos.line, rawInt pos.col, .ref c'])
      (h' := h'.push (PySem.W.kdv_obj "<lambda>" (X.env.qual ++ "<lambda>") params (.expr body) scope (cloFrom X.env.cells scope.names []) dV doc ((X.mg "__name__").getD .none) c' ctv)) I hP
      (fun b o hb e => Heap.get?_push_of_some _ (hx b o hb e)) (Heap.get?_push_of_some _ htb) hge ⟨oc, vs, t, Heap.get?_push_of_some _ hoc, hdd, hv⟩
    have hE : ExtT T H (upd (upd H P (.tbl (ps ++ #[rawInt pos.line, rawInt pos.col, .ref c']))) c' (CodeO c' (X.env.qual ++ "<lambda>"))) := fun b o n e => by
      have h1 : b ≠ c' := ne_of_none e nC
      have h2 : b ≠ P := fun z => n _ hm z.symm
      rw [upd_ne h1, upd_ne h2, e]
    have eL : (ps ++ #[rawInt pos.line, rawInt pos.col, .ref c']).toList = ps.toList ++ [rawInt pos.line, rawInt pos.col, .ref c'] := by simp
    refine h h'.objs.size c' _ _ I1 hE (fun p hp => ?_) ⟨⟨dvs, dV, doc, _, ctv, hD, Heap.get?_push_size _ rfl, ?_⟩, ?_, outFr I hsz, upd_same⟩
    · by_cases hb : p.1 = P
      · rw [hu p hp hb, hb]
        refine ⟨_, by rw [upd_ne (ne_of_none hP nC), upd_same], by rw [eL]; exact PySem.TriplesOk_snoc _ _ _ _ ht, fun p' cv hcv => ?_⟩
        rw [eL] at hcv
        rcases LamX.among_app _ ht hcv with z | z
        · obtain ⟨c0, e1, e2⟩ := ha p' cv z
          exact ⟨c0, e1, hE _ _ (Tabs.ne hT e2 LamX.codeO_ne) e2⟩
        · exact ⟨c', z, upd_same⟩
      · obtain ⟨ps', a1, a2, a3⟩ := hT p hp
        refine ⟨ps', by rw [upd_ne (ne_of_none a1 nC), upd_ne hb]; exact a1, a2, fun p' cv hcv => ?_⟩
        obtain ⟨c0, e1, e2⟩ := a3 p' cv hcv
        exact ⟨c0, e1, hE _ _ (Tabs.ne hT e2 LamX.codeO_ne) e2⟩
    · rcases hd with z | ⟨t, e0, e1, e2, e3, e4⟩
      · exact .inl z
      · refine .inr ⟨t, e0, e1, Heap.get?_push_of_some _ (hx t _ (fun z => by
          rw [z, hP'] at e2
          cases e2) e2), e3 _ hE (fun b nb n => ?_), e4⟩
        have h1 : b ≠ c' := fun z => nb (by rw [z]; exact Heap.get?_none_of_le hge)
        have h2 : b ≠ P := fun z => by
          rw [z, hP] at n
          cases n
        rw [upd_ne h1, upd_ne h2, n]
    · have n1 : h'.objs.size ≠ c' := Nat.ne_of_gt hlt
      have n2 : h'.objs.size ≠ P := Nat.ne_of_gt (Nat.lt_of_lt_of_le (Heap.lt_size hP') hsz)
      rw [upd_ne n1, upd_ne n2, I.hok.fresh hsz]
  | some cv =>
    obtain ⟨c', e, hco⟩ := ha pos cv hc
    subst e
    refine PySem.W.kdv_makeTailHit (mg := X.mg) (c := c) (P := P) (ps := ps) (closure_ok hfree) I.ok.glob (I.mod.glob.keeps I.bk) hcode (TB.code.keeps I.bk) hP' ht hc bP fun ctv doc h' tk hx hsz => ?_
    have I1 : Inv X pins σ H { s with heap := h'.push (PySem.W.kdv_obj "<lambda>" (X.env.qual ++ "<lambda>") params (.expr body) scope (cloFrom X.env.cells scope.names []) dV doc ((X.mg "__name__").getD .none) c' ctv), toks := tk } :=
      I.kept fun b o e => Heap.get?_push_of_some _ (hx b o e)
    refine h h'.objs.size c' H _ I1 (ExtT.refl H) hT ⟨⟨dvs, dV, doc, _, ctv, hD, Heap.get?_push_size _ rfl, ?_⟩, I.hok.fresh hsz, outFr I hsz, hco⟩
    rcases hd with z | ⟨t, e0, e1, e2, e3, e4⟩
    · exact .inl z
    · exact .inr ⟨t, e0, e1, Heap.get?_push_of_some _ (hx t _ e2), e3 H (ExtT.refl H) fun _ _ n => n, e4⟩
/-- defaults that are constants -/
def DefOk (X : Cx) (params : Arguments) (D : List Value → Prop) : Prop :=
  ∀ (M : Model) (A : Around) (E : Value → Shared → Prop) (Q : List Value → Shared → Prop) (s : Shared), (∀ dvs tk, D dvs → Q dvs { s with toks := tk }) → wpAny M A (evalAll (evalEach params.defaults X.env)) Q E s
theorem lam_make {T : List (Addr × Str)} {c P : Addr} {params : Arguments} {body : Expr} {scope : Scope} {pos : Pos} {D : List Value → Prop} {E : Value → Shared → Prop} {Q : Value → Shared → Prop}
    (I : Inv X pins σ H s) (TB : TabB X.base X.mg c P) (hcode : X.env.code = .ref c) (hm : (P, X.env.qual ++ "<lambda>") ∈ T) (hu : ∀ p ∈ T, p.1 = P → p.2 = X.env.qual ++ "<lambda>") (hT : Tabs T H)
    (hk0 : params.kw_defaults = []) (hdef : DefOk X params D) (hfree : ∀ y ∈ scope.names, y.2 = .free → ∃ c, X.env.cells.lookup y.1 = some c)
    (h : LamQ X pins σ H T params body scope D Q) :
    wpAny (model X.prog X.w) X.A (eval (.Lambda params body scope pos) X.env) Q E s := by
  rw [arm_eval_Lambda, defaultsOf_eq, hk0]
  refine wpAny_bind (hdef _ _ _ _ s fun dvs tk hD => ?_)
  show wpAny _ _ (holding dvs (evalAllOpt []) >>= _) _ _ _
  refine wpAny_bind (wpAny_holding (wpAny_pure ?_))
  rw [makeFunction_eq]
  simp only [List.zip_nil_right, List.filterMap_nil, List.isEmpty_nil, if_true, pure_bind]
  have I0 : Inv X pins σ H { s with toks := tk } := I.tok _
  cases dvs with
  | nil =>
    simp only [List.isEmpty_nil, if_true, pure_bind]
    exact lam_tail I0 TB hcode hm hu hT hfree hD (.inl ⟨rfl, rfl⟩) h
  | cons d ds =>
    simp only [List.isEmpty_cons, Bool.false_eq_true, if_false]
    refine wpAny_bind (wpAny_newTextTuple ?_)
    have I1 : Inv X pins σ H { s with heap := s.heap.push (PySem.W.kdv_tup (d :: ds)), toks := tk } := pushedI I
    have nT : H s.heap.objs.size = none := I.hok.fresh (Nat.le_refl _)
    refine lam_tail (s := { s with heap := s.heap.push (PySem.W.kdv_tup (d :: ds)), toks := tk }) I1 TB hcode hm hu hT hfree hD (.inr ⟨s.heap.objs.size, (fun z => nomatch z), rfl, Heap.get?_push_size _ rfl, fun H1 e k => k _ (by rw [Heap.get?_push_size _ rfl]; simp) nT, outFr I (Nat.le_refl _)⟩) h
end
/-! ### the lambda's names: its own parameters are no names of the maker -/
structure LamN (N : List Str) (sc scope : Scope) (ps : List Str) : Prop where
  kind : scope.kind = .function
  co : scope.isCoroutine = false
  gen : scope.isGenerator = false
  nocell : ∀ y ∈ scope.names, y.2 ≠ .cell
  own : ∀ y ∈ scope.names, y.2 = .local → y.1 ∉ N
  free : ∀ y ∈ scope.names, y.2 = .free → sc.names.lookup y.1 = some .cell ∨ sc.names.lookup y.1 = some .free
  par : ∀ x ∈ ps, scope.names.lookup x = some .local
def lamNB (N : List Str) (sc scope : Scope) (ps : List Str) : Bool :=
  decide (scope.kind = .function) && (!scope.isCoroutine && (!scope.isGenerator && ((scope.names.all fun y => !decide (y.2 = .cell) && (!decide (y.2 = .local) || !N.contains y.1) &&
    (!decide (y.2 = .free) || decide (sc.names.lookup y.1 = some .cell) || decide (sc.names.lookup y.1 = some .free))) && ps.all fun x => decide (scope.names.lookup x = some .local))))
theorem lamN_by {N : List Str} {sc scope : Scope} {ps : List Str} (h : lamNB N sc scope ps = true) : LamN N sc scope ps := by
  unfold lamNB at h
  simp only [Bool.and_eq_true, Bool.or_eq_true, Bool.not_eq_true', decide_eq_true_eq, decide_eq_false_iff_not, List.all_eq_true] at h
  obtain ⟨h1, h2, h3, h4, h5⟩ := h
  refine ⟨h1, h2, h3, fun y hy => (h4 y hy).1.1, fun y hy e => ?_, fun y hy e => ?_, h5⟩
  · rcases (h4 y hy).1.2 with z | z
    · exact absurd e z
    · intro hm
      rw [List.contains_iff_mem.mpr hm] at z
      cases z
  · rcases (h4 y hy).2 with (z | z) | z
    · exact absurd e z
    · exact .inl z
    · exact .inr z
section
variable {X : Cx} {pins : List (Addr × Obj)} {σ : L2.St} {H HZ : Hp} {s s1 : Shared}
theorem LamN.has {scope : Scope} {ps : List Str} (L : LamN X.N X.env.scope scope ps) (ok : X.Ok) : ∀ y ∈ scope.names, y.2 = .free → ∃ c, X.env.cells.lookup y.1 = some c := fun y hy e => by
  rcases L.free y hy e with k | k
  · exact ok.has _ (.inl k)
  · exact ok.has _ (.inr k)
theorem lam_enter {A : Around} {outer : List Env} {E : XK} {scope : Scope} {ps : List Str} {f c' : Addr} {h₁ : Heap} {tk : Nat} {binds : List (Str × Value)} (I : Inv X pins σ H s) (L : LamN X.N X.env.scope scope ps) (e0 : Env0 X.prog X.w X.K X.mg X.base A outer s1 HZ) (hd : A.handled = none)
    (un : Un (frs X.stack) [] H HZ s.heap s1.heap) (hns : h₁.Ns s1.heap.objs.size fun y => binds.reverse.lookup y) (kp : ∀ b o, s1.heap.get? b = some o → h₁.get? b = some o) :
    Inv (lamCx X A outer s1 HZ E scope f c') [] σ HZ { s1 with heap := h₁, toks := tk } := by
  have hfree := L.has I.ok
  have cm : ∀ {y c}, (cloFrom X.env.cells scope.names []).lookup y = some c → X.env.cells.lookup y = some c := fun {y c} e => by
    rcases cloFrom_mem (PySem.mem_of_lookup e) with hm | ⟨h1, h2⟩
    · cases hm
    obtain ⟨c1, hc⟩ := hfree _ h1 rfl
    have e2 : c = c1 := by
      have hc' : X.env.cells.lookup y = some c1 := hc
      rw [h2, hc'] <;> rfl
    rw [e2]
    exact hc
  have look : ∀ {y}, scope.names.lookup y = some .free → ∃ c, (cloFrom X.env.cells scope.names []).lookup y = some c := fun {y} hl =>
    mem_lookup (cloFrom_has (cells := X.env.cells) (acc := []) (show (y, NameKind.free) ∈ scope.names from PySem.mem_of_lookup hl))
  have cellK : ∀ {c : Addr} {v : Option Value}, H c = none → s.heap.IsCell c v → h₁.IsCell c v := fun {c v} n ⟨o, ho, hd⟩ => by
    obtain ⟨sl, q⟩ := un.any ho n (by simp)
    exact ⟨_, kp _ _ q, hd⟩
  have noA : ∀ b : Addr, b ∉ (lamCx X A outer s1 HZ E scope f c').ex := fun b => List.not_mem_nil
  have okL : (lamCx X A outer s1 HZ E scope f c').Ok := by
    refine ⟨e0.mod, L.kind, rfl, rfl, Nat.le_refl _, fun y z c e1 e2 => I.ok.inj y z c (cm e1) (cm e2), fun y hy => ?_, fun y c z _ => ?_, fun _ => hd, Around.frames_deeper e0.frames, .inr ⟨rfl, rfl⟩,
      fun b z => absurd z (noA b), e0.bs, e0.bsz, fun b _ _ => noA b, fun b z => absurd z (noA b), e0.funs, e0.frf⟩
    · have hy : scope.names.lookup y = some .cell ∨ scope.names.lookup y = some .free := hy
      rcases hy with hy | hy
      · exact absurd rfl (L.nocell _ (PySem.mem_of_lookup hy))
      · exact look hy
    · cases (show false = true from z)
  refine ⟨okL, rfl, e0.bare, Un.kept kp, ⟨_, hns, fun i y v e1 e2 e3 => ?_⟩, fun y c e => ?_, e0.hok.fresh (Nat.le_refl _), fun y c e => ?_, fun q hq => absurd hq List.not_mem_nil, e0.hok.kept kp, I.len⟩
  · have e3 : Vis scope y := e3
    have yN : y ∈ X.N := List.mem_of_getElem? (show X.N[i]? = some y from e1)
    rcases e3 with k | k | k
    · exact absurd yN (L.own _ (PySem.mem_of_lookup k) rfl)
    · exact absurd rfl (L.nocell _ (PySem.mem_of_lookup k))
    · obtain ⟨m, hn, hl⟩ := I.loc
      have hvis : Vis X.env.scope y := (L.free _ (PySem.mem_of_lookup k) rfl).elim (fun k => .inr (.inl k)) (fun k => .inr (.inr k))
      obtain ⟨w', r, q⟩ := hl i y v e1 e2 hvis
      obtain ⟨c2, h2⟩ := look k
      have c1 := cm h2
      refine ⟨w', r, .inr ⟨.inr k, c2, h2, ?_⟩⟩
      rcases q with ⟨k', _⟩ | ⟨_, c3, e', z⟩
      · have k' : X.env.scope.names.lookup y = some .local := k'
        rcases L.free _ (PySem.mem_of_lookup k) rfl with k2 | k2 <;> rw [show X.env.scope.names.lookup y = _ from k2] at k' <;> cases k'
      · rw [c1] at e'
        cases e'
        exact cellK (I.freeC y _ c1) z
  · obtain ⟨w', z⟩ := I.cell y c (cm e)
    exact ⟨w', cellK (I.freeC y c (cm e)) z⟩
  · obtain ⟨v, o, ho, hdd⟩ := I.cell y c (cm e)
    exact un.free c o ho (I.freeC y c (cm e)) List.not_mem_nil
/-- how the lambda's parameters are bound when it is called without arguments -/
def LamB (params : Arguments) (body : Expr) (scope : Scope) (D : List Value → Prop) (ps : List Str) : Prop :=
  ∀ (s : Shared) (q : Str) (cl : List (Str × Addr)) (dvs : List Value) (dV doc pm cv ctv : Value), D dvs → (dvs = [] ∧ dV = .none ∨ ∃ t, dvs ≠ [] ∧ dV = .ref t ∧ s.heap.get? t = some (PySem.W.kdv_tup dvs)) →
    ∃ binds : List (Str × Value), BindsTo s (PySem.W.kdv_fn "<lambda>" q params (.expr body) scope cl dV doc pm cv ctv) ⟨[], []⟩ binds ∧ ∀ y ∈ binds, y.1 ∈ ps
/-- x(), in the def that got the lambda: Z is that def's context, entered at s -/
theorem lam_act {CXg : CXT} {Eg : XK} {Ng : List Str} {qg : Str} {sg : Scope} {g f c' : Addr} {cdg : Value} {params : Arguments} {body : Expr} {scope : Scope} {D : List Value → Prop} {ps : List Str} {k i : Nat} {a : Str} {pn : List (Addr × Obj)} {xe : Value → Shared → Prop}
    {W : WX} {tb : XK → TE} {p1 p2 : Pos}
    (I : Inv X pins σ H s) (L : LamN X.N X.env.scope scope ps) (O : LamO X H s params body scope D f c') (hB : LamB params body scope D ps)
    (tk : Takes ((cxOf CXg X.prog X.w X.K X.mg X.base Ng qg sg g cdg X.A X.stack s H Eg).tr pn xe) W) (hr : Room (k + 1) (X.A.deeper (envOfC qg sg s.heap.objs.size g cdg)))
    (hbody : ∀ (A : Around) (outer : List Env) (s : Shared) (H : Hp) (E : XK), Room k (A.deeper (lamEnv X scope s.heap.objs.size f c')) → PE (lamCx X A outer s H E scope f c') body (tb E))
    (hN : Ng[i]? = some a) (hv : Vis sg a) (hd : (a == ("__debug__" : Str)) = false := by decide) (hcd : (a == ("__classdict__" : Str)) = false := by decide) :
    PE ((cxOf CXg X.prog X.w X.K X.mg X.base Ng qg sg g cdg X.A X.stack s H Eg).tr pn xe) (.Call (.Name a p1) [] [] p2)
      (fun σZ HZ Q => σZ[i]? = some (some (.ref f)) ∧ HZ c' = some (CodeO c' (X.env.qual ++ "<lambda>")) ∧ tb (WE W σZ) σ HZ Q) := by
  refine ⟨fun pinsZ sZ σZ HZ Q IZ h => ?_⟩
  obtain ⟨hs, hc, ht⟩ := h
  refine wpAny_Call_Name_kw (thn ((pe_var (pos := p1) (i := i) hN hv hd hcd).run pinsZ sZ σZ HZ (fun v H1 => v = .ref f ∧ H1 = HZ) IZ ⟨.ref f, hs, rfl, rfl⟩) fun u s1 ⟨v, H1, I1, r1, q1⟩ => ?_)
  obtain ⟨rfl, rfl⟩ := q1
  obtain rfl : u = Value.ref f := r1
  have noex : ∀ t : Addr, t ∉ ([] : List Addr) := fun t => List.not_mem_nil
  obtain ⟨⟨dvs, dV, doc, pm, ctv, hD, hf, hdv⟩, hfn, hfr, _⟩ := O
  have of1 := I1.base.keep f _ hf hfn hfr (noex f)
  have dv1 : dvs = [] ∧ dV = .none ∨ ∃ t, dvs ≠ [] ∧ dV = .ref t ∧ s1.heap.get? t = some (PySem.W.kdv_tup dvs) := by
    rcases hdv with z | ⟨t, e0, e1, e2, e3, e4⟩
    · exact .inl z
    · exact .inr ⟨t, e0, e1, I1.base.keep t _ e2 e3 e4 (noex t)⟩
  obtain ⟨binds, hbi, hbp⟩ := hB s1 (X.env.qual ++ "<lambda>") (cloFrom X.env.cells scope.names []) dvs dV doc pm (.ref c') ctv hD dv1
  refine PySem.W.callWith_F0 ⟨_, _, _, _, of1⟩ ?_
  have un : Un (frs X.stack) [] H H1 s.heap s1.heap := I1.base
  obtain ⟨⟨oc, vs, t, hoc, hdc, hvc⟩, _, _⟩ := I1.hok c' _ hc
  have rc : codeAny (model X.prog X.w) (X.A.deeper (envOfC qg sg s.heap.objs.size g cdg)) (.call (.ref f) ⟨[], []⟩) (CR (L2.CX X.prog X.w) (envOfC qg sg s.heap.objs.size g cdg :: X.stack) X.prog X.w H1 s1 Q (WE W σZ)) s1 := by
    refine PySem.W.kla_callFunE hr.depth of1 rfl L.co L.gen rfl ⟨c', oc, vs, t, rfl, hoc, hdc, hvc⟩ (hbi _ _ _ _ ?_)
    refine wpAny_newFunctionEnv L.nocell (fun y hy => L.par _ (hbp y hy)) (fun h₁ hns hsb => ⟨I1.nolimit.fresh _ hsb, ?_⟩) L.kind
    show codeAny _ _ (.expr body (lamEnv X scope s1.heap.objs.size f c')) _ _
    have kp : ∀ b o, s1.heap.get? b = some o → h₁.get? b = some o := fun b o e => hsb.extBut b o (Nat.ne_of_lt (Heap.lt_size e)) (Heap.get?_push_of_some _ e)
    have J := lam_enter (E := WE W σZ) (f := f) (c' := c') (tk := s1.toks + binds.length) I L I1.env0 hr.hd un hns kp
    refine PySem.W.kla_codeExpr (wpAny_mono ((hbody _ _ s1 H1 (WE W σZ) (hr.deeper _)).run [] _ _ H1 Q J ht) (fun v s' hq => ?_) fun e s' hq => hq)
    obtain ⟨w', H', J', rv, q⟩ := hq
    exact ⟨w', H', J'.os, J'.bare, J'.base, J'.hok, rv, q⟩
  refine wpAny_call (codeAny_mono rc fun r s' hq => ?_)
  match r, hq with
  | .error e, hq => exact passAt tk σZ pinsZ H1 s1 e s' I1 hq
  | .ok (.ret u), hq => exact I1.after hq
  | .ok .next, hq => exact False.elim hq
  | .ok .brk, hq => exact False.elim hq
  | .ok .cont, hq => exact False.elim hq
/-- the def that calls what it got; TT: what it makes of the lambda's reading -/
def GivesW (X : Cx) (Ng : List Str) (x : Str) (sg : Scope) (g : Addr) (cdg : Value) (bg : List Stmt) (a : Str) (q : Str) (TT : (XK → Hp → VK → Prop) → Hp → VK → Prop) (j : Nat) : Prop :=
  ∀ (f c' : Addr) (s : Shared) (H : Hp) (Q : VK) (tl : XK → Hp → VK → Prop), Room j (X.A.deeper (envOfC x sg s.heap.objs.size g cdg)) →
    (∀ (W : WX) (pn : List (Addr × Obj)) (xe : Value → Shared → Prop) (p1 p2 : Pos), Takes ((cxOf C8.CX0 X.prog X.w X.K X.mg X.base Ng x sg g cdg X.A X.stack s H C8.E0).tr pn xe) W →
      PE ((cxOf C8.CX0 X.prog X.w X.K X.mg X.base Ng x sg g cdg X.A X.stack s H C8.E0).tr pn xe) (.Call (.Name a p1) [] [] p2) (fun σZ HZ Q => σZ[0]? = some (some (.ref f)) ∧ HZ c' = some (CodeO c' q) ∧ tl (WE W σZ) HZ Q)) →
    H c' = some (CodeO c' q) → TT tl H Q →
    ∃ t, PSs (cxOf C8.CX0 X.prog X.w X.K X.mg X.base Ng x sg g cdg X.A X.stack s H C8.E0).nox bg t ∧ t { nx := fun _ H' => Q .non H', rt := Q } (L2.start Ng [.ref f]) H
def tLamT (T : List (Addr × Str)) (TT : (XK → Hp → VK → Prop) → Hp → VK → Prop) (t : XK → TE) : TE := fun σ H Q => Tabs T H ∧ ∀ H1, ExtT T H H1 → Tabs T H1 → TT (fun E H' Q' => t E σ H' Q') H1 Q
/-- x(lambda: body) -/
theorem pe_lamD {T : List (Addr × Str)} {TT : (XK → Hp → VK → Prop) → Hp → VK → Prop} {x a : Str} {g c P : Addr} {k : Nat} {pg : Arguments} {bg : List Stmt} {sg : Scope} {dV kV doc pm cdv ct oc : Value} {an od : Option Addr} {osl : Array (Option Value)} {Ng : List Str}
    {params : Arguments} {body : Expr} {scope : Scope} {D : List Value → Prop} {ps : List Str} {t : XK → TE} {p lpos pos : Pos} (hg : Gl X x) (hm : X.mg x = some (.ref g)) (hk : PySem.W.keepIn X.K (.ref g) = true)
    (lk : X.K.lookup g = some ⟨oc, od, .func (PySem.W.fnOf x x pg bg sg dV kV doc pm an cdv ct), osl⟩) (hcg : PySem.W.codeIn X.K cdv x = true) (hb : L2.Binds X.K (PySem.W.fnOf x x pg bg sg dV kV doc pm an cdv ct) [a] []) (Sg : FnScope Ng [a] sg) (hNg : Ng[0]? = some a) (hva : Vis sg a)
    (hG : GivesW X Ng x sg g cdv bg a (X.env.qual ++ "<lambda>") TT (k + 1))
    (TB : TabB X.base X.mg c P) (hcode : X.env.code = .ref c) (hmT : (P, X.env.qual ++ "<lambda>") ∈ T) (hu : ∀ p ∈ T, p.1 = P → p.2 = X.env.qual ++ "<lambda>") (hr : Room (k + 2) X.A) (L : LamN X.N X.env.scope scope ps)
    (hk0 : params.kw_defaults = []) (hdef : DefOk X params D) (hB : LamB params body scope D ps)
    (hbody : ∀ (A : Around) (outer : List Env) (s : Shared) (H : Hp) (E : XK) (f c' : Addr), Room k (A.deeper (lamEnv X scope s.heap.objs.size f c')) → PE (lamCx X A outer s H E scope f c') body (t E))
    (hdb : (x == ("__debug__" : Str)) = false := by decide) (hd : (a == ("__debug__" : Str)) = false := by decide) (hcd : (a == ("__classdict__" : Str)) = false := by decide) :
    PE X (.Call (.Name x p) [.Lambda params body scope lpos] [] pos) (tLamT T TT t) := by
  refine ⟨fun pins s σ H Q I h => ?_⟩
  obtain ⟨hT, h⟩ := h
  refine wpAny_Call_Name_kw (ld_glob I hg hm ?_ hdb)
  refine PySem.W.callWith_K (h₀ := X.base) I.ok.mod.kin hk ?_ (by rfl) (by rfl)
  show wpAny _ _ (spliced ((false, eval (.Lambda params body scope lpos) X.env) :: backTo pos (starEach [] X.env))) _ _ s
  refine Calls.spliced_cons (lam_make I TB hcode hmT hu hT hk0 hdef (L.has I.ok) fun f c' H1 s' I1 eN T1 O => Calls.spliced_nil ⟨I1.kIn, ?_⟩)
  have rc : codeAny (model X.prog X.w) X.A (.call (.ref g) ⟨[.ref f], []⟩) (CR C8.CX0 X.stack X.prog X.w H1 s' Q C8.E0) s' := by
    refine LamX.run_ofS (N := Ng) (ps := [a]) (us := [.ref f]) (vs := [.ref f]) lk hcg Sg hr I1.env0 (hb s' [.ref f] I1.kIn rfl) (.cons rfl .nil) rfl fun hr' => ?_
    obtain ⟨t', ht', hq'⟩ := hG f c' s' H1 Q (fun E H' Q' => t E σ H' Q') hr'
      (fun W pn xe p1 p2 tk => lam_act (i := 0) (tb := t) I1 L O hB tk hr' (fun A outer s H E hr2 => hbody A outer s H E f c' hr2) hNg hva hd hcd) O.code (h H1 eN T1)
    exact ⟨t', ht'.nox, hq'⟩
  refine wpAny_call (codeAny_mono rc fun r s2 hq => ?_)
  match r, hq with
  | .error e, hq => exact (show False from hq).elim
  | .ok (.ret u), hq => exact I1.after hq
  | .ok .next, hq => exact False.elim hq
  | .ok .brk, hq => exact False.elim hq
  | .ok .cont, hq => exact False.elim hq
end
/-! ### no parameter; one parameter with a whole number for its default -/
abbrev D0 : List Value → Prop := fun l => l = []
abbrev D1 (i : Int) : List Value → Prop := fun l => ∃ tk, l = [.int i tk]
theorem def0 {X : Cx} {params : Arguments} (h : params.defaults = []) : DefOk X params D0 := fun M A E Q s q => by
  rw [h]
  exact PySem.W.kdv_all0 (q [] s.toks rfl)
theorem def1 {X : Cx} {params : Arguments} {i : Int} {k : Nat} {pos : Pos} (h : params.defaults = [.Constant (.int i) k pos]) : DefOk X params (D1 i) := fun M A E Q s q => by
  rw [h]
  exact PySem.W.kdv_all1 (wpAny_Constant_int (PySem.W.kdv_all0 (q _ _ ⟨_, rfl⟩)))
theorem lamB0 {params : Arguments} {body : Expr} {scope : Scope} (h : ∀ (q : Str) (cl : List (Str × Addr)) (doc pm cv ctv : Value), bindArgs (PySem.W.kdv_fn "<lambda>" q params (.expr body) scope cl .none doc pm cv ctv) ⟨[], []⟩ = pure []) : LamB params body scope D0 [] :=
  fun s q cl dvs dV doc pm cv ctv hD hd => by
    rcases hd with ⟨_, rfl⟩ | ⟨t, e, _⟩
    · exact ⟨[], BindsTo.of_eq (h q cl doc pm cv ctv), fun y hy => absurd hy List.not_mem_nil⟩
    · exact absurd hD e
theorem lamB1 {params : Arguments} {body : Expr} {scope : Scope} {i : Int} {a : Str}
    (h1 : ∀ (q : Str) (cl : List (Str × Addr)) (t : Addr) (doc pm cv ctv : Value), ∃ k : Option (Array Value) → Sem (List (Str × Value)), bindArgs (PySem.W.kdv_fn "<lambda>" q params (.expr body) scope cl (.ref t) doc pm cv ctv) ⟨[], []⟩ = seqItems? (.ref t) >>= k ∧
      ∀ v : Value, k (some #[v]) = pure [(a, v)]) : LamB params body scope (D1 i) [a] :=
  fun s q cl dvs dV doc pm cv ctv hD hd => by
    obtain ⟨tk, rfl⟩ := hD
    rcases hd with ⟨e, _⟩ | ⟨t, _, rfl, ht⟩
    · cases e
    · obtain ⟨k, k1, k2⟩ := h1 q cl t doc pm cv ctv
      exact ⟨[(a, .int i tk)], BindsTo.of_defaults rfl ht rfl k1 (k2 _), fun y hy => by
        rw [List.mem_singleton.mp hy]
        exact List.mem_singleton.mpr rfl⟩
end L2.Lc
end

-- part LcTry
section
set_option Elab.async false
set_option linter.all false
set_option maxRecDepth 100000
set_option maxHeartbeats 2000000
/-! # LcTry: try .. except X as n, the caught error known beyond the suite -/
namespace L2.Lc
open PySem PySem.Spec PyProof.Rows L2
/-- an own error, caught, at a -/
def ExK (cls : Value) (d : Option Addr) (a : Addr) : HO := .ext fun h => ∃ (oe : Obj) (vs : Array Value), h.get? a = some oe ∧ Zc cls d oe ∧ oe.data = .fields vs
theorem exK_ok {P : Program} {w : World} {H : Hp} {h : Heap} {cls : Value} {d : Option Addr} {a : Addr} {oe : Obj} {vs : Array Value} (e : h.get? a = some oe) (z : Zc cls d oe) (f : oe.data = .fields vs) : ObjOk P w H h a (ExK cls d a) :=
  ⟨⟨oe, vs, e, z, f⟩, ⟨oe, e⟩, fun _ _ ⟨o, v, q, r⟩ k => ⟨o, v, k o q, r⟩⟩
theorem exK_at {P : Program} {w : World} {H : Hp} {h : Heap} {cls : Value} {d : Option Addr} {a : Addr} (hok : HOk P w H h) (e : H a = some (ExK cls d a)) : ∃ (oe : Obj) (vs : Array Value), h.get? a = some oe ∧ Zc cls d oe ∧ oe.data = .fields vs :=
  (show ObjOk P w H h a (.ext fun h => ∃ (oe : Obj) (vs : Array Value), h.get? a = some oe ∧ Zc cls d oe ∧ oe.data = .fields vs) from hok a _ e).1
section
variable {X : Cx} {pins : List (Addr × Obj)} {σ : L2.St} {H : Hp} {s : Shared}
/-- an error that is pinned is tracked from now on -/
theorem trackI {a : Addr} {oe : Obj} {vs : Array Value} {cls : Value} {d : Option Addr} (I : Inv X ((a, oe) :: pins) σ H s) (hd : oe.data = .fields vs) (hz : Zc cls d oe) (n0 : X.s_0.heap.get? a = none)
    (np : ∀ p ∈ X.pn ++ pins, p.1 ≠ a) : Inv X pins σ (upd H a (ExK cls d a)) s := by
  obtain ⟨ha, hn, nL, nF, nc⟩ := I.pin (a, oe) (List.mem_append_right _ List.mem_cons_self)
  have ne0 : ∀ {b o}, X.s_0.heap.get? b = some o → b ≠ a := fun {b o} e z => by
    rw [z, n0] at e
    cases e
  have neH : ∀ {b o}, H b = some o → b ≠ a := fun {b o} e => ne_of_none e hn
  have ncell : ∀ {y c}, X.env.cells.lookup y = some c → c ≠ a := fun {y c} e z => by
    obtain ⟨v, o, ho, hv⟩ := I.cell y c e
    rw [z, ha] at ho
    cases ho
    exact nc v hv
  refine ⟨I.ok, I.os, I.bare, ⟨I.base.keep, I.base.slot, fun b o e n x => ?_, I.base.there, fun b xs e => ?_, fun b o u e => ?_, fun b ps e => ?_⟩, I.loc, I.cell, ?_, fun y c e => ?_, fun p hp => ?_, fun b u e => ?_, I.len⟩
  · rw [upd_ne (ne0 e)]
    exact I.base.free b o e n x
  · have q := I.base.tups b xs e
    rw [upd_ne (neH q), q]
  · have q := I.base.frzs b o u e
    rw [upd_ne (neH q), q]
  · obtain ⟨m, q⟩ := I.base.tbls b ps e
    exact ⟨m, by rw [upd_ne (neH q), q]⟩
  · rw [upd_ne (Ne.symm nL)]
    exact I.free
  · rw [upd_ne (ncell e)]
    exact I.freeC y c e
  · have hp' : p ∈ X.pn ++ (a, oe) :: pins := by
      rcases List.mem_append.mp hp with z | z
      · exact List.mem_append_left _ z
      · exact List.mem_append_right _ (List.mem_cons_of_mem _ z)
    obtain ⟨e1, e2, e3, e4, e5⟩ := I.pin p hp'
    exact ⟨e1, by rw [upd_ne (np p hp)]; exact e2, e3, e4, e5⟩
  · by_cases hb : b = a
    · subst hb
      rw [upd_same] at e
      cases e
      exact exK_ok ha hz hd
    · rw [upd_ne hb] at e
      exact (I.hok b u e).stay (fun c v _ q => q) (fun c q => by rw [upd_ne (neH q)]; exact q) fun c xs q => by rw [upd_ne (neH q)]; exact q
theorem unsuiteI {a : Addr} {q : Addr × Obj} {pn' : List (Addr × Obj)} (I : Inv (X.suite a (q :: (X.pn ++ pins))) pn' σ H s) (ok : X.Ok) : Inv X (q :: pins) σ H s :=
  ⟨ok, I.os, I.bare, I.base, I.loc, I.cell, I.free, I.freeC, fun p hp => I.pin p (List.mem_append_left _ (by
    rcases List.mem_append.mp hp with z | z
    · exact List.mem_cons_of_mem _ (List.mem_append_left _ z)
    · rcases List.mem_cons.mp z with e | z
      · exact e ▸ List.mem_cons_self
      · exact List.mem_cons_of_mem _ (List.mem_append_right _ z))), I.hok, I.len⟩
end
/-- what the clause 'except x as n' wishes: beyond the suite the error is known -/
def wKeep (K : PySem.W.Frag) (c : Value) (i : Nat) (ts : Addr → Value → Option Addr → TS) (Wout : WX) (D : Ends) : WX := fun cls d σ H =>
  ∃ b, PySem.W.exmOne K cls c = some b ∧
    (b = true → ∀ a, H a = none → ts a cls d ⟨fun σ' H' => H' a = none → D.nx (σ'.set i none) (upd H' a (ExK cls d a)), fun _ _ => False, fun _ _ => False, fun _ _ => False⟩ (σ.set i (some (.ref a))) H) ∧
    (b = false → Wout cls d σ H)
section
variable {X : Cx} {x n : Str} {c : Value} {i : Nat} {body suite : List Stmt} {b₀ : Stmt} {np pos pos' : Pos} {tb : WX → TS} {ts : Addr → Value → Option Addr → TS} {Wout : WX}
/-- the error lands in the frame that looks -/
theorem kept_catch (hs : X.stack = X.env :: X.outer) (hf : X.env.frame = some X.env.locals) (hex : X.ex = []) (hN : X.N.Nodup) (hi : X.N[i]? = some n) (hln : X.env.kindOf n = some .local) (hc : Names X x c) (tk : Takes X Wout)
    (hsu : ∀ (a : Addr) (oe : Obj) (cls : Value) (d : Option Addr) (pn : List (Addr × Obj)), Zc cls d oe → (∃ vs, oe.data = .fields vs) → PSs (X.suite a ((a, oe) :: pn)) (b₀ :: suite) (ts a cls d))
    {pins : List (Addr × Obj)} {D : Ends} (ok : X.Ok) {xe : Value → Shared → Prop} {u : Value} {s' : Shared} (xx : XE (X.tr (X.pn ++ pins) xe) (wKeep X.K c i ts Wout D) u s') :
    wpAny (model X.prog X.w) X.A (noteFrame u X.env) (fun _ s₂ => wpAny (model X.prog X.w) X.A (setFlight u none) (fun _ s₃ =>
      wpAny (model X.prog X.w) X.A (handleBy u X.env [.ExceptHandler (some (.Name x np)) (some n) (b₀ :: suite) pos']) (SP X pins D) X.xe s₃) X.xe s₂) X.xe s' := by
  have hfr : X.A.frames = some (X.env :: X.outer) := ok.frames.trans (congrArg some hs)
  obtain ⟨a, B, sI, pins', σ', H', cls, d, rfl, J', nb, up, sky, na, os, ag, b, hb1, hyes, hno⟩ := xx
  have J : Inv X pins σ' H' sI := J'.ofTry ok
  have nb' : ∀ b o, sI.heap.get? b = some o → b ∉ frs X.stack → B.get? b = some o := nb
  have sky' : Sky B (X.env :: X.outer) a (Zc cls d) X.env.locals s'.heap := hs ▸ sky
  refine Sky.land Zc.steady hfr hf sky' fun h3 fl3 up3 => ?_
  have J3 : Inv X pins σ' H' { s' with heap := h3 } := J.landed nb' fl3.1 (up.trans up3) os ag
  obtain ⟨oe3, vs3, he3, hz3, hd3⟩ := fl3.there
  have nfr : a ∉ frs (X.env :: X.outer) := fun hm => by
    obtain ⟨_, o', e', hnf⟩ := fl3.2.2.1.mem hm
    rw [he3] at e'
    cases e'
    exact hnf _ hd3
  have nL : a ≠ X.env.locals := fun z => nfr (List.mem_filterMap.mpr ⟨X.env, List.mem_cons_self, hf.trans (congrArg some z.symm)⟩)
  have nF : a ∉ X.fs := fun hm => nfr (by
    obtain ⟨e, he, q⟩ := List.mem_filterMap.mp hm
    exact List.mem_filterMap.mpr ⟨e, List.mem_cons_of_mem _ he, q⟩)
  -- the error is newer than the def's entry
  have aI : sI.heap.get? a = none := by
    cases q : sI.heap.get? a with
    | none => rfl
    | some o =>
      have z := nb' a o q (by rw [hs]; exact nfr)
      rw [fl3.2.1] at z
      cases z
  have n0 : X.s_0.heap.get? a = none := by
    cases q : X.s_0.heap.get? a with
    | none => rfl
    | some o =>
      obtain ⟨o', z⟩ := J.base.there a o q (by rw [hex]; exact List.not_mem_nil)
      rw [aI] at z
      cases z
  have npin : ∀ p ∈ X.pn ++ pins, p.1 ≠ a := fun p hp z => by
    have e := (J.pin p hp).1
    rw [z, aI] at e
    cases e
  have S3 := J3.suite he3 hd3 na nL nF
  refine wpAny_handleBy_cons (codeAny_handlers_test ?_) (by intro q; cases q)
  have LT : PySem.W.Looks (model X.prog X.w) h3 (typeOf (.ref a)) cls := fun A Q E s k q => wpAny_typeOf_ref (k _ _ he3) (hz3.1.symm ▸ q)
  have LM := PySem.W.exm_one (M := model X.prog X.w) J3.kIn LT hb1
  have test : ∀ {Q : Value → Shared → Prop} {E : Value → Shared → Prop}, Q c { s' with heap := h3 } → wpAny (model X.prog X.w) (X.A.mark (some (.ref a))) (eval (.Name x np) X.env) Q E { s' with heap := h3 } := by
    intro Q E q
    rcases hc with ⟨hg, hdbg, hm | ⟨hm, hv, hnn⟩⟩
    · exact ld_glob (X := X.suite a ((a, oe3) :: (X.pn ++ pins))) S3 hg hm q hdbg
    · exact ld_blt (X := X.suite a ((a, oe3) :: (X.pn ++ pins))) S3 hg hm hv q hnn hdbg
  refine test (LM.here ?_)
  cases b with
  | true =>
    refine codeAny_handlers_suite_as (HandSPX.lands_againZ fl3 fun h4 fl4 up4 => ?_)
    have J4 : Inv X pins σ' H' { s' with heap := h4 } := J.landed nb' fl4.1 ((up.trans up3).trans up4) os ag
    obtain ⟨oe4, vs4, he4, hz4, hd4⟩ := fl4.there
    have S4 := J4.suite he4 hd4 na nL nF
    refine store_ok (X := X.suite a ((a, oe4) :: (X.pn ++ pins))) (v := .ref a) S4 hN hi (.inl hln) rfl (fun s5 S5 => ?_) (.inr hln)
    have run := (hsu a oe4 cls d (X.pn ++ pins) hz4 ⟨_, hd4⟩).run [] s5 _ H' _ S5 (hyes rfl a na)
    refine wpAny_mono run (fun f s6 hsp => ?_) fun _ _ z => z.elim
    match f, hsp with
    | .next, hsp =>
      obtain ⟨σ6, H6, S6, q6⟩ := hsp
      have U6 := unsuiteI S6 ok
      have hn6 : H6 a = none := (U6.pin (a, oe4) (List.mem_append_right _ List.mem_cons_self)).2.1
      exact gone_ok U6 hN hi hln fun s7 J7 => ⟨_, _, trackI J7 hd4 hz4 n0 npin, q6 hn6⟩
    | .brk, hsp => exact hsp.elim fun _ z => z.elim fun _ z => z.2.elim
    | .cont, hsp => exact hsp.elim fun _ z => z.elim fun _ z => z.2.elim
    | .ret u, hsp => exact hsp.elim fun _ z => z.elim fun _ z => z.elim fun _ z => z.2.2.elim
  | false =>
    show wpAny _ X.A (handleBy (.ref a) X.env []) _ _ _
    refine wpAny_handleBy_nil ?_
    obtain ⟨_, _, _, oe, vs, tb, _, _, he, _, hd, h1, _⟩ := id fl3
    have fin : wpAny (model X.prog X.w) X.A (setFlight (.ref a) X.env.frame) (fun _ s4 => wpAny (model X.prog X.w) X.A (throw (.ref a) : Sem Flow) (SP X pins D) X.xe s4) X.xe { s' with heap := h3 } := by
      rw [hf]
      exact HandSPX.setFlight_upZ fl3 fun h4 hh4 up4 => wpAny_throw (tk _ _ ⟨a, B, sI, pins, σ', H', cls, d, rfl, J, nb', (up.trans up3).trans up4, .inr (.inr (by rw [hs]; exact hh4)), na, os, ag, hno rfl⟩)
    unfold PySem.passOn
    refine wpAny_bind (wpAny_field he hd h1 ?_)
    rw [if_neg (show ¬ ((Value.ref tb == Value.none) = true) from by simp)]
    first
      | exact wpAny_bind (wpAny_pure (wpAny_bind fin))
      | exact wpAny_bind fin
theorem ps_try_keep (hs : X.stack = X.env :: X.outer) (hf : X.env.frame = some X.env.locals) (hex : X.ex = []) (hN : X.N.Nodup) (hi : X.N[i]? = some n) (hln : X.env.kindOf n = some .local) (hc : Names X x c) (tk : Takes X Wout)
    (hb : ∀ (W : WX) (pn : List (Addr × Obj)) (xe : Value → Shared → Prop), Takes (X.tr pn xe) W → PassesOwn (model X.prog X.w) X.A X.env xe → PSs (X.tr pn xe) body (tb W))
    (hsu : ∀ (a : Addr) (oe : Obj) (cls : Value) (d : Option Addr) (pn : List (Addr × Obj)), Zc cls d oe → (∃ vs, oe.data = .fields vs) → PSs (X.suite a ((a, oe) :: pn)) (b₀ :: suite) (ts a cls d)) :
    PS X (.Try body [.ExceptHandler (some (.Name x np)) (some n) (b₀ :: suite) pos'] [] [] pos) (fun D σ H => tb (wKeep X.K c i ts Wout D) D σ H) := by
  refine ⟨fun pins s σ H D I h => wpAny_Try_except ?_⟩
  have ok := I.ok
  have run := (hb (wKeep X.K c i ts Wout D) (X.pn ++ pins) _ (fun u s' xx => kept_catch (np := np) (pos' := pos') hs hf hex hN hi hln hc tk hsu ok xx) PassesOwn.looking).run [] s σ H D (I.toTry _) h
  refine wpAny_mono run (fun f s1 hsp => ?_) fun e s1 he => he
  match f, hsp with
  | .next, hsp =>
    obtain ⟨σ', H', J', q⟩ := hsp
    exact wpAny_execs_nil ⟨σ', H', J'.ofTry ok, q⟩
  | .brk, hsp =>
    obtain ⟨σ', H', J', q⟩ := hsp
    exact ⟨σ', H', J'.ofTry ok, q⟩
  | .cont, hsp =>
    obtain ⟨σ', H', J', q⟩ := hsp
    exact ⟨σ', H', J'.ofTry ok, q⟩
  | .ret u, hsp =>
    obtain ⟨v, σ', H', J', r, q⟩ := hsp
    exact ⟨v, σ', H', J'.ofTry ok, r, q⟩
end
end L2.Lc
end

-- part LcGuard
section
set_option Elab.async false
set_option linter.all false
set_option maxRecDepth 100000
set_option maxHeartbeats 400000
/-! # defs that are run where no repr is under way: repr of plain data; the law's end -/
namespace L2.Lc
open PySem PySem.Spec PyProof.Rows L2
open Evl (Ex ex_l ex_t)
structure FnG (P : Program) (w : World) (K : PySem.W.Frag) (mg : Str → Option Value) (base : Heap) (k : Nat) (f : Addr) (fd : FuncData) (ps : List Str) (sp : Sp) : Prop where
  len : ∀ {vs H Q E}, sp vs H Q E → vs.length = ps.length
  go : ∀ {A : Around} {outer : List Env} {s : Shared} {H : Hp} {args : Args} {us : List Value} {vs : List V} {Q : VK} {E : XK}, Room k A → A.guards = some [] → Env0 P w K mg base A outer s H → BindsTo s fd args (ps.zip us) → Vals vs us → sp vs H Q E →
    codeAny (model P w) A (.call (.ref f) args) (CR CX0 outer P w H s Q E) s
section
variable {P : Program} {w : World} {K : PySem.W.Frag} {mg : Str → Option Value} {base : Heap} {k : Nat} {x qual : Str} {params : Arguments} {body : List Stmt} {scope : Scope} {dvs : List V} {kws : List (Str × V)} {f : Addr} {fd : FuncData} {N ps : List Str} {sp : Sp}
theorem FnG.of (F : FunD K x qual params body scope dvs kws f fd) (S : FnScope N ps scope) (len : ∀ {vs H Q E}, sp vs H Q E → vs.length = ps.length)
    (hb : ∀ (cdv : Value) (A : Around) (outer : List Env) (s : Shared) (H : Hp) (vs : List V) (Q : VK) (E : XK), Room k (A.deeper (envOfC qual scope s.heap.objs.size f cdv)) → A.guards = some [] → sp vs H Q E →
      ∃ t, PSs (cxOf CX0 P w K mg base N qual scope f cdv A outer s H E) body t ∧ t { nx := fun _ H' => Q .non H', rt := Q } (start N vs) H) : FnG P w K mg base (k + 1) f fd ps sp := by
  obtain ⟨oc, od, dV, kV, doc, pm, an, cdv, ct, osl, rfl, found, hcode, _, _⟩ := F.ex
  refine ⟨len, fun {A outer s H args us vs Q E} room hg e0 bind rel want => ?_⟩
  have keep0 : ∀ b o, base.get? b = some o → s.heap.get? b = some o := fun b o e => (e0.bs b o e).1
  have inK : K.In s.heap := e0.mod.kin.keeps keep0
  have kinds : ∀ y ∈ ps.zip us, scope.names.lookup y.1 = some .local ∨ (scope.names.lookup y.1 = some .cell ∧ ((cellsFrom (s.heap.objs.size + 1) scope.names []).lookup y.1).isSome = true) := by
    intro y hy
    refine (S.par y.1 (List.of_mem_zip (a := y.1) (b := y.2) hy).1).elim .inl fun q => .inr ⟨q, ?_⟩
    exact PySem.W.cellsFrom_some _ _ _ (.inl q)
  refine codeAny_call_function room.depth (inK _ _ found) rfl S.co S.gen rfl (PySem.W.codeRec_of inK hcode) (bind _ _ _ _ (wpAny_newFunctionEnv_cells S.kind kinds ?_))
  rintro env rfl s1 inCall
  refine ⟨(e0.mod.nolimit.keeps keep0).keeps inCall.toInCall.keep, codeAny_func ?_⟩
  obtain ⟨t, run, ok⟩ := hb cdv A outer s H vs Q E (room.deeper _) hg want
  have J0 : Inv (cxOf CX0 P w K mg base N qual scope f cdv A outer s H E) [] (start N vs) H s1 := inv_start S room.hd e0 (len want) rel inCall
  refine wpAny_mono (run.run [] s1 (start N vs) H _ J0 ok) (fun out s' done => ?_) (fun _ _ z => z)
  rcases out with _ | _ | _ | u
  all_goals first
    | (obtain ⟨σ', H', J, q⟩ := done
       exact ⟨V.non, H', J.os, J.bare, J.base, J.hok, rfl, q⟩)
    | (obtain ⟨v, σ', H', J, rv, q⟩ := done
       exact ⟨v, H', J.os, J.bare, J.base, J.hok, rv, q⟩)
    | (obtain ⟨_, _, _, q⟩ := done
       exact q.elim)
theorem fnPG {α β : Type} {A : α → List Ent} {pre : α → Prop} {R : Rl β} {post : α → β → Prop} (F : FunD K x qual params body scope dvs kws f fd) (S : FnScope N ps scope) (hA : ∀ x, (A x).length = ps.length)
    (hd : ∀ (cdv : Value) (B : Around) (outer : List Env) (s : Shared) (H : Hp) (E : XK), Room k (B.deeper (envOfC qual scope s.heap.objs.size f cdv)) → B.guards = some [] → ∃ t, PSs (cxOf CX0 P w K mg base N qual scope f cdv B outer s H E).nox body t ∧
      ∀ x, pre x → StW pm t ((A x).map some ++ List.replicate (N.length - ps.length) none) () R { nx := fun _ _ => False, rt := fun y _ => post x y }) : FnG P w K mg base (k + 1) f fd ps (spP A pre R post) := by
  refine FnG.of F S (fun {vs H Q E} ⟨M, x, _, a, _⟩ => a.len.trans (hA x)) fun cdv A' outer s H vs Q E hr hg ⟨M, x, g, a, hp, q⟩ => ?_
  obtain ⟨t, d, h⟩ := hd cdv A' outer s H E hr hg
  refine ⟨t, d.nox, ?_⟩
  have hl : vs.length = ps.length := a.len.trans (hA x)
  unfold start
  rw [hl]
  exact h x hp M _ H ⟨g, fun _ z => z.elim, trivial, fun _ _ _ _ _ z => z.elim⟩ (start_ok a _) _ ⟨fun _ _ _ _ z => z.elim, fun y n v H' po e _ r => q v y H' po (fun b o z => e b o (fun z => z.elim) z) r, fun _ _ _ _ z => z.elim, fun _ _ _ _ z => z.elim⟩
end
structure CalG (P : Program) (w : World) (K : PySem.W.Frag) (mg : Str → Option Value) (base : Heap) (x : Str) (k : Nat) (ps : List Str) (sp : Sp) : Prop where
  ex : ∃ f fd, FnG P w K mg base k f fd ps sp ∧ mg x = some (.ref f) ∧ PySem.W.keepIn K (.ref f) = true ∧ Binds K fd ps []
theorem FG.calG {P : Program} {w : World} {K : PySem.W.Frag} {mg : Str → Option Value} {base : Heap} {k : Nat} {x : Str} {st : Stmt} {ps : List Str} {sp : Sp} (F : FG K mg x st) (hb : BindN x x st ps)
    (h : ∀ f fd, FunD K x x (defArgs st) (defBody st) (defScope st) [] [] f fd → FnG P w K mg base k f fd ps sp) : CalG P w K mg base x k ps sp := by
  obtain ⟨f, fd, F, g⟩ := F.ex
  exact ⟨f, fd, h f fd F, g, F.kp, F.bindsN hb⟩
section
variable {X : Cx} {x : Str} {k : Nat} {ps : List Str} {sp : Sp} {e : Expr} {es : List Expr} {t : TA} {p pos : Pos}
theorem pe_calG (c : CalG X.prog X.w X.K X.mg X.base x k ps sp) (hr : Room k X.A) (hgd : X.A.guards = some []) (hg : Gl X x) (ha : PA X (e :: es) t) (hdb : (x == ("__debug__" : Str)) = false := by decide) (he : starEach (e :: es) X.env = (false, eval e X.env) :: starEach es X.env := by rfl)
    (hpl : (backTo pos (starEach es X.env)).any (·.1) = false := by rfl) : PE X (.Call (.Name x p) (e :: es) [] pos) (tCall sp [] E0 t) := by
  obtain ⟨f, fd, F, gm, kp, b⟩ := c.ex
  refine ⟨fun pins s σ H Q I h => wpAny_Call_Name_kw (ld_glob I hg gm (PySem.W.callWith_K (h₀ := X.base) I.ok.mod.kin kp (thn (ha.run pos pins s σ H _ I h) ?_) he hpl) hdb)⟩
  rintro us s1 ⟨vs, H1, I1, r, q⟩
  refine ⟨I1.kIn, ?_⟩
  rw [List.append_nil] at q
  have hlen := F.len q
  have bind := b s1 us I1.kIn (by rw [List.append_nil, ← r.length]; exact hlen)
  rw [List.append_nil] at bind
  refine wpAny_call (codeAny_mono (F.go hr hgd I1.env0 bind r q) fun out s' z => ?_)
  rcases out with e | (_ | _ | _ | u)
  · exact z.elim
  all_goals first
    | exact I1.after z
    | exact z.elim
/-- the text of a tuple of integers -/
def tupTxt (ns : List Int) : Str := tupleText (ns.map fun i => ((toString i : String) : Str))
/-- repr of a tuple of integers -/
def rReprT (K : PySem.W.Frag) : List V → Hp → VK → Prop := fun xs H Q => ∃ (a : Addr) (ns : List Int), xs = [.ref a] ∧ SqT K H a (ns.map V.int) ∧ (∀ i ∈ ns, i.natAbs.log2 < 1920) ∧ (tupTxt ns).length ≤ sizeLine ∧ Q (.str (tupTxt ns)) H
theorem reprs_ints {s : Shared} : ∀ {ns : List Int} {us : List Value}, Vals (ns.map V.int) us → (∀ i ∈ ns, i.natAbs.log2 < 1920) → ReprAllK X.prog X.w [] s.heap 0 us (ns.map fun i => ((toString i : String) : Str))
  | [], _, .nil, _ => .nil
  | i :: ns, _, .cons r t, h => by
    obtain ⟨k, rfl⟩ := r
    exact .cons (ReprK.of_is (ReprIs.int k (h i (List.mem_cons_self ..))) _ _ _) (reprs_ints t fun j hj => h j (List.mem_cons_of_mem _ hj))
theorem cr_reprT (hgd : X.A.guards = some []) (hu : X.A.units + 64 < cLine) : CallR X (.builtin "repr") (rReprT X.K) := by
  intro pins s σ H xs us Q I r h
  obtain ⟨a, ns, rfl, hs, hl, hz, q⟩ := h
  obtain ⟨u, rfl, rx⟩ := vals1 r
  obtain rfl : u = .ref a := rx
  obtain ⟨its, rv, ⟨o, ho, hc, n, hd⟩, _⟩ := I.tuple hs
  have hT : s.TypeIs (.ref a) "tuple" := ⟨o, ho, hc⟩
  refine Calls.call_function_entry F.kind_repr F.plain_repr F.entry_repr (F.args_repr1 _) ?_
  unfold Builtin.«repr»
  refine wpAny_bind (m := oneArg "repr" _) (wpAny_pure (wpAny_bind (wpAny_cRoomFor (by show X.A.units + 1 < cLine; omega) ?_)))
  refine wpAny_bind (wpAny_specialOf (name := Str.ofString "__repr__") hT F.slot_tuple_repr.lookup ?_)
  refine wpAny_bind (m := callSpecialIfBound? (.ref a) (Str.ofString "__repr__")) (wpAny_callSpecialIfBound?_slotG (name := Str.ofString "__repr__") hT F.slot_tuple_repr ?_)
  refine call_tuple_reprK (as := []) (h₀ := s.heap) (d := 0) ho hc hd (by simp) (by simpa using reprs_ints rv hl) (g := []) hgd (fun b _ => Clear.nil b) (by show X.A.units + 1 + (0 + 1) < cLine; omega) (fun _ _ e => e) (fun h' u tk hk => ?_) hz
  refine wpAny_bind (wpAny_isInstance (T := "str") (b := true) rfl isSubtype_str_str ?_)
  exact wpAny_pure ⟨_, rfl, .str (tupTxt ns), H, I.kept (t' := tk) hk, ⟨u, rfl⟩, q⟩
end
section
variable {K : PySem.W.Frag}
theorem c_reprP {x y : Int} (h1 : x.natAbs.log2 < 1920) (h2 : y.natAbs.log2 < 1920) (hz : (tupTxt [x, y]).length ≤ sizeLine) : CbW (rReprT K) [.mk (rPr K rInt rInt) (x, y)] rStr (tupTxt [x, y]) := fun M H vs g a Q k => by
  obtain ⟨v, rfl, r⟩ := args1 a
  obtain ⟨ad, u, w, rfl, hs, hu, hw⟩ := r
  rw [show u = V.int x from hu, show w = V.int y from hw] at hs
  refine ⟨ad, [x, y], rfl, ex_t hid_le hs, fun i hi => ?_, hz, k _ H (fun _ _ h => h) rfl⟩
  rcases List.mem_cons.mp hi with rfl | hi
  · exact h1
  · rw [List.mem_singleton.mp hi]; exact h2
end
end L2.Lc
end

-- part LcKw
section
set_option Elab.async false
set_option linter.all false
set_option maxRecDepth 100000
set_option maxHeartbeats 400000
/-! # calls whose arguments are all told by name -/
namespace L2.Lc
open PySem PySem.Spec PyProof.Rows L2
def tCallKw (m : Nat) (sp : Sp) (gV : List V → List V) (E : XK) (tk : TA) : TE := fun σ H Q => tk σ H fun zs H2 => zs.length = m ∧ sp (gV zs) H2 Q E
section
variable {X : Cx} {CX : CXT} {k : Nat} {f : Addr} {fd : FuncData} {ps ks : List Str} {sp : Sp} {E : XK} {x : Str} {p pos : Pos} {kws : List Keyword} {tk : TA} {g : List Value → List Value} {gV : List V → List V}
theorem pe_callKw (F : FnOk X.prog X.w X.K X.mg X.base CX k f fd ps sp) (hr : Room k X.A) (hg : Gl X x) (hm : X.mg x = some (.ref f)) (hk : PySem.W.keepIn X.K (.ref f) = true) (hb : KBn X.K fd ps 0 ks (fun _ ws => g ws) (fun _ zs => gV zs)) (hx : Passes CX X E)
    (hkw : PK X kws tk) (hall : (backToKw pos (keywordEach kws X.env)).all (·.1.isSome) = true := by rfl) (hks : (backToKw pos (keywordEach kws X.env)).filterMap (·.1) = ks := by rfl)
    (hdb : (x == ("__debug__" : Str)) = false := by decide) (hpl : ((backTo pos (starEach [] X.env)).any (·.1) || (backToKw pos (keywordEach kws X.env)).any (·.1.isNone)) = false := by rfl) :
    PE X (.Call (.Name x p) [] kws pos) (tCallKw ks.length sp gV E tk) := by
  refine ⟨fun pins s σ H Q I h => wpAny_Call_Name_kw (ld_glob I hg hm ?_ hdb)⟩
  refine PySem.W.callWith_KW0 (h₀ := X.base) I.ok.mod.kin hk hall (thn (hkw.run pos pins s σ H _ I h) fun ws s2 ⟨zs, H2, I2, rz, l2, q2⟩ => ⟨I2.kIn, ?_⟩) hpl
  rw [hks]
  exact run_fnN (us := []) (vs := []) F hr hb hx I2 .nil rz rfl l2 q2
end
structure CalK (P : Program) (w : World) (K : PySem.W.Frag) (mg : Str → Option Value) (base : Heap) (x : Str) (k : Nat) (ps ks : List Str) (gV : List V → List V) (sp : Sp) : Prop where
  ex : ∃ (f : Addr) (fd : FuncData) (g : List Value → List Value), FnOk P w K mg base CX0 k f fd ps sp ∧ mg x = some (.ref f) ∧ PySem.W.keepIn K (.ref f) = true ∧ KBn K fd ps 0 ks (fun _ ws => g ws) (fun _ zs => gV zs)
section
variable {X : Cx} {x : Str} {k : Nat} {ps ks : List Str} {sp : Sp} {p pos : Pos} {kws : List Keyword} {tk : TA} {gV : List V → List V}
theorem pe_calK (c : CalK X.prog X.w X.K X.mg X.base x k ps ks gV sp) (hr : Room k X.A) (hg : Gl X x) (hkw : PK X kws tk) (hall : (backToKw pos (keywordEach kws X.env)).all (·.1.isSome) = true := by rfl) (hks : (backToKw pos (keywordEach kws X.env)).filterMap (·.1) = ks := by rfl)
    (hdb : (x == ("__debug__" : Str)) = false := by decide) (hpl : ((backTo pos (starEach [] X.env)).any (·.1) || (backToKw pos (keywordEach kws X.env)).any (·.1.isNone)) = false := by rfl) : PE X (.Call (.Name x p) [] kws pos) (tCallKw ks.length sp gV E0 tk) := by
  obtain ⟨f, fd, g, F, gm, kp, b⟩ := c.ex
  exact pe_callKw F hr hg gm kp b pass0 hkw hall hks hdb hpl
end
section
variable {P : Program} {w : World} {K : PySem.W.Frag} {mg : Str → Option Value} {base : Heap} {k : Nat} {x : Str} {st : Stmt} {ps ks : List Str} {sp : Sp}
theorem FG.calK (F : FG K mg x st) {gV : List V → List V} (g : List Value → List Value) (hrel : ∀ {zs : List V} {ws : List Value}, Vals zs ws → Vals (gV zs) (g ws))
    (hb : ∀ (kV doc pm : Value) (an : Option Addr) (cdv ct : Value) (ws : List Value), ws.length = ks.length → bindArgs (PySem.W.fnOf x x (defArgs st) (defBody st) (defScope st) .none kV doc pm an cdv ct) ⟨[], ks.zip ws⟩ = pure (ps.zip (g ws)))
    (h : ∀ f fd, FunD K x x (defArgs st) (defBody st) (defScope st) [] [] f fd → FnOk P w K mg base CX0 k f fd ps sp) : CalK P w K mg base x k ps ks gV sp := by
  obtain ⟨f, fd, F, gm⟩ := F.ex
  refine ⟨f, fd, g, h f fd F, gm, F.kp, ⟨fun s us ws X l1 l2 => ?_, fun _ r => hrel r⟩⟩
  have hu : us = [] := List.length_eq_zero_iff.mp l1
  subst hu
  obtain ⟨oc, od, dV, kV, doc, pm, an, cdv, ct, osl, rfl, lk, hcd, hD, hK⟩ := F.ex
  rcases hD with ⟨_, rfl⟩ | ⟨e, _⟩
  · exact .of_eq (hb kV doc pm an cdv ct ws l2)
  · exact absurd rfl e
end
theorem argsApp {G : Hp} : ∀ {vs ws : List V} {es fs : List Ent}, ArgsOk G vs es → ArgsOk G ws fs → ArgsOk G (vs ++ ws) (es ++ fs)
  | [], _, [], _, _, h => h
  | _ :: _, _, _ :: _, _, h1, h2 => ⟨h1.1, argsApp h1.2 h2⟩
  | [], _, _ :: _, _, h, _ => h.elim
  | _ :: _, _, [], _, h, _ => h.elim
theorem argsRev {G : Hp} : ∀ {vs : List V} {es : List Ent}, ArgsOk G vs es → ArgsOk G vs.reverse es.reverse
  | [], [], _ => trivial
  | v :: vs, e :: es, h => by
    rw [List.reverse_cons, List.reverse_cons]
    exact argsApp (argsRev h.2) ⟨h.1, trivial⟩
  | [], _ :: _, h => h.elim
  | _ :: _, [], h => h.elim
section
variable {Z : Type} {m : Md Z} {Γ : Gm} {n : Z} {α γ : Type} {T : Rl γ}
theorem w_callK {A : α → List Ent} {pre : α → Prop} {post : α → γ → Prop} {E : XK} {t : TA} {j : Nat} {gV : List V → List V} {Post : γ → Z → Prop} (gE : List Ent → List Ent) (hg : ∀ {G : Hp} {vs : List V} {es : List Ent}, ArgsOk G vs es → ArgsOk G (gV vs) (gE es))
    (h : ArW m t Γ n fun es n1 => es.length = j ∧ ∃ x, gE es = A x ∧ pre x ∧ ∀ y, post x y → Post y n1) : EvW m (tCallKw j (spP A pre T post) gV E t) Γ n T Post := fun M σ H c e Q k =>
  h M σ H c e _ fun vs es n1 H1 p1 e1 i1 a1 => by
    obtain ⟨hl, x, hx, hp, hq⟩ := p1
    exact ⟨a1.len.trans hl, M, x, (c.go e1 i1).good, by rw [← hx]; exact hg a1, hp, fun v y H' po x' r => k v y n1 H' (hq y po) (e1.trans (.of x')) (m.kept i1 x') r⟩
end
end L2.Lc
end

-- part LcErr
section
set_option Elab.async false
set_option linter.all false
set_option maxRecDepth 100000
set_option maxHeartbeats 400000
/-! # LcErr: errors: raised, let out by a def, caught, asked -/
namespace L2.Lc
open PySem PySem.Spec PyProof.Rows L2
open Evl (Ex ex_l ex_t)
/-! ### classes of errors -/
structure EcC (K : PySem.W.Frag) (D : Addr) : Prop where
  cl : (PySem.W.clsIn K D).isSome = true
  ga : PySem.W.findIn K (.ref D) "__getattribute__" = some (some (.builtin "BaseException.__getattribute__"))
  gt : PySem.W.findIn K (.ref D) "__getattr__" = some none
  sub : PySem.W.subIn K (.ref D) (.type "BaseException") = some true
  ca : PySem.W.findIn K (.ref D) "__class__" = some (some (.builtin "object.__class__"))
  cn : PySem.W.specialIn K (.builtin "object.__class__") "__get__" = some (some (.builtin "getset_descriptor.__get__"))
  ct : PySem.W.takesIn K (.builtin "object.__class__") = some true
  cm : PySem.W.mroIn K D (.type "object") = some true
  hd : PySem.W.hasDictIn K D = true
def ecB (K : PySem.W.Frag) (D : Addr) : Bool :=
  (PySem.W.clsIn K D).isSome && (He.eqO (PySem.W.findIn K (.ref D) "__getattribute__") (some (some (.builtin "BaseException.__getattribute__"))) && (He.eqO (PySem.W.findIn K (.ref D) "__getattr__") (some none) &&
  (decide (PySem.W.subIn K (.ref D) (.type "BaseException") = some true) && (He.eqO (PySem.W.findIn K (.ref D) "__class__") (some (some (.builtin "object.__class__"))) &&
  (He.eqO (PySem.W.specialIn K (.builtin "object.__class__") "__get__") (some (some (.builtin "getset_descriptor.__get__"))) && (decide (PySem.W.takesIn K (.builtin "object.__class__") = some true) && (decide (PySem.W.mroIn K D (.type "object") = some true) && PySem.W.hasDictIn K D)))))))
theorem ecB_ok {K : PySem.W.Frag} {D : Addr} (h : ecB K D = true) : EcC K D := by
  unfold ecB at h
  simp only [Bool.and_eq_true, decide_eq_true_eq] at h
  obtain ⟨h1, h2, h3, h4, h5, h6, h7, h8, h9⟩ := h
  exact ⟨h1, He.eqO_ok h2, He.eqO_ok h3, h4, He.eqO_ok h5, He.eqO_ok h6, h7, h8, h9⟩
def ecI (K : PySem.W.Frag) (D : Addr) : Bool := He.eqO (PySem.W.findIn K (.ref D) "__class__") (some (some (.builtin "object.__class__"))) &&
  (He.eqO (PySem.W.specialIn K (.builtin "object.__class__") "__get__") (some (some (.builtin "getset_descriptor.__get__"))) && (decide (PySem.W.takesIn K (.builtin "object.__class__") = some true) && decide (PySem.W.mroIn K D (.type "object") = some true)))
theorem ecI_ok {K : PySem.W.Frag} {D : Addr} (h : ecI K D = true) : PySem.W.findIn K (.ref D) "__class__" = some (some (.builtin "object.__class__")) ∧ PySem.W.specialIn K (.builtin "object.__class__") "__get__" = some (some (.builtin "getset_descriptor.__get__")) ∧
    PySem.W.takesIn K (.builtin "object.__class__") = some true ∧ PySem.W.mroIn K D (.type "object") = some true := by
  unfold ecI at h
  simp only [Bool.and_eq_true, decide_eq_true_eq] at h
  exact ⟨He.eqO_ok h.1, He.eqO_ok h.2.1, h.2.2.1, h.2.2.2⟩
section
variable {X : Cx} {pins : List (Addr × Obj)} {σ : L2.St} {H : Hp} {s : Shared}
def DOk (H : Hp) (d : Option Addr) : Prop := d = none ∨ ∃ dd fs, d = some dd ∧ H dd = some (.xd fs)
theorem kitE (I : Inv X pins σ H s) {a D : Addr} {d : Option Addr} (C : EcC X.K D) (e : H a = some (ExK (.ref D) d a)) (hd : DOk H d) : ∃ P : Heap → Prop, PySem.W.KitX X.K (.ref a) (.ref D) P ∧ P s.heap := by
  obtain ⟨oe, vs, ha, hz, hv⟩ := exK_at I.hok e
  have nc : PySem.W.notCls oe := by unfold PySem.W.notCls; rw [hv] <;> rfl
  rcases hd with rfl | ⟨dd, fs, rfl, ed⟩
  · exact ⟨_, PySem.W.kitx_exc (ox := oe) (od := none) C.cl C.ga C.gt C.sub C.ca C.cn C.ct C.cm, ⟨ha, hz.1, nc, by rw [hz.2]; trivial⟩⟩
  · obtain ⟨mA, hns, _⟩ := (show ObjOk X.prog X.w H s.heap dd (.xd fs) from I.hok dd _ ed)
    obtain ⟨od, ho, _⟩ := lookIn_ns hns
    exact ⟨_, PySem.W.kitx_exc (ox := oe) (od := some od) C.cl C.ga C.gt C.sub C.ca C.cn C.ct C.cm, ⟨ha, hz.1, nc, by rw [hz.2]; exact ho⟩⟩
end
/-- isinstance(error, C) -/
def rIsE (K : PySem.W.Frag) : List V → Hp → VK → Prop := fun xs H Q => ∃ (a D : Addr) (d : Option Addr) (c : V) (u : Value) (b : Bool), xs = [.ref a, c] ∧ H a = some (ExK (.ref D) d a) ∧ DOk H d ∧ EcC K D ∧ ClsV c u ∧ PySem.W.kitOne K (.ref D) u = some b ∧ Q (.bl b) H
/-- isinstance(error, (C1, C2, ..)) -/
def rIsET (K : PySem.W.Frag) : List V → Hp → VK → Prop := fun xs H Q => ∃ (a D tp : Addr) (d : Option Addr) (cs : List V) (us : List Value) (b : Bool), xs = [.ref a, .ref tp] ∧ H a = some (ExK (.ref D) d a) ∧ DOk H d ∧ EcC K D ∧ SqT K H tp cs ∧ Paired ClsV cs us ∧ PySem.W.kitAny K (.ref D) us = some b ∧ Q (.bl b) H
section
variable {X : Cx}
theorem cr_isE : CallR X (.builtin "isinstance") (rIsE X.K) := by
  intro pins s σ H xs us Q I r h
  obtain ⟨a, D, d, c, u, b, rfl, e, hd, C, k, hk, q⟩ := h
  obtain ⟨u1, u2, rfl, r1, r2⟩ := vals2 r
  cases (show u1 = Value.ref a from r1)
  have e2 := k.eq r2
  subst e2
  obtain ⟨P, Z, p⟩ := kitE I C e hd
  exact PySem.W.kia_one Z I.kIn p hk (fun z => nomatch z) fun tk => ⟨.bl b, H, I.tok tk, rfl, q⟩
theorem cr_isET : CallR X (.builtin "isinstance") (rIsET X.K) := by
  intro pins s σ H xs us Q I r h
  obtain ⟨a, D, tp, d, cs, ws, b, rfl, e, hd, C, hT, k, hk, q⟩ := h
  obtain ⟨u1, u2, rfl, r1, r2⟩ := vals2 r
  cases (show u1 = Value.ref a from r1)
  cases (show u2 = Value.ref tp from r2)
  obtain ⟨P, Z, p⟩ := kitE I C e hd
  obtain ⟨its, rv, ⟨o, h1, h2, n, h3⟩, _⟩ := I.tuple hT
  have e3 := ClsV.all k rv
  subst e3
  obtain ⟨oc, od, dt, sl⟩ := o
  simp only at h2 h3
  subst h2 h3
  exact PySem.W.kia_tup Z I.kIn p h1 hk (fun z => nomatch z) fun tk => ⟨.bl b, H, I.tok tk, rfl, q⟩
/-- error.f -/
def tFldE (K : PySem.W.Frag) (f : Str) (te : TE) : TE := fun σ H Q => te σ H fun x H1 => ∃ (a D dd : Addr) (fs : List (Str × V)) (v : V), x = .ref a ∧ H1 a = some (ExK (.ref D) (some dd) a) ∧ H1 dd = some (.xd fs) ∧ EcC K D ∧ PySem.W.findIn K (.ref D) f = some none ∧ fs.lookup f = some v ∧ Q v H1
theorem pe_fldE {K : PySem.W.Frag} {e : Expr} {te : TE} {pos : Pos} {f : Str} (hK : X.K = K) (he : PE X e te) (hb : attributeBase e f X.env (eval e X.env) = eval e X.env) : PE X (.Attribute e f pos) (tFldE K f te) := by
  subst hK
  refine ⟨fun pins s σ H Q I h => attr_of hb (thn (he.run pins s σ H _ I h) ?_)⟩
  rintro u s1 ⟨x, H1, I1, rx, a, D, dd, fs, v, rfl, ea, ed, C, hno, l, q⟩
  obtain rfl : u = Value.ref a := rx
  obtain ⟨oe, vs, ha, hz, hv⟩ := exK_at I1.hok ea
  have nc : PySem.W.notCls oe := by unfold PySem.W.notCls; rw [hv] <;> rfl
  obtain ⟨mA, hns, hr⟩ := (show ObjOk X.prog X.w H1 s1.heap dd (.xd fs) from I1.hok dd _ ed)
  obtain ⟨od, ho, hl⟩ := lookIn_ns hns
  obtain ⟨w, hw, rw'⟩ := RelO.some_of (v := v) (o := mA f) (by rw [← l]; exact hr f)
  have J : PySem.W.InstAt s1.heap a oe D (some od) := ⟨ha, hz.1, nc, by rw [hz.2]; exact ho⟩
  exact HandSPX.exc_get I1.kIn J C.ga C.gt C.sub (PySem.W.findObj_own C.hd hno rfl (by rw [hl, hw])) (handed_of rw') ⟨v, H1, I1.tok _, rw', q⟩
/-- X(), an own class without __init__ -/
theorem pmk_own0 {C : Addr} {bmB : List Value} {B newId initId : String} {x : Str} {p pos : Pos} (F : ExcBaseFacts B newId initId bmB) (q : PySem.W.excIn X.K C bmB newId = true) (gC : X.mg x = some (.ref C)) (kC : PySem.W.keepIn X.K (.ref C) = true) (r : Raises X (.ref C)) (hg : Gl X x)
    (hdb : (x == ("__debug__" : Str)) = false := by decide) : PMk X (.Call (.Name x p) [] [] pos) (fun _ H Q => Q (.ref C) none H) := by
  intro pins s σ H Q I h
  refine wpAny_Call_Name_kw (ld_glob I hg gC (PySem.W.callWith_K0 I.kIn kC ?_) hdb)
  obtain ⟨bm, N, nm, qn, bs, hdct, sn, sub, ab, col, dd, k0, k1, k2, k3, k5, mN, hC, hN, hni, T⟩ := exc_obj I.kIn q
  exact wpAny_call_exc_subT F T hC hN hni (fun h' a hm => mk_of I hm r h (I.hok.gone hm.new)) (Nat.zero_le _)
end
/-! ### defs that let errors out -/
/-- calls that nothing leaves -/
theorem passE0 {X : Cx} : Passes (L2.CX X.prog X.w) X E0 := fun pins σ H s e s' I c => by
  obtain ⟨_, _, _, _, _, _, _, _, _, _, _, _, z⟩ := c
  exact z.elim
structure CalX (P : Program) (w : World) (K : PySem.W.Frag) (mg : Str → Option Value) (base : Heap) (x : Str) (k : Nat) (ps : List Str) (sp : Sp) : Prop where
  ex : ∃ f fd, FnOk P w K mg base (L2.CX P w) k f fd ps sp ∧ mg x = some (.ref f) ∧ PySem.W.keepIn K (.ref f) = true ∧ Binds K fd ps []
theorem FG.calX {P : Program} {w : World} {K : PySem.W.Frag} {mg : Str → Option Value} {base : Heap} {k : Nat} {x : Str} {st : Stmt} {ps : List Str} {sp : Sp} (F : FG K mg x st) (hb : BindN x x st ps)
    (h : ∀ f fd, FunD K x x (defArgs st) (defBody st) (defScope st) [] [] f fd → FnOk P w K mg base (L2.CX P w) k f fd ps sp) : CalX P w K mg base x k ps sp := by
  obtain ⟨f, fd, F, g⟩ := F.ex
  exact ⟨f, fd, h f fd F, g, F.kp, F.bindsN hb⟩
abbrev tkE (X : Cx) (E : XK) : Prop := Takes X (fun cls d _ H => E cls d H)
theorem passE {X : Cx} {E : XK} (tk : tkE X E) : Passes (L2.CX X.prog X.w) X E := passes_call tk fun _ _ _ _ h => h
section
variable {X : Cx} {x : Str} {k : Nat} {ps : List Str} {sp : Sp} {e : Expr} {es : List Expr} {t : TA} {p pos : Pos} {E : XK}
theorem pe_calX (c : CalX X.prog X.w X.K X.mg X.base x k ps sp) (hr : Room k X.A) (hx : Passes (L2.CX X.prog X.w) X E) (hg : Gl X x) (ha : PA X (e :: es) t) (hdb : (x == ("__debug__" : Str)) = false := by decide) (he : starEach (e :: es) X.env = (false, eval e X.env) :: starEach es X.env := by rfl)
    (hpl : (backTo pos (starEach es X.env)).any (·.1) = false := by rfl) : PE X (.Call (.Name x p) (e :: es) [] pos) (tCall sp [] E t) := by
  obtain ⟨f, fd, F, gm, kp, b⟩ := c.ex
  exact pe_call F hr hg gm kp b .nil hx ha hdb he hpl
end
/-- changes nothing, may let errors out -/
def spX {α β : Type} (A : α → List Ent) (pre : α → Prop) (R : Rl β) (post : α → β → Prop) (xp : α → Er → Prop) : Sp := fun vs H Q E =>
  ∃ M x, Good M H ∧ ArgsOk (hid M H) vs (A x) ∧ pre x ∧ (∀ v y H', post x y → Ex H H' → R.r (hid M H') v y → Q v H') ∧ ∀ e cls d H', xp x e → Ex H H' → e.ok (hid M H') cls d → E cls d H'
section
variable {P : Program} {w : World} {K : PySem.W.Frag} {mg : Str → Option Value} {base : Heap} {k : Nat} {x qual : Str} {params : Arguments} {body : List Stmt} {scope : Scope} {dvs : List V} {kws : List (Str × V)} {f : Addr} {fd : FuncData} {N ps : List Str}
theorem fnX {α β : Type} {A : α → List Ent} {pre : α → Prop} {R : Rl β} {post : α → β → Prop} {xp : α → Er → Prop} (F : FunD K x qual params body scope dvs kws f fd) (S : FnScope N ps scope) (hA : ∀ x, (A x).length = ps.length)
    (hd : ∀ (cdv : Value) (B : Around) (outer : List Env) (s : Shared) (H : Hp) (E : XK), Room k (B.deeper (envOfC qual scope s.heap.objs.size f cdv)) → Takes (cxOf (L2.CX P w) P w K mg base N qual scope f cdv B outer s H E) (fun cls d _ H => E cls d H) →
      ∃ t, PSs (cxOf (L2.CX P w) P w K mg base N qual scope f cdv B outer s H E) body t ∧
      ∀ x, pre x → StW (pm.wx E fun e _ => xp x e) t ((A x).map some ++ List.replicate (N.length - ps.length) none) () R { nx := fun _ _ => False, rt := fun y _ => post x y }) : FnOk P w K mg base (L2.CX P w) (k + 1) f fd ps (spX A pre R post xp) := by
  refine F.ok S (fun vs H Q E ⟨M, x, _, a, _⟩ => a.len.trans (hA x)) fun cdv A' outer s H vs Q E hr ⟨M, x, g, a, hp, q, qx⟩ => ?_
  obtain ⟨t, d, h⟩ := hd cdv A' outer s H E hr (takes_of rfl rfl rfl rfl)
  refine ⟨t, d, ?_⟩
  have hl : vs.length = ps.length := a.len.trans (hA x)
  have nch : ∀ b : Addr, ¬ (pm.wx E fun (e : Er) _ => xp x e).chg b := fun _ z => z.elim
  unfold start
  rw [hl]
  exact h x hp M _ H ⟨g, fun _ z => z.elim, trivial, fun e k H' cls d p xx _ o => qx e cls d H' p (fun b u z => xx b u (nch b) z) o⟩ (start_ok a _) _
    ⟨fun _ _ _ _ z => z.elim, fun y n v H' po e _ r => q v y H' po (fun b o z => e b o (nch b) z) r, fun _ _ _ _ z => z.elim, fun _ _ _ _ z => z.elim⟩
end
section
variable {Z : Type} {m : Md Z} {Γ : Gm} {n : Z} {α β γ : Type} {R : Rl α} {T : Rl γ} {Post : γ → Z → Prop} {K : PySem.W.Frag}
theorem w_callX {E : XK} {A : α → List Ent} {pre : α → Prop} {post : α → γ → Prop} {xp : α → Er → Prop} {t : TA} (hE : m.E = E)
    (h : ArW m t Γ n fun es n1 => ∃ x, es = A x ∧ pre x ∧ (∀ y, post x y → Post y n1) ∧ ∀ e, xp x e → m.XP e n1) : EvW m (tCall (spX A pre T post xp) [] E t) Γ n T Post := fun M σ H c e Q k =>
  h M σ H c e _ fun vs es n1 H1 p1 e1 i1 a1 => by
    obtain ⟨x, rfl, hp, hq, hx⟩ := p1
    rw [List.append_nil]
    subst hE
    exact ⟨M, x, (c.go e1 i1).good, a1, hp, fun v y H' po x' r => k v y n1 H' (hq y po) (e1.trans (.of x')) (m.kept i1 x') r,
      fun er cls d H' p x' o => c.exc er n1 H' cls d (hx er p) (e1.trans (.of x')) (m.kept i1 x') o⟩
/-- raise X(): nothing is told of it but its class -/
theorem s_raise0 {C : Addr} {E : XK} {D : Dn Z β} {S : Rl β} (hE : m.E = E) (h : m.XP ⟨C, []⟩ n) : StW m (fun _ _ H => E (.ref C) none H) Γ n S D := fun M σ H c e En k => by
  subst hE
  exact c.exc ⟨C, []⟩ n H (.ref C) none h .refl c.inv ⟨rfl, .inl ⟨rfl, rfl⟩⟩
/-! ### kinds -/
/-- any value as it is -/
def rVal : Rl V := ⟨fun _ v x => v = x, fun _ h => h⟩
/-- a class -/
def rCls : Rl Addr := ⟨fun _ v a => v = .ref a, fun _ h => h⟩
/-- a caught error -/
def rErr (e : Er) : Rl Unit := ⟨fun G v _ => ∃ a d, v = .ref a ∧ G a = some (ExK (.ref e.C) d a) ∧ e.ok G (.ref e.C) d, fun x ⟨a, d, h1, h2, h3⟩ => ⟨a, d, h1, x _ _ h2, Er.ok_mono x h3⟩⟩
theorem Er.dok {G : Hp} {cls : Value} {d : Option Addr} {e : Er} (h : e.ok G cls d) : DOk G d := h.2.elim (fun z => .inl z.2) fun ⟨dd, fs, h1, h2, _⟩ => .inr ⟨dd, fs, h1, h2⟩
theorem DOk.mono {G G' : Hp} {d : Option Addr} (x : Ex G G') (h : DOk G d) : DOk G' d := h.imp id fun ⟨dd, fs, h1, h2⟩ => ⟨dd, fs, h1, x _ _ h2⟩
theorem w_cls {a : Addr} {Post : Addr → Z → Prop} (p : Post a n) : EvW m (tC (.ref a)) Γ n rCls Post := fun M σ H c e Q k => k _ a n H p .refl c.inv rfl
theorem w_non {Post : Unit → Z → Prop} (p : Post () n) : EvW m (tC .non) Γ n rNon Post := fun M σ H c e Q k => k _ () n H p .refl c.inv rfl
theorem c_isE {e : Er} {D : Addr} {b : Bool} (C : EcC K e.C) (hk : PySem.W.kitOne K (.ref e.C) (.ref D) = some b) : CbW (rIsE K) [.mk (rErr e) (), .mk (rAt D) ()] rBl b := fun M H vs g a Q k => by
  obtain ⟨v, u, rfl, ⟨x, d, rfl, h1, h2⟩, r2⟩ := args2 a
  have r2 : u = .ref D := r2
  subst r2
  exact ⟨x, e.C, d, _, .ref D, b, rfl, hid_le _ _ h1, (Er.dok h2).mono hid_le, C, .own D, hk, k _ H (fun _ _ h => h) rfl⟩
theorem clsAl {G : Hp} : ∀ {vs : List V} {l : List Addr}, Al (fun v x => rCls.r G v x) vs l → Paired ClsV vs (l.map Value.ref)
  | _, _, .nil => .nil
  | _, _, .cons h t => .cons (by rw [show _ = V.ref _ from h]; exact .own _) (clsAl t)
theorem c_isET {e : Er} {Ds : List Addr} {b : Bool} (C : EcC K e.C) (hk : PySem.W.kitAny K (.ref e.C) (Ds.map Value.ref) = some b) : CbW (rIsET K) [.mk (rErr e) (), .mk (rTup K rCls) Ds] rBl b := fun M H vs g a Q k => by
  obtain ⟨v, u, rfl, ⟨x, d, rfl, h1, h2⟩, tp, ws, rfl, hs, hA, _⟩ := args2 a
  exact ⟨x, e.C, tp, d, ws, _, b, rfl, hid_le _ _ h1, (Er.dok h2).mono hid_le, C, ex_t hid_le hs, clsAl hA, hk, k _ H (fun _ _ h => h) rfl⟩
/-- error.f -/
theorem w_fldE {er : Er} {f : Str} {x : γ} {te : TE} (C : EcC K er.C) (hno : PySem.W.findIn K (.ref er.C) f = some none) (hf : er.fs.lookup f = some (.mk T x)) (h : EvW m te Γ n (rErr er) fun _ n1 => Post x n1) : EvW m (tFldE K f te) Γ n T Post := fun M σ H c e Q k =>
  h M σ H c e _ fun v _ n1 H1 p1 e1 i1 r1 => by
    obtain ⟨a, d, rfl, h1, h2⟩ := r1
    rcases h2.2 with ⟨z, _⟩ | ⟨dd, fs, rfl, h3, h4⟩
    · rw [z] at hf; cases hf
    · obtain ⟨u, l, r⟩ := h4 f _ hf
      exact ⟨a, er.C, dd, fs, u, rfl, hid_le _ _ h1, hid_le _ _ h3, C, hno, l, k u x n1 H1 p1 e1 i1 r⟩
/-! ### is None -/
def NotNon (R : Rl α) : Prop := ∀ {G : Hp} {v : V} {x : α}, R.r G v x → decide (v = .non) = false
theorem nn_err {e : Er} : NotNon (rErr e) := fun {G v x} ⟨a, d, h, _⟩ => by rw [h]; rfl
theorem o_isN (hR : NotNon R) : OpW rIsN R rNon rBl (fun _ _ => True) (fun _ _ => false) := fun M H v u x y gd r1 r2 _ Q k => ⟨r2, by rw [hR r1]; exact k _ H (fun _ _ h => h) rfl⟩
theorem o_notN (hR : NotNon R) : OpW rNotN R rNon rBl (fun _ _ => True) (fun _ _ => true) := fun M H v u x y gd r1 r2 _ Q k => ⟨r2, by rw [hR r1]; exact k _ H (fun _ _ h => h) rfl⟩
theorem o_isNN : OpW rIsN rNon rNon rBl (fun _ _ => True) (fun _ _ => true) := fun M H v u x y gd r1 r2 _ Q k => ⟨r2, by rw [show v = V.non from r1]; exact k _ H (fun _ _ h => h) rfl⟩
theorem o_notNN : OpW rNotN rNon rNon rBl (fun _ _ => True) (fun _ _ => false) := fun M H v u x y gd r1 r2 _ Q k => ⟨r2, by rw [show v = V.non from r1]; exact k _ H (fun _ _ h => h) rfl⟩
end
end L2.Lc
end

-- part K04Text
section
set_option Elab.async false
set_option linter.all false
set_option maxRecDepth 100000
set_option maxHeartbeats 400000
namespace K04
open PySem PySem.Spec PyProof.Rows L2 L2.Lc
def top (i : Nat) : Stmt := PySem.Challenge.pw_longchances_k04_f_whole_between_by_halvi.main.body.getD i (.Pass ⟨0, 0, 0, 0⟩)
def clsBody : Stmt → List Stmt
  | .ClassDef _ _ _ b .. => b
  | _ => []
def mth (i j : Nat) : Stmt := (clsBody (top i)).getD j (.Pass ⟨0, 0, 0, 0⟩)
abbrev s_is_integer : Stmt := top 3
theorem sc_is_integer : FnScope ["value"] ["value"] (defScope s_is_integer) := ⟨rfl, rfl, rfl, by decide +kernel, rfl, by decide +kernel, by decide +kernel⟩
abbrev s_top_of : Stmt := top 37
theorem sc_top_of : FnScope ["value"] ["value"] (defScope s_top_of) := ⟨rfl, rfl, rfl, by decide +kernel, rfl, by decide +kernel, by decide +kernel⟩
abbrev s_bottom_of : Stmt := top 38
theorem sc_bottom_of : FnScope ["value"] ["value"] (defScope s_bottom_of) := ⟨rfl, rfl, rfl, by decide +kernel, rfl, by decide +kernel, by decide +kernel⟩
abbrev s_simplest : Stmt := top 40
theorem sc_simplest : FnScope ["low", "high", "wholes", "whole", "many", "gap", "top", "bottom", "one"] ["low", "high"] (defScope s_simplest) := ⟨rfl, rfl, rfl, by decide +kernel, rfl, by decide +kernel, by decide +kernel⟩
abbrev s_between : Stmt := top 41
theorem sc_between : FnScope ["one", "other", "whole", "top", "bottom"] ["one", "other"] (defScope s_between) := ⟨rfl, rfl, rfl, by decide +kernel, rfl, by decide +kernel, by decide +kernel⟩
abbrev s_law_pen : Stmt := top 43
theorem sc_law_pen : FnScope ["script", "cell"] ["script"] (defScope s_law_pen) := ⟨rfl, rfl, rfl, by decide +kernel, rfl, by decide +kernel, by decide +kernel⟩
abbrev s_law_draw : Stmt := top 44
theorem sc_law_draw : FnScope ["pen", "many", "left", "turn", "cell", "mixed"] ["pen", "many"] (defScope s_law_draw) := ⟨rfl, rfl, rfl, by decide +kernel, rfl, by decide +kernel, by decide +kernel⟩
abbrev s_law_pick : Stmt := top 45
theorem sc_law_pick : FnScope ["pen", "some"] ["pen", "some"] (defScope s_law_pick) := ⟨rfl, rfl, rfl, by decide +kernel, rfl, by decide +kernel, by decide +kernel⟩
abbrev s_law_heard : Stmt := top 48
theorem sc_law_heard : FnScope ["ask", "caught", "found", "error"] ["ask"] (defScope s_law_heard) := ⟨rfl, rfl, rfl, by decide +kernel, rfl, by decide +kernel, by decide +kernel⟩
abbrev s_law_unlike : Stmt := top 49
theorem sc_law_unlike : FnScope ["told", "due"] ["told", "due"] (defScope s_law_unlike) := ⟨rfl, rfl, rfl, by decide +kernel, rfl, by decide +kernel, by decide +kernel⟩
abbrev s_law_shared : Stmt := top 50
theorem sc_law_shared : FnScope ["one", "other"] ["one", "other"] (defScope s_law_shared) := ⟨rfl, rfl, rfl, by decide +kernel, rfl, by decide +kernel, by decide +kernel⟩
abbrev s_law_low : Stmt := top 51
theorem sc_law_low : FnScope ["top", "bottom", "shared"] ["top", "bottom"] (defScope s_law_low) := ⟨rfl, rfl, rfl, by decide +kernel, rfl, by decide +kernel, by decide +kernel⟩
abbrev s_law_plus : Stmt := top 52
theorem sc_law_plus : FnScope ["one", "other"] ["one", "other"] (defScope s_law_plus) := ⟨rfl, rfl, rfl, by decide +kernel, rfl, by decide +kernel, by decide +kernel⟩
abbrev s_law_is_less : Stmt := top 53
theorem sc_law_is_less : FnScope ["one", "other"] ["one", "other"] (defScope s_law_is_less) := ⟨rfl, rfl, rfl, by decide +kernel, rfl, by decide +kernel, by decide +kernel⟩
abbrev s_law_ratio : Stmt := top 54
theorem sc_law_ratio : FnScope ["one"] ["one"] (defScope s_law_ratio) := ⟨rfl, rfl, rfl, by decide +kernel, rfl, by decide +kernel, by decide +kernel⟩
abbrev s_law_pair : Stmt := top 55
theorem sc_law_pair : FnScope ["told"] ["told"] (defScope s_law_pair) := ⟨rfl, rfl, rfl, by decide +kernel, rfl, by decide +kernel, by decide +kernel⟩
abbrev s_law_tried : Stmt := top 56
theorem sc_law_tried : FnScope ["one", "other", "most", "bottom", "top"] ["one", "other", "most"] (defScope s_law_tried) := ⟨rfl, rfl, rfl, by decide +kernel, rfl, by decide +kernel, by decide +kernel⟩
abbrev s_law_walked : Stmt := top 57
theorem sc_law_walked : FnScope ["one", "other", "whole", "left", "right", "turn", "middle", "gap", "step", "many"] ["one", "other"] (defScope s_law_walked) := ⟨rfl, rfl, rfl, by decide +kernel, rfl, by decide +kernel, by decide +kernel⟩
abbrev s_law : Stmt := top 58
theorem sc_law : FnScope ["script", "pen", "turn", "bottom", "one", "gap", "other", "told", "due", "small", "whole", "many", "nine", "lap"] ["script"] (defScope s_law) := ⟨rfl, rfl, rfl, by decide +kernel, rfl, by decide +kernel, by decide +kernel⟩
abbrev s_Ratio___init__ : Stmt := mth 39 0
theorem sc_Ratio___init__ : FnScope ["self", "top", "bottom", "shared"] ["self", "top", "bottom"] (defScope s_Ratio___init__) := ⟨rfl, rfl, rfl, by decide +kernel, rfl, by decide +kernel, by decide +kernel⟩
abbrev s_Ratio___add__ : Stmt := mth 39 2
theorem sc_Ratio___add__ : FnScope ["self", "other"] ["self", "other"] (defScope s_Ratio___add__) := ⟨rfl, rfl, rfl, by decide +kernel, rfl, by decide +kernel, by decide +kernel⟩
abbrev s_Ratio___sub__ : Stmt := mth 39 4
theorem sc_Ratio___sub__ : FnScope ["self", "other"] ["self", "other"] (defScope s_Ratio___sub__) := ⟨rfl, rfl, rfl, by decide +kernel, rfl, by decide +kernel, by decide +kernel⟩
abbrev s_Ratio___neg__ : Stmt := mth 39 8
theorem sc_Ratio___neg__ : FnScope ["self"] ["self"] (defScope s_Ratio___neg__) := ⟨rfl, rfl, rfl, by decide +kernel, rfl, by decide +kernel, by decide +kernel⟩
abbrev s_Ratio___eq__ : Stmt := mth 39 9
theorem sc_Ratio___eq__ : FnScope ["self", "other"] ["self", "other"] (defScope s_Ratio___eq__) := ⟨rfl, rfl, rfl, by decide +kernel, rfl, by decide +kernel, by decide +kernel⟩
abbrev s_Ratio_over : Stmt := mth 39 11
theorem sc_Ratio_over : FnScope ["self", "other"] ["self", "other"] (defScope s_Ratio_over) := ⟨rfl, rfl, rfl, by decide +kernel, rfl, by decide +kernel, by decide +kernel⟩
abbrev s_Ratio_is_below : Stmt := mth 39 12
theorem sc_Ratio_is_below : FnScope ["self", "other"] ["self", "other"] (defScope s_Ratio_is_below) := ⟨rfl, rfl, rfl, by decide +kernel, rfl, by decide +kernel, by decide +kernel⟩
abbrev s_Ratio_is_at_most : Stmt := mth 39 13
theorem sc_Ratio_is_at_most : FnScope ["self", "other"] ["self", "other"] (defScope s_Ratio_is_at_most) := ⟨rfl, rfl, rfl, by decide +kernel, rfl, by decide +kernel, by decide +kernel⟩
def fn : List He.DefD := [
  ⟨("is_integer", none), "is_integer", "is_integer", defArgs s_is_integer, defBody s_is_integer, defScope s_is_integer, [], []⟩,
  ⟨("top_of", none), "top_of", "top_of", defArgs s_top_of, defBody s_top_of, defScope s_top_of, [], []⟩,
  ⟨("bottom_of", none), "bottom_of", "bottom_of", defArgs s_bottom_of, defBody s_bottom_of, defScope s_bottom_of, [], []⟩,
  ⟨("simplest", none), "simplest", "simplest", defArgs s_simplest, defBody s_simplest, defScope s_simplest, [], []⟩,
  ⟨("between", none), "between", "between", defArgs s_between, defBody s_between, defScope s_between, [], []⟩,
  ⟨("_law_pen", none), "_law_pen", "_law_pen", defArgs s_law_pen, defBody s_law_pen, defScope s_law_pen, [], []⟩,
  ⟨("_law_draw", none), "_law_draw", "_law_draw", defArgs s_law_draw, defBody s_law_draw, defScope s_law_draw, [], []⟩,
  ⟨("_law_pick", none), "_law_pick", "_law_pick", defArgs s_law_pick, defBody s_law_pick, defScope s_law_pick, [], []⟩,
  ⟨("_law_heard", none), "_law_heard", "_law_heard", defArgs s_law_heard, defBody s_law_heard, defScope s_law_heard, [], []⟩,
  ⟨("_law_unlike", none), "_law_unlike", "_law_unlike", defArgs s_law_unlike, defBody s_law_unlike, defScope s_law_unlike, [], []⟩,
  ⟨("_law_shared", none), "_law_shared", "_law_shared", defArgs s_law_shared, defBody s_law_shared, defScope s_law_shared, [], []⟩,
  ⟨("_law_low", none), "_law_low", "_law_low", defArgs s_law_low, defBody s_law_low, defScope s_law_low, [], []⟩,
  ⟨("_law_plus", none), "_law_plus", "_law_plus", defArgs s_law_plus, defBody s_law_plus, defScope s_law_plus, [], []⟩,
  ⟨("_law_is_less", none), "_law_is_less", "_law_is_less", defArgs s_law_is_less, defBody s_law_is_less, defScope s_law_is_less, [], []⟩,
  ⟨("_law_ratio", none), "_law_ratio", "_law_ratio", defArgs s_law_ratio, defBody s_law_ratio, defScope s_law_ratio, [], []⟩,
  ⟨("_law_pair", none), "_law_pair", "_law_pair", defArgs s_law_pair, defBody s_law_pair, defScope s_law_pair, [], []⟩,
  ⟨("_law_tried", none), "_law_tried", "_law_tried", defArgs s_law_tried, defBody s_law_tried, defScope s_law_tried, [], []⟩,
  ⟨("_law_walked", none), "_law_walked", "_law_walked", defArgs s_law_walked, defBody s_law_walked, defScope s_law_walked, [], []⟩,
  ⟨("law", none), "law", "law", defArgs s_law, defBody s_law, defScope s_law, [], []⟩,
  ⟨("Ratio", some "__init__"), "__init__", "Ratio.__init__", defArgs s_Ratio___init__, defBody s_Ratio___init__, defScope s_Ratio___init__, [.int 1], []⟩,
  ⟨("Ratio", some "__add__"), "__add__", "Ratio.__add__", defArgs s_Ratio___add__, defBody s_Ratio___add__, defScope s_Ratio___add__, [], []⟩,
  ⟨("Ratio", some "__sub__"), "__sub__", "Ratio.__sub__", defArgs s_Ratio___sub__, defBody s_Ratio___sub__, defScope s_Ratio___sub__, [], []⟩,
  ⟨("Ratio", some "__neg__"), "__neg__", "Ratio.__neg__", defArgs s_Ratio___neg__, defBody s_Ratio___neg__, defScope s_Ratio___neg__, [], []⟩,
  ⟨("Ratio", some "__eq__"), "__eq__", "Ratio.__eq__", defArgs s_Ratio___eq__, defBody s_Ratio___eq__, defScope s_Ratio___eq__, [], []⟩,
  ⟨("Ratio", some "over"), "over", "Ratio.over", defArgs s_Ratio_over, defBody s_Ratio_over, defScope s_Ratio_over, [], []⟩,
  ⟨("Ratio", some "is_below"), "is_below", "Ratio.is_below", defArgs s_Ratio_is_below, defBody s_Ratio_is_below, defScope s_Ratio_is_below, [], []⟩,
  ⟨("Ratio", some "is_at_most"), "is_at_most", "Ratio.is_at_most", defArgs s_Ratio_is_at_most, defBody s_Ratio_is_at_most, defScope s_Ratio_is_at_most, [], []⟩]
def fa : List He.Fa := [.glo "is_integer", .glo "top_of", .glo "bottom_of", .glo "simplest", .glo "between", .glo "_law_pen", .glo "_law_draw", .glo "_law_pick", .glo "_law_heard", .glo "_law_unlike", .glo "_law_shared", .glo "_law_low", .glo "_law_plus", .glo "_law_is_less", .glo "_law_ratio", .glo "_law_pair", .glo "_law_tried", .glo "_law_walked", .glo "law", .free "len", .free "abs", .free "int", .free "tuple", .free "list", .free "isinstance", .free "bool", .free "repr", .free "range", .glo "Ratio", .cls "Ratio", .noat "Ratio" "top", .noat "Ratio" "bottom", .meth "Ratio" "__init__", .meth "Ratio" "__add__", .meth "Ratio" "__sub__", .meth "Ratio" "__neg__", .meth "Ratio" "__eq__", .meth "Ratio" "over", .meth "Ratio" "is_below", .meth "Ratio" "is_at_most", .mkr "Ratio", .glo "OddsError", .glo "BadText", .glo "TooMany", .glo "BadAct", .glo "BadCondition", .glo "BadWalk", .glo "BadCommand", .glo "Nothing", .glo "NoCore"]
end K04
end

-- part K04Tx
section
set_option Elab.async false
set_option linter.all false
set_option maxRecDepth 100000
set_option maxHeartbeats 400000
namespace K04
open PySem PySem.Spec PyProof.Rows L2 L2.Lc
abbrev C0 (K : PySem.W.Frag) : Addr := He.ga K "Ratio"
def isRef : Option (Option Value) → Bool
  | some (some (.ref _)) => true
  | _ => false
def isSome : Option (Option Value) → Bool
  | some _ => true
  | _ => false
theorem isRef_ok {o : Option (Option Value)} (h : isRef o = true) : ∃ g : Addr, o = some (some (.ref g)) := by
  unfold isRef at h
  split at h
  · exact ⟨_, rfl⟩
  · cases h
theorem isSome_ok {o : Option (Option Value)} (h : isSome o = true) : ∃ g, o = some g := by
  unfold isSome at h
  split at h
  · exact ⟨_, rfl⟩
  · cases h
theorem fg_of {K : PySem.W.Frag} {h : Heap} {mg : Str → Option Value} (X : K.In h) (G : h.Ns mainGlobals mg) {x : Str} {st : Stmt} (c : (He.Fa.glo x).ok K = true) (d : ∃ fd, FunD K x x (defArgs st) (defBody st) (defScope st) [] [] (He.ga K x) fd) : FG K mg x st := by
  obtain ⟨fd, F⟩ := d
  exact ⟨_, fd, F, He.glo_ok X G c⟩
theorem fm_of {K : PySem.W.Frag} {x m qual : Str} {st : Stmt} {dvs : List V} (c : (He.Fa.meth x m).ok K = true) (d : ∃ fd, FunD K m qual (defArgs st) (defBody st) (defScope st) dvs [] (He.ma K (He.ga K x) m) fd) : FM K (He.ga K x) m qual st dvs := by
  obtain ⟨fd, F⟩ := d
  have M := He.meth_ok c
  exact ⟨_, fd, F, M.at_, M.fn⟩
def exs (K : PySem.W.Frag) : List Bool := [
  He.eqO (PySem.W.nsIn K mainGlobals "gcd") (some (some (.builtin "math.gcd"))),
  PySem.W.selfFirst K (C0 K),
  He.eqO (PySem.W.findIn K (.ref (C0 K)) "__ne__") (some (some (.builtin "object.__ne__"))),
  decide (PySem.W.subIn K (.ref (C0 K)) (.type "object") = some true),
  decide (PySem.W.subIn K (.type "int") (.ref (C0 K)) = some false),
  isRef (PySem.W.findIn K (.ref (C0 K)) "__radd__"),
  isRef (PySem.W.findIn K (.ref (C0 K)) "__rsub__"),
  isSome (PySem.W.findIn K (.type "int") "__add__"),
  isSome (PySem.W.findIn K (.type "int") "__radd__"),
  isSome (PySem.W.findIn K (.type "int") "__sub__"),
  isSome (PySem.W.findIn K (.type "int") "__rsub__"),
  decide (PySem.W.kitOne K (.ref (C0 K)) (.ref (C0 K)) = some true),
  decide (PySem.W.kitOne K (.type "int") (.ref (C0 K)) = some false),
  decide (PySem.W.kitOne K (.type "int") (.type "int") = some true),
  decide (PySem.W.kitOne K (.type "int") (.type "bool") = some false),
  ecI K (C0 K),
  PySem.W.excIn K (He.ga K "Nothing") He.veBase "ValueError.__new__",
  PySem.W.keepIn K (.ref (He.ga K "Nothing")),
  decide (PySem.W.subIn K (.ref (He.ga K "Nothing")) (.type "BaseException") = some true),
  decide (PySem.W.typeIn K (.ref (He.ga K "Nothing")) = some (.type "type")),
  ecB K (He.ga K "Nothing"),
  decide (PySem.W.exmOne K (.ref (He.ga K "Nothing")) (.ref (He.ga K "OddsError")) = some true),
  decide (PySem.W.kitAny K (.ref (He.ga K "Nothing")) [.ref (He.ga K "BadText"), .ref (He.ga K "TooMany")] = some false),
  decide (PySem.W.kitAny K (.ref (He.ga K "Nothing")) [.ref (He.ga K "BadAct"), .ref (He.ga K "BadCondition"), .ref (He.ga K "BadWalk")] = some false),
  decide (PySem.W.kitAny K (.ref (He.ga K "Nothing")) [.ref (He.ga K "Nothing"), .ref (He.ga K "NoCore")] = some true),
  decide (PySem.W.kitOne K (.ref (He.ga K "Nothing")) (.ref (He.ga K "BadCommand")) = some false),
  decide (PySem.W.kitOne K (.ref (He.ga K "Nothing")) (.ref (He.ga K "Nothing")) = some true)]
def ex (K : PySem.W.Frag) : Bool := (exs K).all id
def tf : List He.Defn := [("law", none)]
theorem ex_at {K : PySem.W.Frag} (h : ex K = true) {b : Bool} (m : b ∈ exs K) : b = true := List.all_eq_true.mp h b m
structure Tx (K : PySem.W.Frag) (mg : Str → Option Value) (C : Addr) : Prop where
  d_is_integer : FG K mg "is_integer" s_is_integer
  d_top_of : FG K mg "top_of" s_top_of
  d_bottom_of : FG K mg "bottom_of" s_bottom_of
  d_simplest : FG K mg "simplest" s_simplest
  d_between : FG K mg "between" s_between
  d_law_pen : FG K mg "_law_pen" s_law_pen
  d_law_draw : FG K mg "_law_draw" s_law_draw
  d_law_pick : FG K mg "_law_pick" s_law_pick
  d_law_heard : FG K mg "_law_heard" s_law_heard
  d_law_unlike : FG K mg "_law_unlike" s_law_unlike
  d_law_shared : FG K mg "_law_shared" s_law_shared
  d_law_low : FG K mg "_law_low" s_law_low
  d_law_plus : FG K mg "_law_plus" s_law_plus
  d_law_is_less : FG K mg "_law_is_less" s_law_is_less
  d_law_ratio : FG K mg "_law_ratio" s_law_ratio
  d_law_pair : FG K mg "_law_pair" s_law_pair
  d_law_tried : FG K mg "_law_tried" s_law_tried
  d_law_walked : FG K mg "_law_walked" s_law_walked
  d_law : FG K mg "law" s_law
  m_init : FM K C "__init__" "Ratio.__init__" s_Ratio___init__ [.int 1]
  m_add : FM K C "__add__" "Ratio.__add__" s_Ratio___add__ []
  m_sub : FM K C "__sub__" "Ratio.__sub__" s_Ratio___sub__ []
  m_neg : FM K C "__neg__" "Ratio.__neg__" s_Ratio___neg__ []
  m_eq : FM K C "__eq__" "Ratio.__eq__" s_Ratio___eq__ []
  m_over : FM K C "over" "Ratio.over" s_Ratio_over []
  m_is_below : FM K C "is_below" "Ratio.is_below" s_Ratio_is_below []
  m_is_at_most : FM K C "is_at_most" "Ratio.is_at_most" s_Ratio_is_at_most []
  f_len : mg "len" = none
  f_abs : mg "abs" = none
  f_int : mg "int" = none
  f_tuple : mg "tuple" = none
  f_list : mg "list" = none
  f_isinstance : mg "isinstance" = none
  f_bool : mg "bool" = none
  f_repr : mg "repr" = none
  f_range : mg "range" = none
  g_OddsError : mg "OddsError" = some (.ref (He.ga K "OddsError"))
  g_BadText : mg "BadText" = some (.ref (He.ga K "BadText"))
  g_TooMany : mg "TooMany" = some (.ref (He.ga K "TooMany"))
  g_BadAct : mg "BadAct" = some (.ref (He.ga K "BadAct"))
  g_BadCondition : mg "BadCondition" = some (.ref (He.ga K "BadCondition"))
  g_BadWalk : mg "BadWalk" = some (.ref (He.ga K "BadWalk"))
  g_BadCommand : mg "BadCommand" = some (.ref (He.ga K "BadCommand"))
  g_Nothing : mg "Nothing" = some (.ref (He.ga K "Nothing"))
  g_NoCore : mg "NoCore" = some (.ref (He.ga K "NoCore"))
  g_Ratio : mg "Ratio" = some (.ref C)
  cls : Cls K C
  no_top : NoAttr K C "top"
  no_bottom : NoAttr K C "bottom"
  makes : PySem.W.makesIn K C = true
  kpC : PySem.W.keepIn K (.ref C) = true
  g_gcd : mg "gcd" = some (.builtin "math.gcd")
  first : PySem.W.selfFirst K C = true
  ne : (PySem.W.findIn K (.ref C) "__ne__") = some (some (.builtin "object.__ne__"))
  obj : PySem.W.subIn K (.ref C) (.type "object") = some true
  int_sub : PySem.W.subIn K (.type "int") (.ref C) = some false
  radd : ∃ g : Addr, PySem.W.findIn K (.ref C) "__radd__" = some (some (.ref g))
  rsub : ∃ g : Addr, PySem.W.findIn K (.ref C) "__rsub__" = some (some (.ref g))
  ii_add : ∃ o, PySem.W.findIn K (.type "int") "__add__" = some o
  ii_radd : ∃ o, PySem.W.findIn K (.type "int") "__radd__" = some o
  ii_sub : ∃ o, PySem.W.findIn K (.type "int") "__sub__" = some o
  ii_rsub : ∃ o, PySem.W.findIn K (.type "int") "__rsub__" = some o
  kitCC : PySem.W.kitOne K (.ref C) (.ref C) = some true
  kitIC : PySem.W.kitOne K (.type "int") (.ref C) = some false
  kitII : PySem.W.kitOne K (.type "int") (.type "int") = some true
  kitIB : PySem.W.kitOne K (.type "int") (.type "bool") = some false
  isi : IsiC K C
  xN : PySem.W.excIn K (He.ga K "Nothing") He.veBase "ValueError.__new__" = true
  kpN : PySem.W.keepIn K (.ref (He.ga K "Nothing")) = true
  bsN : PySem.W.subIn K (.ref (He.ga K "Nothing")) (.type "BaseException") = some true
  tyN : PySem.W.typeIn K (.ref (He.ga K "Nothing")) = some (.type "type")
  ecN : EcC K (He.ga K "Nothing")
  exmN : PySem.W.exmOne K (.ref (He.ga K "Nothing")) (.ref (He.ga K "OddsError")) = some true
  kN1 : PySem.W.kitAny K (.ref (He.ga K "Nothing")) [.ref (He.ga K "BadText"), .ref (He.ga K "TooMany")] = some false
  kN2 : PySem.W.kitAny K (.ref (He.ga K "Nothing")) [.ref (He.ga K "BadAct"), .ref (He.ga K "BadCondition"), .ref (He.ga K "BadWalk")] = some false
  kN4 : PySem.W.kitAny K (.ref (He.ga K "Nothing")) [.ref (He.ga K "Nothing"), .ref (He.ga K "NoCore")] = some true
  kN3 : PySem.W.kitOne K (.ref (He.ga K "Nothing")) (.ref (He.ga K "BadCommand")) = some false
  kN5 : PySem.W.kitOne K (.ref (He.ga K "Nothing")) (.ref (He.ga K "Nothing")) = some true
theorem tx {w : World} {K : PySem.W.Frag} {h h2 : Heap} {mg : Str → Option Value} (X : K.In h) (G : h.Ns mainGlobals mg) (c : He.SaysX fa fn [] tf ex w h2 K) : Tx K mg (C0 K) := by
  have e := c.more
  have d := c.t.d
  exact ⟨fg_of X G (d.fact 0 (f := .glo "is_integer") rfl) (d.def_ 0 rfl),
    fg_of X G (d.fact 1 (f := .glo "top_of") rfl) (d.def_ 1 rfl),
    fg_of X G (d.fact 2 (f := .glo "bottom_of") rfl) (d.def_ 2 rfl),
    fg_of X G (d.fact 3 (f := .glo "simplest") rfl) (d.def_ 3 rfl),
    fg_of X G (d.fact 4 (f := .glo "between") rfl) (d.def_ 4 rfl),
    fg_of X G (d.fact 5 (f := .glo "_law_pen") rfl) (d.def_ 5 rfl),
    fg_of X G (d.fact 6 (f := .glo "_law_draw") rfl) (d.def_ 6 rfl),
    fg_of X G (d.fact 7 (f := .glo "_law_pick") rfl) (d.def_ 7 rfl),
    fg_of X G (d.fact 8 (f := .glo "_law_heard") rfl) (d.def_ 8 rfl),
    fg_of X G (d.fact 9 (f := .glo "_law_unlike") rfl) (d.def_ 9 rfl),
    fg_of X G (d.fact 10 (f := .glo "_law_shared") rfl) (d.def_ 10 rfl),
    fg_of X G (d.fact 11 (f := .glo "_law_low") rfl) (d.def_ 11 rfl),
    fg_of X G (d.fact 12 (f := .glo "_law_plus") rfl) (d.def_ 12 rfl),
    fg_of X G (d.fact 13 (f := .glo "_law_is_less") rfl) (d.def_ 13 rfl),
    fg_of X G (d.fact 14 (f := .glo "_law_ratio") rfl) (d.def_ 14 rfl),
    fg_of X G (d.fact 15 (f := .glo "_law_pair") rfl) (d.def_ 15 rfl),
    fg_of X G (d.fact 16 (f := .glo "_law_tried") rfl) (d.def_ 16 rfl),
    fg_of X G (d.fact 17 (f := .glo "_law_walked") rfl) (d.def_ 17 rfl),
    fg_of X G (d.fact 18 (f := .glo "law") rfl) (d.def_ 18 rfl),
    fm_of (d.fact 32 (f := .meth "Ratio" "__init__") rfl) (d.def_ 19 rfl),
    fm_of (d.fact 33 (f := .meth "Ratio" "__add__") rfl) (d.def_ 20 rfl),
    fm_of (d.fact 34 (f := .meth "Ratio" "__sub__") rfl) (d.def_ 21 rfl),
    fm_of (d.fact 35 (f := .meth "Ratio" "__neg__") rfl) (d.def_ 22 rfl),
    fm_of (d.fact 36 (f := .meth "Ratio" "__eq__") rfl) (d.def_ 23 rfl),
    fm_of (d.fact 37 (f := .meth "Ratio" "over") rfl) (d.def_ 24 rfl),
    fm_of (d.fact 38 (f := .meth "Ratio" "is_below") rfl) (d.def_ 25 rfl),
    fm_of (d.fact 39 (f := .meth "Ratio" "is_at_most") rfl) (d.def_ 26 rfl),
    He.free_ok X G (d.fact 19 (f := .free "len") rfl),
    He.free_ok X G (d.fact 20 (f := .free "abs") rfl),
    He.free_ok X G (d.fact 21 (f := .free "int") rfl),
    He.free_ok X G (d.fact 22 (f := .free "tuple") rfl),
    He.free_ok X G (d.fact 23 (f := .free "list") rfl),
    He.free_ok X G (d.fact 24 (f := .free "isinstance") rfl),
    He.free_ok X G (d.fact 25 (f := .free "bool") rfl),
    He.free_ok X G (d.fact 26 (f := .free "repr") rfl),
    He.free_ok X G (d.fact 27 (f := .free "range") rfl),
    He.glo_ok X G (d.fact 41 (f := .glo "OddsError") rfl),
    He.glo_ok X G (d.fact 42 (f := .glo "BadText") rfl),
    He.glo_ok X G (d.fact 43 (f := .glo "TooMany") rfl),
    He.glo_ok X G (d.fact 44 (f := .glo "BadAct") rfl),
    He.glo_ok X G (d.fact 45 (f := .glo "BadCondition") rfl),
    He.glo_ok X G (d.fact 46 (f := .glo "BadWalk") rfl),
    He.glo_ok X G (d.fact 47 (f := .glo "BadCommand") rfl),
    He.glo_ok X G (d.fact 48 (f := .glo "Nothing") rfl),
    He.glo_ok X G (d.fact 49 (f := .glo "NoCore") rfl),
    He.glo_ok X G (d.fact 28 (f := .glo "Ratio") rfl),
    He.cls_ok (d.fact 29 (f := .cls "Ratio") rfl),
    He.noat_ok (d.fact 30 (f := .noat "Ratio" "top") rfl),
    He.noat_ok (d.fact 31 (f := .noat "Ratio" "bottom") rfl),
    (He.mkr_ok (d.fact 40 (f := .mkr "Ratio") rfl)).makes,
    (He.mkr_ok (d.fact 40 (f := .mkr "Ratio") rfl)).kp,
    (by have z := ex_at e (b := He.eqO (PySem.W.nsIn K mainGlobals "gcd") (some (some (.builtin "math.gcd")))) (List.mem_iff_getElem?.mpr ⟨0, rfl⟩); exact PySem.W.mg_of X G (He.eqO_ok z)),
    (by have z := ex_at e (b := PySem.W.selfFirst K (C0 K)) (List.mem_iff_getElem?.mpr ⟨1, rfl⟩); exact z),
    (by have z := ex_at e (b := He.eqO (PySem.W.findIn K (.ref (C0 K)) "__ne__") (some (some (.builtin "object.__ne__")))) (List.mem_iff_getElem?.mpr ⟨2, rfl⟩); exact He.eqO_ok z),
    (by have z := ex_at e (b := decide (PySem.W.subIn K (.ref (C0 K)) (.type "object") = some true)) (List.mem_iff_getElem?.mpr ⟨3, rfl⟩); exact of_decide_eq_true z),
    (by have z := ex_at e (b := decide (PySem.W.subIn K (.type "int") (.ref (C0 K)) = some false)) (List.mem_iff_getElem?.mpr ⟨4, rfl⟩); exact of_decide_eq_true z),
    (by have z := ex_at e (b := isRef (PySem.W.findIn K (.ref (C0 K)) "__radd__")) (List.mem_iff_getElem?.mpr ⟨5, rfl⟩); exact isRef_ok z),
    (by have z := ex_at e (b := isRef (PySem.W.findIn K (.ref (C0 K)) "__rsub__")) (List.mem_iff_getElem?.mpr ⟨6, rfl⟩); exact isRef_ok z),
    (by have z := ex_at e (b := isSome (PySem.W.findIn K (.type "int") "__add__")) (List.mem_iff_getElem?.mpr ⟨7, rfl⟩); exact isSome_ok z),
    (by have z := ex_at e (b := isSome (PySem.W.findIn K (.type "int") "__radd__")) (List.mem_iff_getElem?.mpr ⟨8, rfl⟩); exact isSome_ok z),
    (by have z := ex_at e (b := isSome (PySem.W.findIn K (.type "int") "__sub__")) (List.mem_iff_getElem?.mpr ⟨9, rfl⟩); exact isSome_ok z),
    (by have z := ex_at e (b := isSome (PySem.W.findIn K (.type "int") "__rsub__")) (List.mem_iff_getElem?.mpr ⟨10, rfl⟩); exact isSome_ok z),
    (by have z := ex_at e (b := decide (PySem.W.kitOne K (.ref (C0 K)) (.ref (C0 K)) = some true)) (List.mem_iff_getElem?.mpr ⟨11, rfl⟩); exact of_decide_eq_true z),
    (by have z := ex_at e (b := decide (PySem.W.kitOne K (.type "int") (.ref (C0 K)) = some false)) (List.mem_iff_getElem?.mpr ⟨12, rfl⟩); exact of_decide_eq_true z),
    (by have z := ex_at e (b := decide (PySem.W.kitOne K (.type "int") (.type "int") = some true)) (List.mem_iff_getElem?.mpr ⟨13, rfl⟩); exact of_decide_eq_true z),
    (by have z := ex_at e (b := decide (PySem.W.kitOne K (.type "int") (.type "bool") = some false)) (List.mem_iff_getElem?.mpr ⟨14, rfl⟩); exact of_decide_eq_true z),
    (by have z := ex_at e (b := ecI K (C0 K)) (List.mem_iff_getElem?.mpr ⟨15, rfl⟩); exact ⟨He.cls_ok (d.fact 29 (f := .cls "Ratio") rfl), (ecI_ok z).1, (ecI_ok z).2.1, (ecI_ok z).2.2.1, (ecI_ok z).2.2.2⟩),
    (by have z := ex_at e (b := PySem.W.excIn K (He.ga K "Nothing") He.veBase "ValueError.__new__") (List.mem_iff_getElem?.mpr ⟨16, rfl⟩); exact z),
    (by have z := ex_at e (b := PySem.W.keepIn K (.ref (He.ga K "Nothing"))) (List.mem_iff_getElem?.mpr ⟨17, rfl⟩); exact z),
    (by have z := ex_at e (b := decide (PySem.W.subIn K (.ref (He.ga K "Nothing")) (.type "BaseException") = some true)) (List.mem_iff_getElem?.mpr ⟨18, rfl⟩); exact of_decide_eq_true z),
    (by have z := ex_at e (b := decide (PySem.W.typeIn K (.ref (He.ga K "Nothing")) = some (.type "type"))) (List.mem_iff_getElem?.mpr ⟨19, rfl⟩); exact of_decide_eq_true z),
    (by have z := ex_at e (b := ecB K (He.ga K "Nothing")) (List.mem_iff_getElem?.mpr ⟨20, rfl⟩); exact ecB_ok z),
    (by have z := ex_at e (b := decide (PySem.W.exmOne K (.ref (He.ga K "Nothing")) (.ref (He.ga K "OddsError")) = some true)) (List.mem_iff_getElem?.mpr ⟨21, rfl⟩); exact of_decide_eq_true z),
    (by have z := ex_at e (b := decide (PySem.W.kitAny K (.ref (He.ga K "Nothing")) [.ref (He.ga K "BadText"), .ref (He.ga K "TooMany")] = some false)) (List.mem_iff_getElem?.mpr ⟨22, rfl⟩); exact of_decide_eq_true z),
    (by have z := ex_at e (b := decide (PySem.W.kitAny K (.ref (He.ga K "Nothing")) [.ref (He.ga K "BadAct"), .ref (He.ga K "BadCondition"), .ref (He.ga K "BadWalk")] = some false)) (List.mem_iff_getElem?.mpr ⟨23, rfl⟩); exact of_decide_eq_true z),
    (by have z := ex_at e (b := decide (PySem.W.kitAny K (.ref (He.ga K "Nothing")) [.ref (He.ga K "Nothing"), .ref (He.ga K "NoCore")] = some true)) (List.mem_iff_getElem?.mpr ⟨24, rfl⟩); exact of_decide_eq_true z),
    (by have z := ex_at e (b := decide (PySem.W.kitOne K (.ref (He.ga K "Nothing")) (.ref (He.ga K "BadCommand")) = some false)) (List.mem_iff_getElem?.mpr ⟨25, rfl⟩); exact of_decide_eq_true z),
    (by have z := ex_at e (b := decide (PySem.W.kitOne K (.ref (He.ga K "Nothing")) (.ref (He.ga K "Nothing")) = some true)) (List.mem_iff_getElem?.mpr ⟨26, rfl⟩); exact of_decide_eq_true z)⟩
end K04
end

-- part K04Head
section
set_option Elab.async false
set_option linter.all false
set_option maxRecDepth 100000
set_option maxHeartbeats 0
namespace K04
open PySem PySem.Spec PyProof.Rows L2 L2.Lc
abbrev Rw : PySem.W.OpenRow := PySem.W.OpenLaw.row PySem.Challenge.rw_longchances_k04_f_whole_between_by_halvi
abbrev hk : PySem.W.Hook := He.hookX 4 fa fn [] tf ex
def ob (s : PySem.W.SharedT) : He.AlX := He.obsX 4 fa fn [] tf ex (HandSHeadRun.getT s)
theorem ob_eq (s : PySem.W.SharedT) : ob s = hk.obs s.abs := He.obsX_eq (HandSHeadRun.getT_eq s)
def loose : List PySem.Str := (["_wall", "is_integer", "OddsError", "BadName", "BadNumber", "BadRatio", "BadHouse", "BadAct", "BadSteps", "BadEvent", "BadForm", "BadProgram", "BadCondition", "BadPast", "BadSaying", "BadKind", "BadGoal", "BadWeights", "BadSystem", "BadWalk"] : List PySem.Str) ++ (["BadPlay", "BadPlan", "BadPage", "BadText", "BadCommand", "NoState", "NoAct", "NoStep", "NoMeasure", "NoEvent", "NoCore", "Nothing", "TooMany", "top_of", "bottom_of", "Ratio", "simplest", "between", "_law_pen", "_law_draw"] : List PySem.Str) ++ (["_law_pick", "_law_parts_kind", "_law_values_kind", "_law_heard", "_law_unlike", "_law_shared", "_law_low", "_law_plus", "_law_is_less", "_law_ratio", "_law_pair", "_law_tried", "_law_walked", "__name__"] : List PySem.Str)
abbrev Vw : Program := PySem.W.view Rw.prog [0, 58]
theorem runF (w : World) : (HandSHeadRun.wholeF (fun p => HandSHeadRun.stepQ (HandSHeadRun.denQ HandSHeadRun.tabQ) p w) HandSHeadRun.fenceQ 30000 Rw.prog).map (fun x => (HandSHeadRun.looksF Rw.prog x.1.heap x.2.abs, HandSHeadRun.seenQ Vw loose (importedModules Rw.prog.main.body) (fun s => PySem.W.xlAt Vw [] s && PySem.W.recOk Rw.toRowW.records s) x.2.abs)) = some (true, PySem.W.openGood Vw loose) := by kernel_rfl
theorem runO (w : World) : (HandSHeadRun.wholeF (fun p => HandSHeadRun.stepQ (HandSHeadRun.denQ HandSHeadRun.tabQ) p w) HandSHeadRun.fenceQ 30000 Rw.prog).map (fun x => ob x.2) = some (hk.val w) := by kernel_rfl
theorem run (w : World) : HandSHeadRun.RunEqI Rw Vw hk ob 30000 loose w := by
  have h1 := runF w
  have h2 := runO w
  unfold HandSHeadRun.RunEqI
  cases e : (HandSHeadRun.wholeF (fun p => HandSHeadRun.stepQ (HandSHeadRun.denQ HandSHeadRun.tabQ) p w) HandSHeadRun.fenceQ 30000 Rw.prog) with
  | none => rw [e] at h1; cases h1
  | some x =>
    rw [e] at h1 h2
    have h1 := Option.some.inj h1
    have h2 := Option.some.inj h2
    exact congrArg some (Prod.ext (congrArg (fun z => z.1) h1) (Prod.ext (congrArg (fun z => z.2) h1) h2))
end K04
end

-- part K04A
section
set_option Elab.async false
set_option linter.all false
set_option maxRecDepth 100000
set_option maxHeartbeats 400000
namespace K04
open PySem PySem.Spec PyProof.Rows L2 L2.Lc
section
variable {P : Program} {w : World} {K : PySem.W.Frag} {mg : Str → Option Value} {base : Heap} {C : Addr}
/-- a Ratio is a fraction -/
def rRat (C : Addr) : Rl Rat := rIns C fun q => [("top", .mk rInt q.num), ("bottom", .mk rInt (q.den : Int))]
abbrev A1 {α : Type} (R : Rl α) : α → List Ent := fun x => [.mk R x]
abbrev A2 {α β : Type} (R : Rl α) (S : Rl β) : α × β → List Ent := fun p => [.mk R p.1, .mk S p.2]
abbrev spIsInt : Sp := spP (A1 rInt) (fun _ => True) rBl fun _ b => b = true
theorem c_is_integer (T : Tx K mg C) : Cal P w K mg base "is_integer" 1 ["value"] spIsInt :=
  T.d_is_integer.cal (fun _ _ _ _ _ _ us hl => match us, hl with | [_], _ => rfl) fun f fd F => fnP F sc_is_integer (fun _ => rfl) fun cdv A outer s H E hr => ⟨_, (pss_one (ps_ret (pe_and (pe_callB (r := rIsi K) call_isi (by rfl) T.f_isinstance boot_isinstance (pa_cons (pv 0) (pa_cons (pe_bltn (v := .ty "int") rfl T.f_int boot_int rfl) pa_nil))) (pe_one (pe_not (pe_callB (r := rIsi K) call_isi (by rfl) T.f_isinstance boot_isinstance (pa_cons (pv 0) (pa_cons (pe_bltn (v := .ty "bool") rfl T.f_bool boot_bool rfl) pa_nil)))))))),
    fun x _ => by
      refine s_ret (w_andV (w_cb (a_cons (w_var rfl (a_cons (w_ty (a_nil ⟨true, c_isiT ty_int T.kitII, fun _ => ?_, fun z => by cases z⟩)))))))
      exact w_notV (w_cb (a_cons (w_var rfl (a_cons (w_ty (a_nil ⟨false, c_isiT ty_int T.kitIB, rfl⟩))))))⟩

abbrev spBotR (C : Addr) : Sp := spP (A1 (rRat C)) (fun _ => True) rInt fun q b => b = (q.den : Int)
theorem c_bottom_ofR (T : Tx K mg C) : Cal P w K mg base "bottom_of" 1 ["value"] (spBotR C) :=
  T.d_bottom_of.cal (fun _ _ _ _ _ _ us hl => match us, hl with | [_], _ => rfl) fun f fd F => fnP F sc_bottom_of (fun _ => rfl) fun cdv A outer s H E hr => ⟨_, (pss_one (ps_ret (pe_ifExp (pt_val (pe_callB (r := rIsi K) call_isi (by rfl) T.f_isinstance boot_isinstance (pa_cons (pv 0) (pa_cons (pe_glob (v := .ref C) rfl T.g_Ratio rfl) pa_nil)))) (kfld (K := K) rfl (pv 0) rfl) pe_int))),
    fun x _ => by
      refine s_ret (w_if (t_B (w_cb (a_cons (w_var rfl (a_cons (w_at (a_nil ⟨true, c_isiC (ty_ins T.isi) T.kitCC, fun _ => ?_, fun z => by cases z⟩))))))))
      exact w_fld T.cls T.no_bottom (w_var rfl ⟨_, rfl, rfl⟩)⟩
abbrev spBotI : Sp := spP (A1 rInt) (fun _ => True) rInt fun _ b => b = 1
theorem c_bottom_ofI (T : Tx K mg C) : Cal P w K mg base "bottom_of" 1 ["value"] spBotI :=
  T.d_bottom_of.cal (fun _ _ _ _ _ _ us hl => match us, hl with | [_], _ => rfl) fun f fd F => fnP F sc_bottom_of (fun _ => rfl) fun cdv A outer s H E hr => ⟨_, (pss_one (ps_ret (pe_ifExp (pt_val (pe_callB (r := rIsi K) call_isi (by rfl) T.f_isinstance boot_isinstance (pa_cons (pv 0) (pa_cons (pe_glob (v := .ref C) rfl T.g_Ratio rfl) pa_nil)))) (kfld (K := K) rfl (pv 0) rfl) pe_int))),
    fun x _ => by
      refine s_ret (w_if (t_B (w_cb (a_cons (w_var rfl (a_cons (w_at (a_nil ⟨false, c_isiC ty_int T.kitIC, (fun z => by cases z), fun _ => ?_⟩))))))))
      exact w_int rfl⟩
abbrev spTopR (C : Addr) : Sp := spP (A1 (rRat C)) (fun _ => True) rInt fun q b => b = q.num
theorem c_top_ofR (T : Tx K mg C) : Cal P w K mg base "top_of" 2 ["value"] (spTopR C) :=
  T.d_top_of.cal (fun _ _ _ _ _ _ us hl => match us, hl with | [_], _ => rfl) fun f fd F => fnP F sc_top_of (fun _ => rfl) fun cdv A outer s H E hr => ⟨_, (pss_cons (ps_if (pt_val (pe_callB (r := rIsi K) call_isi (by rfl) T.f_isinstance boot_isinstance (pa_cons (pv 0) (pa_cons (pe_glob (v := .ref C) rfl T.g_Ratio rfl) pa_nil)))) (pss_one (ps_ret (kfld (K := K) rfl (pv 0) rfl))) pss_nil)
  (pss_cons (ps_if (pt_not (pt_val (pe_cal (c_is_integer T) (hr.mono (by decide)) rfl (pa_cons (pv 0) pa_nil)))) pss_never pss_nil)
  (pss_one (ps_ret (pv 0))))),
    fun x _ => by
      refine s_seq (s_if (t_B (w_cb (a_cons (w_var rfl (a_cons (w_at (a_nil ⟨true, c_isiC (ty_ins T.isi) T.kitCC, fun _ => ?_, fun z => by cases z⟩))))))))
      exact s_ret (w_fld T.cls T.no_top (w_var rfl ⟨_, rfl, rfl⟩))⟩
abbrev spTopI : Sp := spP (A1 rInt) (fun _ => True) rInt fun i b => b = i
theorem c_top_ofI (T : Tx K mg C) : Cal P w K mg base "top_of" 2 ["value"] spTopI :=
  T.d_top_of.cal (fun _ _ _ _ _ _ us hl => match us, hl with | [_], _ => rfl) fun f fd F => fnP F sc_top_of (fun _ => rfl) fun cdv A outer s H E hr => ⟨_, (pss_cons (ps_if (pt_val (pe_callB (r := rIsi K) call_isi (by rfl) T.f_isinstance boot_isinstance (pa_cons (pv 0) (pa_cons (pe_glob (v := .ref C) rfl T.g_Ratio rfl) pa_nil)))) (pss_one (ps_ret (kfld (K := K) rfl (pv 0) rfl))) pss_nil)
  (pss_cons (ps_if (pt_not (pt_val (pe_cal (c_is_integer T) (hr.mono (by decide)) rfl (pa_cons (pv 0) pa_nil)))) pss_never pss_nil)
  (pss_one (ps_ret (pv 0))))),
    fun x _ => by
      refine s_seq (s_if (t_B (w_cb (a_cons (w_var rfl (a_cons (w_at (a_nil ⟨false, c_isiC ty_int T.kitIC, (fun z => by cases z), fun _ => s_next ?_⟩))))))))
      refine s_seq (s_if (t_not (t_B (w_callP (a_cons (w_var rfl (a_nil ⟨x, rfl, trivial, fun y hy => ⟨fun z => ?_, fun _ => s_next ?_⟩⟩)))))))
      · subst hy; cases z
      · exact s_ret (w_var rfl rfl)⟩
end
end K04
end

-- part K04B
section
set_option Elab.async false
set_option linter.all false
set_option maxRecDepth 100000
set_option maxHeartbeats 400000
namespace K04
open PySem PySem.Spec PyProof.Rows L2 L2.Lc
theorem gcd_log {a b : Int} (hb : 0 < b) (hl : b.natAbs.log2 < 9000) : ((Nat.gcd a.natAbs b.natAbs : Nat) : Int).natAbs.log2 < 9000 := by
  rw [Int.natAbs_natCast]
  have h1 : Nat.gcd a.natAbs b.natAbs ≤ b.natAbs := Nat.gcd_le_right _ (by omega)
  have h2 : Nat.gcd a.natAbs b.natAbs ≠ 0 := by
    intro z
    have := Nat.eq_zero_of_gcd_eq_zero_right z
    omega
  refine Nat.lt_of_le_of_lt ?_ hl
  exact (Nat.le_log2 (by omega)).2 (Nat.le_trans (Nat.log2_self_le h2) h1)
theorem num_div {a b : Int} (hb : 0 < b) : a / ((Nat.gcd a.natAbs b.natAbs : Nat) : Int) = (Rat.divInt a b).num := by
  rw [Rat.num_divInt, Int.sign_eq_one_of_pos hb, Int.one_mul]
  show _ = a / ((Nat.gcd b.natAbs a.natAbs : Nat) : Int)
  rw [Nat.gcd_comm]
theorem den_div {a b : Int} (hb : 0 < b) : b / ((Nat.gcd a.natAbs b.natAbs : Nat) : Int) = ((Rat.divInt a b).den : Int) := by
  rw [Rat.den_divInt, if_neg (by omega)]
  show _ = (((b.natAbs / Nat.gcd b.natAbs a.natAbs : Nat)) : Int)
  rw [Nat.gcd_comm, Int.natCast_ediv, Int.natAbs_of_nonneg (by omega)]
section
variable {P : Program} {w : World} {K : PySem.W.Frag} {mg : Str → Option Value} {base : Heap} {C : Addr}
abbrev fsRat : Rat → List (Str × Ent) := fun q => [("top", .mk rInt q.num), ("bottom", .mk rInt (q.den : Int))]
abbrev preR : Int × Int → Prop := fun p => 0 < p.2 ∧ p.2.natAbs.log2 < 9000
abbrev spInit (C : Addr) : Sp := spI C (A2 rInt rInt) preR fun p => fsRat (Rat.divInt p.1 p.2)
theorem ok_init (T : Tx K mg C) (f : Addr) (fd : FuncData) (F : FunD K "__init__" "Ratio.__init__" (defArgs s_Ratio___init__) (defBody s_Ratio___init__) (defScope s_Ratio___init__) [.int 1] [] f fd) : FnOk P w K mg base CX0 2 f fd ["self", "top", "bottom"] (spInit C) :=
  fnI F sc_Ratio___init__ (fun _ => rfl) fun cdv A outer s H E hr => ⟨_, (pss_cons (ps_if (pt_not (pt_val (pe_cal (c_is_integer T) (hr.mono (by decide)) rfl (pa_cons (pv 1) pa_nil)))) pss_never pss_nil)
  (pss_cons (ps_if (PW.pt (pw_or (pt_not (pt_val (pe_cal (c_is_integer T) (hr.mono (by decide)) rfl (pa_cons (pv 2) pa_nil)))) (pw_or1 (pt_cmpR op_eq (pv 2) pe_int (nomark _))))) pss_never pss_nil)
  (pss_cons (ps_set (i := 3) sc_Ratio___init__.nd rfl (by first | exact Or.inl rfl | exact Or.inr rfl) (pe_ifExp (pt_cmpR op_gt (pv 2) pe_int (nomark _)) (pe_callBfun cr_gcd (by rfl) T.g_gcd (pa_cons (pv 1) (pa_cons (pv 2) pa_nil))) (pe_un un_neg (pe_callBfun cr_gcd (by rfl) T.g_gcd (pa_cons (pv 1) (pa_cons (pv 2) pa_nil))))))
  (pss_cons (ksfld (K := K) rfl (pv 0) (pe_op op_fdivW (pv 1) (pv 3)) rfl)
  (pss_one (ksfld (K := K) rfl (pv 0) (pe_op op_fdivW (pv 2) (pv 3)) rfl)))))),
    fun a dx x hp => by
      obtain ⟨p, q⟩ := x
      obtain ⟨h1, h2⟩ := hp
      have h1 : 0 < q := h1
      have h2 : q.natAbs.log2 < 9000 := h2
      have hz : q ≠ 0 := by omega
      refine s_seq (s_if (t_not (t_B (w_callP (a_cons (w_var rfl (a_nil ⟨p, rfl, trivial, fun y hy => ⟨fun z => ?_, fun _ => s_next ?_⟩⟩)))))))
      · subst hy; cases z
      refine s_seq (s_if (t_or (t_not (t_B (w_callP (a_cons (w_var rfl (a_nil ⟨q, rfl, trivial, fun y hy => ⟨fun z => t_test (w_op0 o_eqI (w_var rfl (w_int ⟨fun z => ?_, fun _ => s_next ?_⟩))), fun z => ?_⟩⟩))))))))
      · exact absurd (of_decide_eq_true z) hz
      · refine s_seq (s_set (R := rInt) (w_if (t_test (w_op0 o_cmp (w_var rfl (w_int ⟨fun _ => ?_, fun z => ?_⟩))))))
        · refine w_cb (a_cons (w_var rfl (a_cons (w_var rfl (a_nil ⟨_, c_gcd, ?_⟩)))))
          refine s_seq (s_fldI T.cls T.no_top (w_op o_intC (w_var rfl (w_var rfl ⟨⟨?_, gcd_log h1 h2⟩, w_var rfl ⟨by simp, ?_⟩⟩))))
          · have : Nat.gcd p.natAbs q.natAbs ≠ 0 := fun z => by have := Nat.eq_zero_of_gcd_eq_zero_right z; omega
            show (0 : Int) < ((Nat.gcd p.natAbs q.natAbs : Nat) : Int)
            omega
          refine s_fldI T.cls T.no_bottom (w_op o_intC (w_var rfl (w_var rfl ⟨⟨?_, gcd_log h1 h2⟩, w_var rfl ⟨by simp [putF], ?_⟩⟩)))
          · have : Nat.gcd p.natAbs q.natAbs ≠ 0 := fun z => by have := Nat.eq_zero_of_gcd_eq_zero_right z; omega
            show (0 : Int) < ((Nat.gcd p.natAbs q.natAbs : Nat) : Int)
            omega
          refine ⟨rfl, ?_, rfl, ?_, trivial⟩
          · exact congrArg V.int (num_div h1)
          · exact congrArg V.int (den_div h1)
        · exact absurd h1 (of_decide_eq_false z)
      · subst hy; cases z⟩
theorem mk_Ratio (T : Tx K mg C) : MkC P w K mg base "Ratio" C 2 ["self", "top", "bottom"] [] (spInit C) :=
  mkC_of T.m_init rfl T.makes T.kpC T.g_Ratio [] (fun f fd F => F.binds1 3 1 (by simp) rfl fun _ _ _ _ _ _ _ us its h1 h2 => match us, its, h1, h2 with | [_, _, _], [_], _, _ => ⟨_, rfl, rfl⟩) (ok_init T)
theorem mk_Ratio_d (T : Tx K mg C) : MkC P w K mg base "Ratio" C 2 ["self", "top", "bottom"] [.int 1] (spInit C) :=
  mkC_of T.m_init rfl T.makes T.kpC T.g_Ratio [.int 1] (fun f fd F => F.binds1 2 0 (by simp) rfl fun _ _ _ _ _ _ _ us its h1 h2 => match us, its, h1, h2 with | [_, _], [_], _, _ => ⟨_, rfl, rfl⟩) (ok_init T)
variable {Z : Type} {m : Md Z} {Γ : Gm} {n : Z}
theorem w_ratio {t : TA} {E : XK} {Post : Rat → Z → Prop} (h : ArW m t Γ n fun es n1 => ∃ a b : Int, es = [.mk rInt a, .mk rInt b] ∧ (0 < b ∧ b.natAbs.log2 < 9000) ∧ Post (Rat.divInt a b) n1) : EvW m (tMake C (spInit C) [] E t) Γ n (rRat C) Post :=
  w_as (fun p => Rat.divInt p.1 p.2) (fun _ _ _ r => r) (w_make [] (fun _ => trivial) fun M σ H c e Q k => h M σ H c e Q fun vs es n' H' ⟨a, b, h1, h2, h3⟩ => k vs es n' H' ⟨(a, b), by rw [h1]; rfl, h2, h3⟩)
theorem w_ratio1 {t : TA} {E : XK} {Post : Rat → Z → Prop} (h : ArW m t Γ n fun es n1 => ∃ a : Int, es = [.mk rInt a] ∧ Post (a : Rat) n1) : EvW m (tMake C (spInit C) [.int 1] E t) Γ n (rRat C) Post :=
  w_as (fun p => Rat.divInt p.1 p.2) (fun _ _ _ r => r) (w_make [.mk rInt 1] (fun _ => ⟨rfl, trivial⟩) fun M σ H c e Q k => h M σ H c e Q fun vs es n' H' ⟨a, h1, h3⟩ => k vs es n' H' ⟨(a, 1), by rw [h1]; rfl, ⟨show (0 : Int) < 1 by decide, show (1 : Int).natAbs.log2 < 9000 by decide⟩, by
    have : Rat.divInt a 1 = (a : Rat) := by
      exact Rat.num_divInt_den (a : Rat)
    show Post (Rat.divInt a 1) n'
    rw [this]; exact h3⟩)
end
end K04
end

-- part LcMeth
section
set_option Elab.async false
set_option linter.all false
set_option maxRecDepth 100000
set_option maxHeartbeats 400000
/-! # LcMeth: methods of instances, a minus ahead of one -/
namespace L2.Lc
open PySem PySem.Spec PyProof.Rows L2
open Evl (Ex ex_l ex_t)
theorem fs_none {G : Hp} {m : Str} : ∀ {vs : List (Str × V)} {es : List (Str × Ent)}, FsOk G vs es → (∀ p ∈ es, p.1 ≠ m) → vs.lookup m = none
  | [], [], _, _ => rfl
  | (f, v) :: vs, q :: es, h, n => by
    have h1 : f ≠ m := by rw [show f = q.1 from h.1]; exact n q List.mem_cons_self
    rw [lookup_put, if_neg (Ne.symm h1)]
    exact fs_none h.2.2 fun p hp => n p (List.mem_cons_of_mem _ hp)
  | [], _ :: _, h, _ => h.elim
  | _ :: _, [], h, _ => h.elim
theorem FM.ownX {P : Program} {w : World} {K : PySem.W.Frag} {mg : Str → Option Value} {base : Heap} {k : Nat} {qual m : Str} {st : Stmt} {ps : List Str} {sp : Sp} {C : Addr} (F : FM K C m qual st []) (hb : BindN m qual st ps) (hc : Cls K C)
    (h : ∀ f fd, FunD K m qual (defArgs st) (defBody st) (defScope st) [] [] f fd → FnOk P w K mg base CX0 k f fd ps sp) (hf : PySem.W.selfFirst K C = true) : OwnM P w K mg base C m k ps sp := F.own hb hc hf h
section
variable {X : Cx} {k : Nat} {ps : List Str} {sp : Sp} {C : Addr}
/-- minus an instance -/
def rOwnU (C : Addr) (sp : Sp) : V → Hp → VK → Prop := fun x H Q => ∃ a dx fs, x = .ref a ∧ H a = some (.ins C dx fs) ∧ sp [x] H Q E0
theorem un_own (O : OwnM X.prog X.w X.K X.mg X.base C "__neg__" k ps sp) (hr : Room k X.A) : UnR X (unaryOp .USub) (rOwnU C sp) := by
  intro pins s σ H x u Q I rx h
  obtain ⟨a, dx, fs, rfl, ha, q⟩ := h
  cases (show u = Value.ref a from rx)
  obtain ⟨f, fd, F, hs, hf, kp, bd⟩ := O.ex
  obtain ⟨od, J⟩ := inst_of I ha
  obtain ⟨mF, hF⟩ := I.fr
  exact PySem.W.ksp_neg hF I.ok.mod.kin J hs hf (run_fn (us := [.ref a]) (vs := [.ref a]) F hr bd .nil (pass0 (X := X)) I (.cons rfl .nil) (by rw [List.append_nil]; exact q))
variable {o e : Expr} {es : List Expr} {m : Str} {ta : TE} {t : TA} {apos pos : Pos}
theorem pe_methM {pl : Sem Bool} (O : OwnM X.prog X.w X.K X.mg X.base C m k ps sp) (hr : Room k X.A) (he : PE X o ta) (ha : PA X (e :: es) t)
    (hst : starEach (e :: es) X.env = (false, eval e X.env) :: starEach es X.env := by rfl) (hpl : (backTo pos (starEach es X.env)).any (·.1) = false := by rfl)
    (ht : eval (.Call (.Attribute o m apos) (e :: es) [] pos) X.env = (do
      let ov ← eval o X.env
      standAt apos.atName
      let (f, first) ← holding [ov] (getMethod ov m pl)
      callWith pos f first (backTo pos (starEach (e :: es) X.env)) (backToKw pos (keywordEach [] X.env))) := by rfl) :
    PE X (.Call (.Attribute o m apos) (e :: es) [] pos) (tMeth C m sp [] E0 ta t) := by
  obtain ⟨f, fd, F, h1, h2, h3, b⟩ := O.ex
  exact pe_meth he O.cls ⟨h1, h2, h3⟩ F hr b .nil pass0 ha hst hpl ht
end
section
variable {Z : Type} {m : Md Z} {Γ : Gm} {n : Z} {α β γ : Type} {T : Rl γ} {K : PySem.W.Frag} {ta : TE} {t : TA} {C : Addr}
theorem w_ownU {A : α → List Ent} {pre : α → Prop} {post : α → γ → Prop} {β1 : Type} {f1 : β1 → List (Str × Ent)} {Post : γ → Z → Prop}
    (h : EvW m ta Γ n (rIns C f1) fun x n1 => ∃ p, [Ent.mk (rIns C f1) x] = A p ∧ pre p ∧ ∀ z, post p z → Post z n1) : EvW m (tUn (rOwnU C (spP A pre T post)) ta) Γ n T Post := fun M σ H c e Q k =>
  h M σ H c e _ fun v x n1 H1 p1 e1 i1 r1 => by
    obtain ⟨a, dx, vs, rfl, g1, g2⟩ := id r1
    obtain ⟨p, hA, hp, hq⟩ := p1
    refine ⟨a, dx, vs, rfl, hid_le _ _ g1, M, p, (c.go e1 i1).good, ?_, hp, fun o y H' po x' r => k o y n1 H' (hq y po) (e1.trans (.of x')) (m.kept i1 x') r⟩
    rw [← hA]
    exact ⟨r1, trivial⟩
/-- o.m(e, ..) -/
theorem w_methP {A : α → List Ent} {pre : α → Prop} {post : α → γ → Prop} {β1 : Type} {f1 : β1 → List (Str × Ent)} {mm : Str} {Post : γ → Z → Prop} (hm : ∀ x, ∀ p ∈ f1 x, p.1 ≠ mm)
    (h : EvW m ta Γ n (rIns C f1) fun x n1 => ArW m t Γ n1 fun es n2 => ∃ p, Ent.mk (rIns C f1) x :: es = A p ∧ pre p ∧ ∀ z, post p z → Post z n2) : EvW m (tMeth C mm (spP A pre T post) [] E0 ta t) Γ n T Post := fun M σ H c e Q k =>
  h M σ H c e _ fun v x n1 H1 p1 e1 i1 r1 => by
    obtain ⟨a, dx, vs, rfl, g1, g2⟩ := id r1
    refine ⟨a, dx, vs, rfl, hid_le _ _ g1, fs_none g2 (hm x), ?_⟩
    refine p1 M σ H1 (c.go e1 i1) (e.mono (e1.hid c.mm)) _ fun us es n2 H2 p2 e2 i2 a2 => ?_
    obtain ⟨p, hA, hp, hq⟩ := p2
    rw [List.append_nil]
    refine ⟨M, p, (c.go (e1.trans e2) i2).good, ?_, hp, fun o y H' po x' r => k o _ n2 H' (hq _ po) ((e1.trans e2).trans (.of x')) (m.kept i2 x') r⟩
    rw [← hA]
    exact ⟨(rIns C f1).mono (e2.hid c.mm) r1, a2⟩
end
end L2.Lc
end

-- part KSimp
section
set_option Elab.async false
set_option linter.all false
set_option maxRecDepth 100000
set_option maxHeartbeats 400000
/-! # the simplest fraction between two: plain -/
namespace KSimp
theorem den_pos (q : Rat) : (0 : Int) < (q.den : Int) := by have := q.den_pos; omega
/-- a fraction u / v lies between -/
def In (a b : Rat) (u v : Int) : Prop := a.num * v < u * a.den ∧ u * b.den < b.num * v
/-- the least bottom, and the least top -/
structure Sp (a b : Rat) (p q : Int) : Prop where
  pos : 0 < q
  at_ : In a b p q
  min : ∀ u v, 0 < v → In a b u v → q ≤ v ∧ p ≤ u
/-- the least bottom, then the least top -/
structure Sm (a b : Rat) (p q : Int) : Prop where
  pos : 0 < q
  at_ : In a b p q
  min : ∀ u v, 0 < v → In a b u v → q ≤ v ∧ (q = v → p ≤ u)
abbrev Simp (a b y : Rat) : Prop := Sm a b y.num (y.den : Int)
theorem Sm.uniq {a b : Rat} {p q p' q' : Int} (h : Sm a b p q) (g : Sm a b p' q') : p = p' ∧ q = q' := by
  obtain ⟨h1, h2⟩ := h.min _ _ g.pos g.at_
  obtain ⟨g1, g2⟩ := g.min _ _ h.pos h.at_
  have e : q = q' := by omega
  have := h2 e
  have := g2 e.symm
  omega
theorem Simp.uniq {a b y z : Rat} (h : Simp a b y) (g : Simp a b z) : y = z := by
  obtain ⟨h1, h2⟩ := Sm.uniq h g
  exact Rat.ext h1 (by omega)
theorem Sp.sm {a b : Rat} {p q : Int} (h : Sp a b p q) : Sm a b p q := ⟨h.pos, h.at_, fun u v hv hi => ⟨(h.min u v hv hi).1, fun _ => (h.min u v hv hi).2⟩⟩
theorem In.scale {a b : Rat} {u v p q : Int} (h : In a b p q) (hq : 0 < q) (hv : 0 < v) (e : u * q = p * v) : In a b u v := by
  obtain ⟨h1, h2⟩ := h
  have k1 := Int.mul_lt_mul_of_pos_right h1 hv
  have k2 := Int.mul_lt_mul_of_pos_right h2 hv
  constructor
  · refine Int.lt_of_mul_lt_mul_right (a := q) ?_ (by omega)
    have e2 := congrArg (fun z => z * (a.den : Int)) e
    grind
  · refine Int.lt_of_mul_lt_mul_right (a := q) ?_ (by omega)
    have e2 := congrArg (fun z => z * (b.den : Int)) e
    grind
theorem In.med {a b : Rat} (h : a.num * b.den < b.num * a.den) : In a b (a.num + b.num) (a.den + b.den) := by
  constructor <;> grind
/-- such a pair is in lowest terms -/
theorem Sm.low {a b : Rat} {p q : Int} (h : Sm a b p q) : (Rat.divInt p q).num = p ∧ ((Rat.divInt p q).den : Int) = q := by
  have hq := h.pos
  have e : (Rat.divInt p q).num * q = p * ((Rat.divInt p q).den : Int) := by
    have h1 := Rat.num_divInt_den (Rat.divInt p q)
    have hd := den_pos (Rat.divInt p q)
    exact (Rat.divInt_eq_divInt_iff (by omega) (by omega)).mp h1
  have hd := den_pos (Rat.divInt p q)
  have hi := h.at_.scale hq hd e
  have h1 := (h.min _ _ hd hi).1
  have h2 : ((Rat.divInt p q).den : Int) ≤ q := by
    rw [Rat.den_divInt, if_neg (by omega)]
    have : q.natAbs / Int.gcd q p ≤ q.natAbs := Nat.div_le_self _ _
    omega
  have h3 : ((Rat.divInt p q).den : Int) = q := by omega
  refine ⟨?_, h3⟩
  rw [h3] at e
  exact Int.eq_of_mul_eq_mul_right (by omega) e
theorem caseA {a b : Rat} {w : Int} (h0 : 0 ≤ w) (h1 : w * a.den ≤ a.num) (h2 : a.num < (w + 1) * a.den) (h3 : (w + 1) * b.den < b.num) : Sp a b (w + 1) 1 := by
  have ha := den_pos a
  refine ⟨by decide, ⟨by omega, by omega⟩, fun u v hv ⟨i1, i2⟩ => ⟨by omega, ?_⟩⟩
  have k1 := Int.mul_le_mul_of_nonneg_right h1 (show 0 ≤ v by omega)
  have k2 : w * v < u := by
    refine Int.lt_of_mul_lt_mul_right (a := (a.den : Int)) ?_ (by omega)
    grind
  have k3 : w * 1 ≤ w * v := Int.mul_le_mul_of_nonneg_left (by omega) h0
  omega
theorem caseB {a b : Rat} {w m : Int} (h0 : 0 ≤ w) (hd : (a.den : Int) = 1) (hw : a.num = w) (hb : w * b.den < b.num) (hm : m = (b.den : Int) / (b.num - w * b.den) + 1) : Sp a b (w * m + 1) m := by
  have hbd := den_pos b
  have hg : 0 < b.num - w * b.den := by omega
  have d1 := Int.ediv_mul_le (b.den : Int) (show b.num - w * b.den ≠ 0 by omega)
  have d2 := Int.lt_ediv_add_one_mul_self (b.den : Int) hg
  have d3 : 0 ≤ (b.den : Int) / (b.num - w * b.den) := Int.ediv_nonneg (by omega) (by omega)
  rw [← hm] at d2
  have mpos : 0 < m := by omega
  refine ⟨mpos, ⟨by rw [hd, hw]; omega, ?_⟩, fun u v hv ⟨i1, i2⟩ => ?_⟩
  · grind
  · rw [hd, hw] at i1
    have k1 : w * v + 1 ≤ u := by omega
    have k2 := Int.mul_le_mul_of_nonneg_right k1 (show 0 ≤ (b.den : Int) by omega)
    have k3 : (b.den : Int) < v * (b.num - w * b.den) := by grind
    have k4 : (b.den : Int) / (b.num - w * b.den) < v := Int.ediv_lt_of_lt_mul hg k3
    have k5 : m ≤ v := by omega
    refine ⟨k5, ?_⟩
    have := Int.mul_le_mul_of_nonneg_left k5 h0
    omega
theorem caseC {a b l h : Rat} {w p q : Int} (h0 : 0 ≤ w) (h1 : w * a.den ≤ a.num) (hln : l.num = b.den) (hld : (l.den : Int) = b.num - w * b.den) (hhn : h.num = a.den) (hhd : (h.den : Int) = a.num - w * a.den) (s : Sp l h p q) : Sp a b (w * p + q) p := by
  obtain ⟨sq, ⟨s1, s2⟩, sm⟩ := s
  rw [hln, hld] at s1
  rw [hhn, hhd] at s2
  have ha := den_pos a
  have hb := den_pos b
  have hl := den_pos l
  rw [hld] at hl
  have hp : 0 < p := by
    have k : 0 < (b.den : Int) * q := Int.mul_pos hb sq
    by_cases z : 0 < p
    · exact z
    · have : p * (b.num - w * b.den) ≤ 0 := Int.mul_nonpos_of_nonpos_of_nonneg (by omega) (by omega)
      omega
  refine ⟨hp, ⟨by grind, by grind⟩, fun u v hv ⟨i1, i2⟩ => ?_⟩
  have k1 := Int.mul_le_mul_of_nonneg_right h1 (show 0 ≤ v by omega)
  have k2 : w * v < u := by
    refine Int.lt_of_mul_lt_mul_right (a := (a.den : Int)) ?_ (by omega)
    grind
  obtain ⟨m1, m2⟩ := sm v (u - w * v) (by omega) ⟨by rw [hln, hld]; grind, by rw [hhn, hhd]; grind⟩
  refine ⟨m2, ?_⟩
  have := Int.mul_le_mul_of_nonneg_left m2 h0
  omega
/-- moved by a whole number -/
theorem shift {a b a' b' : Rat} {w p q : Int} (e1 : a'.num = a.num - w * a.den) (e2 : a'.den = a.den) (e3 : b'.num = b.num - w * b.den) (e4 : b'.den = b.den) (s : Sp a' b' p q) : Sm a b (p + w * q) q := by
  obtain ⟨sq, ⟨s1, s2⟩, sm⟩ := s
  rw [e1, e2] at s1
  rw [e3, e4] at s2
  refine ⟨sq, ⟨by grind, by grind⟩, fun u v hv ⟨i1, i2⟩ => ?_⟩
  obtain ⟨m1, m2⟩ := sm (u - w * v) v hv ⟨by rw [e1, e2]; grind, by rw [e3, e4]; grind⟩
  exact ⟨m1, fun z => by subst z; omega⟩
theorem shiftS {a b a' b' : Rat} {w p q : Int} (e1 : a'.num = a.num + w * a.den) (e2 : a'.den = a.den) (e3 : b'.num = b.num + w * b.den) (e4 : b'.den = b.den) (s : Sm a b p q) : Sm a' b' (p + w * q) q := by
  obtain ⟨sq, ⟨s1, s2⟩, sm⟩ := s
  refine ⟨sq, ⟨by rw [e1, e2]; grind, by rw [e3, e4]; grind⟩, fun u v hv ⟨i1, i2⟩ => ?_⟩
  rw [e1, e2] at i1
  rw [e3, e4] at i2
  obtain ⟨m1, m2⟩ := sm (u - w * v) v hv ⟨by grind, by grind⟩
  exact ⟨m1, fun z => by have := m2 z; subst z; omega⟩
/-- turned about: the same bottom -/
theorem turned {a b a' b' : Rat} {p q p' q' : Int} (e1 : a'.num = -a.num) (e2 : a'.den = a.den) (e3 : b'.num = -b.num) (e4 : b'.den = b.den) (s : Sm a b p q) (t : Sm b' a' p' q') : q' = q := by
  have h1 := (s.min (-p') q' t.pos ⟨by have := t.at_.2; rw [e1, e2] at this; grind, by have := t.at_.1; rw [e3, e4] at this; grind⟩).1
  have h2 := (t.min (-p) q s.pos ⟨by have := s.at_.2; rw [e3, e4]; grind, by have := s.at_.1; rw [e1, e2]; grind⟩).1
  omega
/-- a bottom tried -/
theorem tried_no {a b : Rat} {v : Int} (hv : 0 < v) (h : ¬ (a.num * v / a.den + 1) * b.den < b.num * v) (u : Int) : ¬ In a b u v := fun ⟨i1, i2⟩ => by
  have ha := den_pos a
  have hb := den_pos b
  have k1 : a.num * v / a.den < u := Int.ediv_lt_of_lt_mul ha i1
  have k2 := Int.mul_le_mul_of_nonneg_right (show a.num * v / a.den + 1 ≤ u by omega) (show 0 ≤ (b.den : Int) by omega)
  omega
theorem tried_yes {a b : Rat} {v : Int} (hv : 0 < v) (h : (a.num * v / a.den + 1) * b.den < b.num * v) (none : ∀ k, 0 < k → k < v → ∀ u, ¬ In a b u k) : Sm a b (a.num * v / a.den + 1) v := by
  have ha := den_pos a
  have d2 := Int.lt_ediv_add_one_mul_self (a.num * v) ha
  refine ⟨hv, ⟨d2, h⟩, fun u k hk hi => ⟨?_, fun z => ?_⟩⟩
  · by_cases z : k < v
    · exact absurd hi (none k hk z u)
    · omega
  · subst z
    have := Int.ediv_lt_of_lt_mul ha hi.1
    omega
/-! ### going down -/
structure Lv (a b : Rat) (w : Int) : Prop where
  n0 : 0 ≤ a.num
  lo : w * a.den ≤ a.num
  hi : a.num < (w + 1) * a.den
  lt : a.num * b.den < b.num * a.den
theorem Lv.w0 {a b : Rat} {w : Int} (h : Lv a b w) : 0 ≤ w := by
  have ha := den_pos a
  have := h.n0
  have hi := h.hi
  by_cases z : 0 ≤ w
  · exact z
  · have : (w + 1) * (a.den : Int) ≤ 0 := Int.mul_nonpos_of_nonpos_of_nonneg (by omega) (by omega)
    omega
theorem floor_lo (n : Int) {d : Int} (hd : 0 < d) : n / d * d ≤ n := Int.ediv_mul_le n (by omega)
theorem floor_hi (n : Int) {d : Int} (hd : 0 < d) : n < (n / d + 1) * d := Int.lt_ediv_add_one_mul_self n hd
theorem Lv.s0 {a b : Rat} {w : Int} (h : Lv a b w) : 0 < b.num - w * b.den := by
  have ha := den_pos a
  have hb := den_pos b
  have k := Int.mul_le_mul_of_nonneg_right h.lo (show 0 ≤ (b.den : Int) by omega)
  have lt := h.lt
  have : w * (b.den : Int) < b.num := by
    refine Int.lt_of_mul_lt_mul_right (a := (a.den : Int)) ?_ (by omega)
    grind
  omega
theorem Lv.r0 {a b : Rat} {w : Int} (h : Lv a b w) (hd : (a.den : Int) ≠ 1) : 0 < a.num - w * a.den := by
  have lo := h.lo
  by_cases z : a.num = w * a.den
  · exfalso
    have c : Nat.gcd a.num.natAbs a.den = 1 := a.reduced
    have : a.den ∣ a.num.natAbs := by
      rw [z, Int.natAbs_mul, Int.natAbs_natCast]
      exact Nat.dvd_mul_left _ _
    rw [Nat.gcd_eq_right this] at c
    omega
  · omega
theorem Lv.step {a b l h : Rat} {w : Int} (v : Lv a b w) (hd : (a.den : Int) ≠ 1) (hb : b.num ≤ (w + 1) * b.den) (hln : l.num = b.den) (hld : (l.den : Int) = b.num - w * b.den) (hhn : h.num = a.den) (hhd : (h.den : Int) = a.num - w * a.den) :
    Lv l h (l.num / l.den) ∧ (l.den : Int) ≤ l.num ∧ 1 ≤ l.num / l.den ∧ (l.den : Int) ≤ b.den ∧ (h.den : Int) < a.den ∧ (1 ≤ w → 4 * ((l.num * l.den) * (h.num * h.den)) ≤ (a.num * a.den) * (b.num * b.den)) := by
  have ha := den_pos a
  have hbd := den_pos b
  have hl := den_pos l
  have hh := den_pos h
  have lt := v.lt
  have lo := v.lo
  have hi := v.hi
  have e1 : (l.den : Int) ≤ l.num := by rw [hln, hld]; grind
  refine ⟨⟨by omega, floor_lo _ hl, floor_hi _ hl, by rw [hln, hld, hhn, hhd]; grind⟩, e1, ?_, by rw [hld]; grind, by rw [hhd]; grind, fun w1 => ?_⟩
  · have := Int.le_ediv_of_mul_le hl (show 1 * (l.den : Int) ≤ l.num by omega)
    exact this
  · rw [hln, hhn]
    have g1 : 2 * (l.den : Int) ≤ b.num := by
      have := Int.mul_le_mul_of_nonneg_right w1 (show 0 ≤ (b.den : Int) by omega)
      omega
    have g2 : 2 * (h.den : Int) ≤ a.num := by
      have := Int.mul_le_mul_of_nonneg_right w1 (show 0 ≤ (a.den : Int) by omega)
      grind
    have g3 := Int.mul_le_mul g1 g2 (by omega) (by omega)
    have g4 := Int.mul_le_mul_of_nonneg_right g3 (show 0 ≤ (a.den : Int) * b.den from Int.mul_nonneg (by omega) (by omega))
    grind
/-- the way back up -/
def unw (ws : List Int) (r : Int × Int) : Int × Int := ws.foldr (fun w r => (w * r.1 + r.2, r.1)) r
theorem unw_snoc (ws : List Int) (w : Int) (r : Int × Int) : unw (ws ++ [w]) r = unw ws (w * r.1 + r.2, r.1) := by
  unfold unw
  rw [List.foldr_append]
  rfl
def Ok (n : Nat) (r : Int × Int) : Prop := (0 < r.1 ∧ r.1 < 2 ^ n) ∧ 0 < r.2 ∧ r.2 < 2 ^ n
def Gd (n : Nat) (a0 b0 : Rat) (ws : List Int) (a b : Rat) : Prop := ∀ p q, Sp a b p q → Sp a0 b0 (unw ws (p, q)).1 (unw ws (p, q)).2 ∧ ∀ ws1 ws2, ws = ws1 ++ ws2 → Ok n (unw ws2 (p, q))
def Szd (n : Nat) (q : Rat) : Prop := q.num < 2 ^ n ∧ (q.den : Int) < 2 ^ n
theorem Sp.ok {n : Nat} {a b : Rat} {w p q : Int} (v : Lv a b w) (ha : Szd n a) (hb : Szd n b) (s : Sp a b p q) : Ok (n + 1) (p, q) := by
  have hd := den_pos a
  obtain ⟨m1, m2⟩ := s.min _ _ (by have := den_pos b; omega) (In.med v.lt)
  obtain ⟨h1, h2⟩ := ha
  obtain ⟨h3, h4⟩ := hb
  have e : (2 : Int) ^ (n + 1) = 2 ^ n * 2 := Int.pow_succ ..
  refine ⟨⟨?_, by dsimp only; omega⟩, s.pos, by dsimp only; omega⟩
  have k := s.at_.1
  have : 0 ≤ a.num * q := Int.mul_nonneg v.n0 (by have := s.pos; omega)
  by_cases z : 0 < p
  · exact z
  · have : p * (a.den : Int) ≤ 0 := Int.mul_nonpos_of_nonpos_of_nonneg (by omega) (by omega)
    omega
theorem Gd.nil {n : Nat} {a b : Rat} {w : Int} (v : Lv a b w) (ha : Szd n a) (hb : Szd n b) : Gd (n + 1) a b [] a b := fun p q s => ⟨s, fun ws1 ws2 e => by
  have : ws2 = [] := by
    have := (List.nil_eq_append_iff.mp e).2
    exact this
  subst this
  exact s.ok v ha hb⟩
theorem Gd.snoc {n : Nat} {a0 b0 a b l h : Rat} {ws : List Int} {w w' : Int} (g : Gd (n + 1) a0 b0 ws a b) (v : Lv a b w) (hln : l.num = b.den) (hld : (l.den : Int) = b.num - w * b.den) (hhn : h.num = a.den) (hhd : (h.den : Int) = a.num - w * a.den)
    (v' : Lv l h w') (hl : Szd n l) (hh : Szd n h) : Gd (n + 1) a0 b0 (ws ++ [w]) l h := fun p q s => by
  have s2 := caseC v.w0 v.lo hln hld hhn hhd s
  obtain ⟨g1, g2⟩ := g _ _ s2
  rw [unw_snoc]
  refine ⟨g1, fun ws1 ws2 e => ?_⟩
  by_cases z : ws2 = []
  · subst z
    exact s.ok v' hl hh
  · obtain ⟨us, u, rfl⟩ := (List.eq_nil_or_concat ws2).resolve_left z
    rw [List.concat_eq_append] at e ⊢
    rw [← List.append_assoc] at e
    obtain ⟨e1, e2⟩ := List.append_inj' e rfl
    cases e2
    rw [unw_snoc]
    exact g2 ws1 us e1
/-! ### how many steps -/
def Tq (a b : Rat) : Int := (a.num * a.den) * (b.num * b.den)
def Cn (ws : List Int) (a b : Rat) (w : Int) : Prop := ws = [] ∨ (1 ≤ w ∧ 1 ≤ Tq a b ∧ 4 ^ (ws.length - 1) * Tq a b ≤ 4 ^ 4200)
theorem pow_split : (2 : Int) ^ 2100 * 2 ^ 2100 * (2 ^ 2100 * 2 ^ 2100) = 4 ^ 4200 := by
  rw [← Int.pow_add, ← Int.pow_add]
  show (2 : Int) ^ (2 * 4200) = 4 ^ 4200
  rw [Int.pow_mul]
  rfl
theorem Cn.step {ws : List Int} {a b l h : Rat} {w : Int} (c : Cn ws a b w) (v : Lv a b w) (hd : (a.den : Int) ≠ 1) (hb : b.num ≤ (w + 1) * b.den) (hln : l.num = b.den) (hld : (l.den : Int) = b.num - w * b.den) (hhn : h.num = a.den) (hhd : (h.den : Int) = a.num - w * a.den)
    (sl : Szd 2100 l) (sh : Szd 2100 h) : Cn (ws ++ [w]) l h (l.num / l.den) := by
  obtain ⟨_, _, s3, _, _, s6⟩ := v.step hd hb hln hld hhn hhd
  have p1 := den_pos a
  have p2 := den_pos b
  have p3 := den_pos l
  have p4 := den_pos h
  have q1 : 0 < l.num * l.den := Int.mul_pos (by omega) p3
  have q2 : 0 < h.num * h.den := Int.mul_pos (by omega) p4
  have t0 : 0 < Tq l h := Int.mul_pos q1 q2
  refine .inr ⟨s3, by omega, ?_⟩
  have e : (ws ++ [w]).length - 1 = ws.length := by simp
  rw [e]
  rcases c with rfl | ⟨c1, c2, c3⟩
  · rw [List.length_nil, Int.pow_zero, Int.one_mul, ← pow_split]
    exact Int.mul_le_mul (Int.mul_le_mul (Int.le_of_lt sl.1) (Int.le_of_lt sl.2) (by omega) (Int.le_of_lt (Int.pow_pos (by decide)))) (Int.mul_le_mul (Int.le_of_lt sh.1) (Int.le_of_lt sh.2) (by omega) (Int.le_of_lt (Int.pow_pos (by decide)))) (by omega)
      (Int.le_of_lt (Int.mul_pos (Int.pow_pos (by decide)) (Int.pow_pos (by decide))))
  · by_cases z : ws = []
    · subst z
      simp at c3
      rw [List.length_nil, Int.pow_zero, Int.one_mul]
      have := s6 c1
      unfold Tq at c3 ⊢
      omega
    · have hl : ws.length = (ws.length - 1) + 1 := by have := List.length_pos_iff.mpr z; omega
      rw [hl, Int.pow_succ, Int.mul_assoc]
      have := s6 c1
      refine Int.le_trans (Int.mul_le_mul_of_nonneg_left ?_ (Int.le_of_lt (Int.pow_pos (by decide)))) c3
      exact this
theorem Cn.len {ws : List Int} {a b : Rat} {w : Int} (c : Cn ws a b w) : ws.length < 100000 := by
  rcases c with rfl | ⟨_, c2, c3⟩
  · decide
  have h1 : (4 : Int) ^ (ws.length - 1) ≤ 4 ^ 4200 := by
    refine Int.le_trans ?_ c3
    have := Int.mul_le_mul_of_nonneg_left c2 (show (0 : Int) ≤ 4 ^ (ws.length - 1) from Int.le_of_lt (Int.pow_pos (by decide)))
    rwa [Int.mul_one] at this
  have h2 : (4 : Nat) ^ (ws.length - 1) ≤ 4 ^ 4200 := by
    have e1 : ((4 ^ (ws.length - 1) : Nat) : Int) = 4 ^ (ws.length - 1) := by simp
    have e2 : ((4 ^ 4200 : Nat) : Int) = 4 ^ 4200 := by
      rw [Int.natCast_pow]; rfl
    rw [← e1, ← e2] at h1
    exact Int.ofNat_le.mp h1
  have := (Nat.pow_le_pow_iff_right (by decide : 1 < 4)).mp h2
  omega
theorem Szd.step {a b l h : Rat} {w : Int} {n : Nat} (v : Lv a b w) (sa : Szd n a) (sb : Szd n b) (hd : (a.den : Int) ≠ 1) (hb : b.num ≤ (w + 1) * b.den) (hln : l.num = b.den) (hld : (l.den : Int) = b.num - w * b.den) (hhn : h.num = a.den) (hhd : (h.den : Int) = a.num - w * a.den) : Szd n l ∧ Szd n h := by
  obtain ⟨_, _, _, s4, s5, _⟩ := v.step hd hb hln hld hhn hhd
  have h1 := sa.2
  have h2 := sb.2
  exact ⟨⟨by omega, by omega⟩, ⟨by omega, by omega⟩⟩
theorem Lv.w_lt {a b : Rat} {w : Int} {n : Nat} (v : Lv a b w) (sa : Szd n a) : w < 2 ^ n := by
  have ha := den_pos a
  have h1 := sa.1
  have lo := v.lo
  have : w * 1 ≤ w * a.den := Int.mul_le_mul_of_nonneg_left (by omega) v.w0
  omega
end KSimp
end

-- part K04C
section
set_option Elab.async false
set_option linter.all false
set_option maxRecDepth 100000
set_option maxHeartbeats 400000
namespace K04
open PySem PySem.Spec PyProof.Rows L2 L2.Lc
/-! ### sizes -/
def Sz (n : Nat) (q : Rat) : Prop := q.num.natAbs < 2 ^ n ∧ q.den < 2 ^ n
theorem Sz.mono {m n : Nat} {q : Rat} (h : Sz m q) (l : m ≤ n) : Sz n q := ⟨Nat.lt_of_lt_of_le h.1 (Nat.pow_le_pow_right (by decide) l), Nat.lt_of_lt_of_le h.2 (Nat.pow_le_pow_right (by decide) l)⟩
theorem Sz.mk {m : Nat} {a : Int} {d : Nat} (h1 : a.natAbs < 2 ^ m) (h2 : d < 2 ^ m) (h3 : d ≠ 0) : Sz m (mkRat a d) := by
  refine ⟨?_, ?_⟩
  · rw [Rat.num_mkRat, if_neg h3]
    exact Nat.lt_of_le_of_lt (Int.natAbs_ediv_le_natAbs _ _) h1
  · rw [Rat.den_mkRat, if_neg h3]
    exact Nat.lt_of_le_of_lt (Nat.div_le_self _ _) h2
theorem mul_pow {a b m n : Nat} (h1 : a < 2 ^ m) (h2 : b < 2 ^ n) : a * b < 2 ^ (m + n) := by
  rw [Nat.pow_add]; exact Nat.mul_lt_mul'' h1 h2
theorem Sz.add {m n : Nat} {q r : Rat} (h : Sz m q) (g : Sz n r) : Sz (m + n + 1) (q + r) := by
  rw [Rat.add_def']
  have a1 := mul_pow h.1 g.2
  have a2 := mul_pow g.1 h.2
  have a3 := mul_pow h.2 g.2
  rw [Nat.add_comm n m] at a2
  have e : (2 : Nat) ^ (m + n + 1) = 2 ^ (m + n) + 2 ^ (m + n) := by rw [Nat.pow_succ]; omega
  refine .mk ?_ ?_ (Nat.mul_ne_zero q.den_nz r.den_nz)
  · have t := Int.natAbs_add_le (q.num * (r.den : Int)) (r.num * (q.den : Int))
    rw [Int.natAbs_mul, Int.natAbs_mul, Int.natAbs_natCast, Int.natAbs_natCast] at t
    omega
  · omega
theorem Sz.mul {m n : Nat} {q : Rat} {i : Int} (h : Sz m q) (g : i.natAbs < 2 ^ n) : Sz (m + n) (q * (i : Rat)) := by
  rw [Rat.mul_def']
  refine .mk ?_ ?_ (Nat.mul_ne_zero q.den_nz (i : Rat).den_nz)
  · show (q.num * i).natAbs < _
    rw [Int.natAbs_mul]
    exact mul_pow h.1 g
  · show q.den * 1 < _
    rw [Nat.mul_one]
    exact Nat.lt_of_lt_of_le h.2 (Nat.pow_le_pow_right (by decide) (by omega))
theorem Sz.num {m : Nat} {q : Rat} (h : Sz m q) (hm : 0 < m) : q.num.natAbs.log2 < m := PySem.Flt.log2_lt_of hm h.1
theorem Sz.den {m : Nat} {q : Rat} (h : Sz m q) (hm : 0 < m) : (q.den : Int).natAbs.log2 < m := by rw [Int.natAbs_natCast]; exact PySem.Flt.log2_lt_of hm h.2
theorem add_as (q r : Rat) : Rat.divInt (q.num * (r.den : Int) + r.num * (q.den : Int)) ((q.den : Int) * (r.den : Int)) = q + r := by
  rw [Rat.add_def', ← Int.natCast_mul, Rat.divInt_ofNat]
theorem mul_as (q : Rat) (i : Int) : Rat.divInt (q.num * i) ((q.den : Int) * 1) = q * (i : Rat) := by
  rw [Rat.mul_def', Int.mul_one, Rat.divInt_ofNat]
  show _ = mkRat (q.num * i) (q.den * 1)
  rw [Nat.mul_one]
theorem cmul {a b : Int} (h1 : a.natAbs.log2 < 100000) (h2 : b.natAbs.log2 < 100000) : CMulW a b := by
  unfold CMulW
  omega
theorem cm {a b : Int} (h1 : a.natAbs.log2 < 4000) (h2 : b.natAbs.log2 < 4000) : CMulW a b := cmul (by omega) (by omega)
theorem den_pos (q : Rat) : (0 : Int) < (q.den : Int) := by have := q.den_pos; omega
/-! ### fractions and whole numbers -/
theorem cop_add (q : Rat) (i : Int) : (q.num + i * (q.den : Int)).natAbs.Coprime q.den := by
  have h : Int.gcd q.num (q.den : Int) = 1 := q.reduced
  show Nat.gcd (q.num + i * (q.den : Int)).natAbs q.den = 1
  have e : Int.gcd (q.num + i * (q.den : Int)) (q.den : Int) = Int.gcd q.num (q.den : Int) := by
    apply Nat.dvd_antisymm
    · refine Int.natCast_dvd_natCast.mp (Int.dvd_coe_gcd ?_ (Int.gcd_dvd_right ..))
      have h1 : ((Int.gcd (q.num + i * (q.den : Int)) (q.den : Int) : Nat) : Int) ∣ q.num + i * (q.den : Int) := Int.gcd_dvd_left ..
      have h2 : ((Int.gcd (q.num + i * (q.den : Int)) (q.den : Int) : Nat) : Int) ∣ (q.den : Int) := Int.gcd_dvd_right ..
      have := Int.dvd_sub h1 (Int.dvd_trans h2 (Int.dvd_mul_left i _))
      rwa [Int.add_sub_cancel] at this
    · refine Int.natCast_dvd_natCast.mp (Int.dvd_coe_gcd ?_ (Int.gcd_dvd_right ..))
      have h1 : ((Int.gcd q.num (q.den : Int) : Nat) : Int) ∣ q.num := Int.gcd_dvd_left ..
      have h2 : ((Int.gcd q.num (q.den : Int) : Nat) : Int) ∣ (q.den : Int) := Int.gcd_dvd_right ..
      exact Int.dvd_add h1 (Int.dvd_trans h2 (Int.dvd_mul_left _ _))
  exact e.trans h
/-- q + i -/
def addI (q : Rat) (i : Int) : Rat := ⟨q.num + i * (q.den : Int), q.den, q.den_nz, cop_add q i⟩
theorem addI_as (q : Rat) (i : Int) : Rat.divInt (q.num + i * (q.den : Int)) (q.den : Int) = addI q i := Rat.num_divInt_den (addI q i)
/-- 1 / q, q above 0 -/
def invR (q : Rat) (h : 0 < q.num) : Rat := ⟨(q.den : Int), q.num.toNat, by omega, by
  have := q.reduced
  rw [Int.natAbs_natCast, Nat.coprime_comm, show q.num.toNat = q.num.natAbs by omega]
  exact this⟩
theorem invR_as (q : Rat) (h : 0 < q.num) : Rat.divInt (q.den : Int) q.num = invR q h := by
  have := Rat.num_divInt_den (invR q h)
  rw [show ((invR q h).den : Int) = q.num from Int.toNat_of_nonneg (by omega)] at this
  exact this
def Sz1 (n : Nat) (i : Int) : Prop := i.natAbs < 2 ^ n
theorem Sz1.log {m : Nat} {i : Int} (h : Sz1 m i) (hm : 0 < m) : i.natAbs.log2 < m := PySem.Flt.log2_lt_of hm h
section
variable {P : Program} {w : World} {K : PySem.W.Frag} {mg : Str → Option Value} {base : Heap} {C : Addr}
abbrev preRI : Rat × Int → Prop := fun p => Sz 4000 p.1 ∧ Sz1 4000 p.2
abbrev spAddI (C : Addr) : Sp := spP (A2 (rRat C) rInt) preRI (rRat C) fun p y => y = addI p.1 p.2
theorem o_addI (T : Tx K mg C) : OwnM P w K mg base C "__add__" 4 ["self", "other"] (spAddI C) :=
  T.m_add.own (fun _ _ _ _ _ _ us hl => match us, hl with | [_, _], _ => rfl) T.cls T.first fun f fd F => fnP F sc_Ratio___add__ (fun _ => rfl) fun cdv A outer s H E hr => ⟨_, (pss_one (ps_ret (pe_mkC (mk_Ratio T) (hr.mono (by decide)) rfl (pa_cons (pe_op op_add (pe_op op_mulW (kfld (K := K) rfl (pv 0) rfl) (pe_cal (c_bottom_ofI T) (hr.mono (by decide)) rfl (pa_cons (pv 1) pa_nil))) (pe_op op_mulW (pe_cal (c_top_ofI T) (hr.mono (by decide)) rfl (pa_cons (pv 1) pa_nil)) (kfld (K := K) rfl (pv 0) rfl))) (pa_cons (pe_op op_mulW (kfld (K := K) rfl (pv 0) rfl) (pe_cal (c_bottom_ofI T) (hr.mono (by decide)) rfl (pa_cons (pv 1) pa_nil))) pa_nil))))),
    fun x hp => by
      obtain ⟨q, i⟩ := x
      obtain ⟨h1, h2⟩ := hp
      have a1 := h1.num (by decide)
      have a2 := h1.den (by decide)
      have b1 := h2.log (by decide)
      dsimp only at a1 a2 b1
      refine s_ret <| w_ratio <| a_cons <| w_op0 o_int <| w_op o_intC <| w_fld T.cls T.no_top <| w_var rfl ⟨_, rfl, w_callP <| a_cons <| w_var rfl <| a_nil ⟨i, rfl, trivial, fun y hy => ⟨?_, ?_⟩⟩⟩
      · subst y
        exact cmul (by first | omega | (dsimp only; omega)) (by decide)
      subst y
      refine w_op o_intC <| w_callP <| a_cons <| w_var rfl <| a_nil ⟨i, rfl, trivial, fun y hy => w_fld T.cls T.no_bottom <| w_var rfl ⟨_, rfl, ?_, ?_⟩⟩
      · subst y
        exact cmul (by first | omega | (dsimp only; omega)) (by first | omega | (dsimp only; omega))
      subst y
      refine a_cons <| w_op o_intC <| w_fld T.cls T.no_bottom <| w_var rfl ⟨_, rfl, w_callP <| a_cons <| w_var rfl <| a_nil ⟨i, rfl, trivial, fun y hy => ⟨?_, ?_⟩⟩⟩
      · subst y
        exact cmul (by first | omega | (dsimp only; omega)) (by decide)
      subst y
      dsimp only
      rw [Int.mul_one, Int.mul_one]
      exact a_nil ⟨_, _, rfl, ⟨den_pos q, by omega⟩, addI_as q i⟩⟩
abbrev spSubI (C : Addr) : Sp := spP (A2 (rRat C) rInt) preRI (rRat C) fun p y => y = addI p.1 (-p.2)
theorem o_subI (T : Tx K mg C) : OwnM P w K mg base C "__sub__" 4 ["self", "other"] (spSubI C) :=
  T.m_sub.own (fun _ _ _ _ _ _ us hl => match us, hl with | [_, _], _ => rfl) T.cls T.first fun f fd F => fnP F sc_Ratio___sub__ (fun _ => rfl) fun cdv A outer s H E hr => ⟨_, (pss_one (ps_ret (pe_mkC (mk_Ratio T) (hr.mono (by decide)) rfl (pa_cons (pe_op op_sub (pe_op op_mulW (kfld (K := K) rfl (pv 0) rfl) (pe_cal (c_bottom_ofI T) (hr.mono (by decide)) rfl (pa_cons (pv 1) pa_nil))) (pe_op op_mulW (pe_cal (c_top_ofI T) (hr.mono (by decide)) rfl (pa_cons (pv 1) pa_nil)) (kfld (K := K) rfl (pv 0) rfl))) (pa_cons (pe_op op_mulW (kfld (K := K) rfl (pv 0) rfl) (pe_cal (c_bottom_ofI T) (hr.mono (by decide)) rfl (pa_cons (pv 1) pa_nil))) pa_nil))))),
    fun x hp => by
      obtain ⟨q, i⟩ := x
      obtain ⟨h1, h2⟩ := hp
      have a1 := h1.num (by decide)
      have a2 := h1.den (by decide)
      have b1 := h2.log (by decide)
      dsimp only at a1 a2 b1
      refine s_ret <| w_ratio <| a_cons <| w_op0 o_int <| w_op o_intC <| w_fld T.cls T.no_top <| w_var rfl ⟨_, rfl, w_callP <| a_cons <| w_var rfl <| a_nil ⟨i, rfl, trivial, fun y hy => ⟨?_, ?_⟩⟩⟩
      · subst y
        exact cmul (by first | omega | (dsimp only; omega)) (by decide)
      subst y
      refine w_op o_intC <| w_callP <| a_cons <| w_var rfl <| a_nil ⟨i, rfl, trivial, fun y hy => w_fld T.cls T.no_bottom <| w_var rfl ⟨_, rfl, ?_, ?_⟩⟩
      · subst y
        exact cmul (by first | omega | (dsimp only; omega)) (by first | omega | (dsimp only; omega))
      subst y
      refine a_cons <| w_op o_intC <| w_fld T.cls T.no_bottom <| w_var rfl ⟨_, rfl, w_callP <| a_cons <| w_var rfl <| a_nil ⟨i, rfl, trivial, fun y hy => ⟨?_, ?_⟩⟩⟩
      · subst y
        exact cmul (by first | omega | (dsimp only; omega)) (by decide)
      subst y
      dsimp only
      rw [Int.mul_one, Int.mul_one, Int.sub_eq_add_neg, ← Int.neg_mul]
      exact a_nil ⟨_, _, rfl, ⟨den_pos q, by omega⟩, addI_as q (-i)⟩⟩
abbrev spNeg (C : Addr) : Sp := spP (A1 (rRat C)) (Sz 4000) (rRat C) fun q y => y.num = -q.num ∧ y.den = q.den
theorem o_neg (T : Tx K mg C) : OwnM P w K mg base C "__neg__" 4 ["self"] (spNeg C) :=
  T.m_neg.own (fun _ _ _ _ _ _ us hl => match us, hl with | [_], _ => rfl) T.cls T.first fun f fd F => fnP F sc_Ratio___neg__ (fun _ => rfl) fun cdv A outer s H E hr => ⟨_, (pss_one (ps_ret (pe_mkC (mk_Ratio T) (hr.mono (by decide)) rfl (pa_cons (pe_un un_neg (kfld (K := K) rfl (pv 0) rfl)) (pa_cons (kfld (K := K) rfl (pv 0) rfl) pa_nil))))),
    fun q h1 => by
      have a2 := h1.den (by decide)
      refine s_ret <| w_ratio <| a_cons <| w_un u_neg <| w_fld T.cls T.no_top <| w_var rfl ⟨_, rfl, a_cons <| w_fld T.cls T.no_bottom <| w_var rfl ⟨_, rfl, a_nil ⟨_, _, rfl, ⟨den_pos q, by omega⟩, ?_⟩⟩⟩
      have : Rat.divInt (-q.num) (q.den : Int) = -q := Rat.num_divInt_den (-q)
      dsimp only
      rw [this]
      exact ⟨rfl, rfl⟩⟩
abbrev spEq (C : Addr) : Sp := spP (A2 (rRat C) (rRat C)) (fun _ => True) rBl fun p y => y = decide (p.1 = p.2)
theorem o_eq (T : Tx K mg C) : OwnM P w K mg base C "__eq__" 1 ["self", "other"] (spEq C) :=
  T.m_eq.own (fun _ _ _ _ _ _ us hl => match us, hl with | [_, _], _ => rfl) T.cls T.first fun f fd F => fnP F sc_Ratio___eq__ (fun _ => rfl) fun cdv A outer s H E hr => ⟨_, (pss_one (ps_ret (pe_and (pe_callB (r := rIsi K) call_isi (by rfl) T.f_isinstance boot_isinstance (pa_cons (pv 1) (pa_cons (pe_glob (v := .ref C) rfl T.g_Ratio rfl) pa_nil))) (pe_and (pe_cmpR op_eq (kfld (K := K) rfl (pv 0) rfl) (kfld (K := K) rfl (pv 1) rfl) (nomark _)) (pe_one (pe_cmpR op_eq (kfld (K := K) rfl (pv 0) rfl) (kfld (K := K) rfl (pv 1) rfl) (nomark _))))))),
    fun x hp => by
      obtain ⟨q, r⟩ := x
      refine s_ret (w_andV (w_cb (a_cons (w_var rfl (a_cons (w_at (a_nil ⟨true, c_isiC (ty_ins T.isi) T.kitCC, fun _ => ?_, fun z => by cases z⟩)))))))
      refine w_andV (w_op0 o_eqI (w_fld T.cls T.no_top (w_var rfl ⟨_, rfl, w_fld T.cls T.no_top (w_var rfl ⟨_, rfl, fun z => ?_, fun z => ?_⟩)⟩)))
      · refine w_op0 o_eqI (w_fld T.cls T.no_bottom (w_var rfl ⟨_, rfl, w_fld T.cls T.no_bottom (w_var rfl ⟨_, rfl, ?_⟩)⟩))
        have z := of_decide_eq_true z
        show decide ((q.den : Int) = (r.den : Int)) = decide (q = r)
        refine decide_eq_decide.mpr ⟨fun h => Rat.ext z (by omega), fun h => by rw [h]⟩
      · have z := of_decide_eq_false z
        show false = decide (q = r)
        exact (decide_eq_false fun h => z (by rw [h])).symm⟩
/-- 1 over a fraction above 0 -/
abbrev spOver (C : Addr) : Sp := spP (A2 (rRat C) (rRat C)) (fun p => p.1 = 1 ∧ 0 < p.2.num ∧ Sz 4000 p.2) (rRat C) fun p y => ∀ h, y = invR p.2 h
theorem o_over (T : Tx K mg C) : OwnM P w K mg base C "over" 4 ["self", "other"] (spOver C) :=
  T.m_over.own (fun _ _ _ _ _ _ us hl => match us, hl with | [_, _], _ => rfl) T.cls T.first fun f fd F => fnP F sc_Ratio_over (fun _ => rfl) fun cdv A outer s H E hr => ⟨_, (pss_cons (ps_if (pt_cmpR op_eq (pe_cal (c_top_ofR T) (hr.mono (by decide)) rfl (pa_cons (pv 1) pa_nil)) pe_int (nomark _)) pss_never pss_nil)
  (pss_one (ps_ret (pe_mkC (mk_Ratio T) (hr.mono (by decide)) rfl (pa_cons (pe_op op_mulW (kfld (K := K) rfl (pv 0) rfl) (pe_cal (c_bottom_ofR T) (hr.mono (by decide)) rfl (pa_cons (pv 1) pa_nil))) (pa_cons (pe_op op_mulW (kfld (K := K) rfl (pv 0) rfl) (pe_cal (c_top_ofR T) (hr.mono (by decide)) rfl (pa_cons (pv 1) pa_nil))) pa_nil)))))),
    fun x hp => by
      obtain ⟨q, r⟩ := x
      obtain ⟨h0, h1, h2⟩ := hp
      dsimp only at h0 h1
      subst h0
      have b1 := h2.num (by decide)
      have b2 := h2.den (by decide)
      dsimp only at b1 b2
      have z1 : (1 : Rat).num = 1 := rfl
      have z2 : ((1 : Rat).den : Int) = 1 := rfl
      refine s_seq <| s_if <| t_test <| w_op0 o_eqI <| w_callP <| a_cons <| w_var rfl <| a_nil ⟨r, rfl, trivial, fun y hy => w_int ⟨fun z => ?_, fun _ => s_next ?_⟩⟩
      · have := of_decide_eq_true z
        omega
      refine s_ret <| w_ratio <| a_cons <| w_op o_intC <| w_fld T.cls T.no_top <| w_var rfl ⟨_, rfl, w_callP <| a_cons <| w_var rfl <| a_nil ⟨r, rfl, trivial, fun y hy => ⟨?_, ?_⟩⟩⟩
      · subst y
        exact cmul (show (1 : Int).natAbs.log2 < 100000 by decide) (by first | omega | (dsimp only; omega))
      subst y
      refine a_cons <| w_op o_intC <| w_fld T.cls T.no_bottom <| w_var rfl ⟨_, rfl, w_callP <| a_cons <| w_var rfl <| a_nil ⟨r, rfl, trivial, fun y hy => ⟨?_, ?_⟩⟩⟩
      · subst y
        exact cmul (show (1 : Int).natAbs.log2 < 100000 by decide) (by first | omega | (dsimp only; omega))
      subst y
      dsimp only
      rw [z1, z2, Int.one_mul, Int.one_mul]
      exact a_nil ⟨_, _, rfl, ⟨h1, by omega⟩, fun _ => invR_as r h1⟩⟩
abbrev spBelow (C : Addr) : Sp := spP (A2 (rRat C) (rRat C)) (fun p => Sz 4000 p.1 ∧ Sz 4000 p.2) rBl fun p y => y = decide (p.1.num * (p.2.den : Int) < p.2.num * (p.1.den : Int))
theorem o_below (T : Tx K mg C) : OwnM P w K mg base C "is_below" 3 ["self", "other"] (spBelow C) :=
  T.m_is_below.own (fun _ _ _ _ _ _ us hl => match us, hl with | [_, _], _ => rfl) T.cls T.first fun f fd F => fnP F sc_Ratio_is_below (fun _ => rfl) fun cdv A outer s H E hr => ⟨_, (pss_one (ps_ret (pe_cmpR op_lt (pe_op op_mulW (kfld (K := K) rfl (pv 0) rfl) (pe_cal (c_bottom_ofR T) (hr.mono (by decide)) rfl (pa_cons (pv 1) pa_nil))) (pe_op op_mulW (pe_cal (c_top_ofR T) (hr.mono (by decide)) rfl (pa_cons (pv 1) pa_nil)) (kfld (K := K) rfl (pv 0) rfl)) (nomark _)))),
    fun x hp => by
      obtain ⟨q, r⟩ := x
      obtain ⟨h1, h2⟩ := hp
      have a1 := h1.num (by decide)
      have a2 := h1.den (by decide)
      have b1 := h2.num (by decide)
      have b2 := h2.den (by decide)
      dsimp only at a1 a2 b1 b2
      refine s_ret <| w_op0 o_cmp <| w_op o_intC <| w_fld T.cls T.no_top <| w_var rfl ⟨_, rfl, w_callP <| a_cons <| w_var rfl <| a_nil ⟨r, rfl, trivial, fun y hy => ⟨?_, ?_⟩⟩⟩
      · subst y
        exact cmul (by first | omega | (dsimp only; omega)) (by first | omega | (dsimp only; omega))
      subst y
      refine w_op o_intC <| w_callP <| a_cons <| w_var rfl <| a_nil ⟨r, rfl, trivial, fun y hy => w_fld T.cls T.no_bottom <| w_var rfl ⟨_, rfl, ?_, ?_⟩⟩
      · subst y
        exact cmul (by first | omega | (dsimp only; omega)) (by first | omega | (dsimp only; omega))
      subst y
      rfl⟩
abbrev spMost (C : Addr) : Sp := spP (A2 (rRat C) rInt) preRI rBl fun p y => y = decide (p.1.num ≤ p.2 * (p.1.den : Int))
theorem o_most (T : Tx K mg C) : OwnM P w K mg base C "is_at_most" 3 ["self", "other"] (spMost C) :=
  T.m_is_at_most.own (fun _ _ _ _ _ _ us hl => match us, hl with | [_, _], _ => rfl) T.cls T.first fun f fd F => fnP F sc_Ratio_is_at_most (fun _ => rfl) fun cdv A outer s H E hr => ⟨_, (pss_one (ps_ret (pe_cmpR op_le (pe_op op_mulW (kfld (K := K) rfl (pv 0) rfl) (pe_cal (c_bottom_ofI T) (hr.mono (by decide)) rfl (pa_cons (pv 1) pa_nil))) (pe_op op_mulW (pe_cal (c_top_ofI T) (hr.mono (by decide)) rfl (pa_cons (pv 1) pa_nil)) (kfld (K := K) rfl (pv 0) rfl)) (nomark _)))),
    fun x hp => by
      obtain ⟨q, i⟩ := x
      obtain ⟨h1, h2⟩ := hp
      have a1 := h1.num (by decide)
      have a2 := h1.den (by decide)
      have b1 := h2.log (by decide)
      dsimp only at a1 a2 b1
      refine s_ret <| w_op0 o_cmp <| w_op o_intC <| w_fld T.cls T.no_top <| w_var rfl ⟨_, rfl, w_callP <| a_cons <| w_var rfl <| a_nil ⟨i, rfl, trivial, fun y hy => ⟨?_, ?_⟩⟩⟩
      · subst y
        exact cmul (by first | omega | (dsimp only; omega)) (by decide)
      subst y
      refine w_op o_intC <| w_callP <| a_cons <| w_var rfl <| a_nil ⟨i, rfl, trivial, fun y hy => w_fld T.cls T.no_bottom <| w_var rfl ⟨_, rfl, ?_, ?_⟩⟩
      · subst y
        exact cmul (by first | omega | (dsimp only; omega)) (by first | omega | (dsimp only; omega))
      subst y
      dsimp only
      rw [Int.mul_one]⟩
end
section
variable {X : Cx} {C : Addr}
theorem op_addI (T : Tx X.K X.mg C) (hr : Room 4 X.A) : OpR X (binaryOp .Add) (rOwnI C (spAddI C)) := by
  obtain ⟨g, hg⟩ := T.radd
  obtain ⟨o1, h1⟩ := T.ii_add
  obtain ⟨o2, h2⟩ := T.ii_radd
  exact op_ownI (o_addI T) hr rfl hg (.inr ⟨g, rfl⟩) h1 h2 T.int_sub
theorem op_subI (T : Tx X.K X.mg C) (hr : Room 4 X.A) : OpR X (binaryOp .Sub) (rOwnI C (spSubI C)) := by
  obtain ⟨g, hg⟩ := T.rsub
  obtain ⟨o1, h1⟩ := T.ii_sub
  obtain ⟨o2, h2⟩ := T.ii_rsub
  exact op_ownI (o_subI T) hr rfl hg (.inr ⟨g, rfl⟩) h1 h2 T.int_sub
end
end K04
end

-- part LcPen
section
set_option Elab.async false
set_option linter.all false
set_option maxRecDepth 100000
set_option maxHeartbeats 400000
/-! # the pen: [cells, turn, left] -/
namespace L2.Lc
open PySem PySem.Spec PyProof.Rows L2
open Evl (Ex ex_l ex_t)
structure PenI where
  pa : Addr
  ca : Addr
  cells : List Int
def penOk (I : PenI) (st : Int × Int) (H : Hp) : Prop := H I.pa = some (.lst [.ref I.ca, .int st.1, .int st.2]) ∧ H I.ca = some (.lst (I.cells.map V.int)) ∧ I.pa ≠ I.ca
def mPen (I : PenI) : Md (Int × Int) := ⟨penOk I, fun a => a = I.pa ∨ a = I.ca, fun a => a = I.pa, fun _ h => .inl h,
  (fun {n H a} i f => by rcases f with rfl | rfl <;> simp [i.1, i.2.1]), (fun {n H H'} i f _ => ⟨(f _ (.inl rfl)).trans i.1, (f _ (.inr rfl)).trans i.2.1, i.2.2⟩), (fun {n H a} i f xs => by rw [show a = I.pa from f, i.1]; exact fun z => by cases z), fun _ _ _ => False, fun _ _ => False⟩
variable (K : PySem.W.Frag)

def rPen (_ : PySem.W.Frag) (I : PenI) : Rl Unit := ⟨fun G v _ => v = .ref I.pa ∧ G I.ca = some (.lst (I.cells.map V.int)) ∧ I.cells.length ≤ bigN, fun e ⟨h1, h2, h3⟩ => ⟨h1, e _ _ h2, h3⟩⟩
section
variable {K} {I : PenI} {Γ : Gm} {n : Int × Int} {α β : Type} {R : Rl α} {S : Rl β} {i : Nat}
theorem w_pen0 {Post : List Int → Int × Int → Prop} (h : Γ[i]? = some (some (.mk (rPen K I) ()))) (p : Post I.cells n) : EvW (mPen I) (tOp (rIxL K) (tVar i) (tC (.int 0))) Γ n (rLst K rInt) Post := fun M σ H c e Q k => by
  obtain ⟨v, h1, rfl, h2, h3⟩ := e.2 i _ h
  refine ⟨_, h1, _, _, 0, .ref I.ca, rfl, rfl, .of c.inv.1, rfl, k _ I.cells n H p .refl c.inv ⟨I.ca, _, rfl, h2, Al.of_ints _, h3⟩⟩
theorem w_pen1 {Post : Int → Int × Int → Prop} (h : Γ[i]? = some (some (.mk (rPen K I) ()))) (p : Post n.1 n) : EvW (mPen I) (tOp (rIxL K) (tVar i) (tC (.int 1))) Γ n rInt Post := fun M σ H c e Q k => by
  obtain ⟨v, h1, rfl, h2, h3⟩ := e.2 i _ h
  exact ⟨_, h1, _, _, 1, .int n.1, rfl, rfl, .of c.inv.1, rfl, k _ _ n H p .refl c.inv rfl⟩
theorem w_pen2 {Post : Int → Int × Int → Prop} (h : Γ[i]? = some (some (.mk (rPen K I) ()))) (p : Post n.2 n) : EvW (mPen I) (tOp (rIxL K) (tVar i) (tC (.int 2))) Γ n rInt Post := fun M σ H c e Q k => by
  obtain ⟨v, h1, rfl, h2, h3⟩ := e.2 i _ h
  exact ⟨_, h1, _, _, 2, .int n.2, rfl, rfl, .of c.inv.1, rfl, k _ _ n H p .refl c.inv rfl⟩
theorem pen_put {M : Addr → Prop} {H H1 : Hp} {n1 st : Int × Int} {σ : St} (c : Cond (mPen I) M H n) (e : EnvOk (hid M H) σ Γ) (e1 : ExM (mPen I) H H1) (i1 : (mPen I).inv n1 H1) :
    ExM (mPen I) H (upd H1 I.pa (.lst [.ref I.ca, .int st.1, .int st.2])) ∧ (mPen I).inv st (upd H1 I.pa (.lst [.ref I.ca, .int st.1, .int st.2])) ∧ EnvOk (hid M (upd H1 I.pa (.lst [.ref I.ca, .int st.1, .int st.2]))) σ Γ := by
  refine ⟨fun b o nb q => by rw [upd_ne nb]; exact e1 b o nb q, ⟨upd_same, by rw [upd_ne (Ne.symm i1.2.2)]; exact i1.2.1, i1.2.2⟩, (e.mono (e1.hid c.mm)).mono fun b o q => ?_⟩
  obtain ⟨nb, q⟩ := hid_some q
  rw [hid_no nb, upd_ne (fun z => nb (by rw [z]; exact c.mm I.pa rfl))]
  exact q
theorem s_pen1 {te : TE} {D : Dn (Int × Int) β} (h : EvW (mPen I) te Γ n rInt fun y n1 => Γ[i]? = some (some (.mk (rPen K I) ())) ∧ D.nx Γ (y, n1.2)) : StW (mPen I) (tAsg te (gSub (tVar i) (tC (.int 1)) rSetL)) Γ n S D := fun M σ H c e E k =>
  h M σ H c e _ fun v y n1 H1 p1 e1 i1 r1 => by
    have r1 : v = .int y := r1
    subst r1
    obtain ⟨h1, h2⟩ := p1
    obtain ⟨u, q1, rfl, q2, q3⟩ := e.2 i _ h1
    obtain ⟨z1, z2, z3⟩ := pen_put (st := (y, n1.2)) c e e1 i1
    exact ⟨_, q1, _, _, 1, 1, rfl, rfl, i1.1, rfl, k.nx Γ _ σ _ h2 z1 z2 z3⟩
theorem s_pen2 {te : TE} {D : Dn (Int × Int) β} (h : EvW (mPen I) te Γ n rInt fun y n1 => Γ[i]? = some (some (.mk (rPen K I) ())) ∧ D.nx Γ (n1.1, y)) : StW (mPen I) (tAsg te (gSub (tVar i) (tC (.int 2)) rSetL)) Γ n S D := fun M σ H c e E k =>
  h M σ H c e _ fun v y n1 H1 p1 e1 i1 r1 => by
    have r1 : v = .int y := r1
    subst r1
    obtain ⟨h1, h2⟩ := p1
    obtain ⟨u, q1, rfl, q2, q3⟩ := e.2 i _ h1
    obtain ⟨z1, z2, z3⟩ := pen_put (st := (n1.1, y)) c e e1 i1
    exact ⟨_, q1, _, _, 2, 2, rfl, rfl, i1.1, rfl, k.nx Γ _ σ _ h2 z1 z2 z3⟩
/-- a fresh pen, as a law makes it -/

def rPen0 (_ : PySem.W.Frag) : Rl (List Int) := ⟨fun G v l => ∃ a c, v = .ref a ∧ G a = some (.lst [.ref c, .int 0, .int 0]) ∧ G c = some (.lst (l.map V.int)) ∧ l.length ≤ bigN, fun e ⟨a, c, h1, h2, h3, h4⟩ => ⟨a, c, h1, e _ _ h2, e _ _ h3, h4⟩⟩
end
end L2.Lc
end

-- part K04D
section
set_option Elab.async false
set_option linter.all false
set_option maxRecDepth 100000
set_option maxHeartbeats 400000
namespace K04
open PySem PySem.Spec PyProof.Rows L2 L2.Lc
section
variable {P : Program} {w : World} {K : PySem.W.Frag} {mg : Str → Option Value} {base : Heap} {C : Addr}
abbrev preDraw : Int → Int × Int → Prop := fun many n => 0 ≤ n.1 ∧ n.1 < 1000000 ∧ many < 2 ^ 8000
abbrev postDraw : Int → Int × Int → Int → Int × Int → Prop := fun many n r n' => (n.1 ≤ n'.1 ∧ n'.1 ≤ n.1 + 1) ∧ 0 ≤ r ∧ (2 ≤ many → r < many) ∧ (many < 2 → r = 0)
abbrev spDraw (K : PySem.W.Frag) : Sp := spS mPen (fun I many => [.mk (rPen K I) (), .mk rInt many]) preDraw rInt postDraw
theorem log_lt {i : Int} {k : Nat} (hk : 0 < k) (h0 : 0 ≤ i) (h : i < 2 ^ k) : i.natAbs.log2 < k := PySem.Flt.log2_lt_of hk (by
  have e : ((2 ^ k : Nat) : Int) = 2 ^ k := by simp
  omega)
set_option maxHeartbeats 1000000 in
theorem c_law_draw (T : Tx K mg C) : Cal P w K mg base "_law_draw" 1 ["pen", "many"] (spDraw K) :=
  T.d_law_draw.cal (fun _ _ _ _ _ _ us hl => match us, hl with | [_, _], _ => rfl) fun f fd F => fnS F sc_law_draw (fun _ _ => rfl) fun cdv A outer s H E hr => ⟨_, (pss_cons (ps_if (pt_cmpR op_lt (pv 1) pe_int (nomark _)) (pss_one (ps_ret pe_int)) pss_nil)
  (pss_cons (ps_if (pt_cmpR op_gt (pe_ix (ix_listK (K := K) rfl) (pv 0) pe_int (fun _ _ => rfl)) pe_int (nomark _)) (pss_cons (ps_set (i := 2) sc_law_draw.nd rfl (by first | exact Or.inl rfl | exact Or.inr rfl) (pe_callTy (r := rIntOf) call_int1 (by rfl) T.f_int boot_int (pa_cons (pe_ix (ix_listK (K := K) rfl) (pv 0) pe_int (fun _ _ => rfl)) pa_nil)))
  (pss_cons (ps_asg (pe_op op_fdivW (pv 2) (pv 1)) (pg_sub (pv 0) pe_int set_list))
  (pss_one (ps_ret (pe_op op_mod (pe_callTy (r := rIntOf) call_int1 (by rfl) T.f_int boot_int (pa_cons (pv 2) pa_nil)) (pv 1)))))) pss_nil)
  (pss_cons (ps_set (i := 3) sc_law_draw.nd rfl (by first | exact Or.inl rfl | exact Or.inr rfl) (pe_ix (ix_listK (K := K) rfl) (pv 0) pe_int (fun _ _ => rfl)))
  (pss_cons (ps_asg (pe_op op_add (pv 3) pe_int) (pg_sub (pv 0) pe_int set_list))
  (pss_cons (ps_set (i := 4) sc_law_draw.nd rfl (by first | exact Or.inl rfl | exact Or.inr rfl) (pe_op op_add (pe_op op_mul pe_int (pv 3)) pe_int))
  (pss_cons (ps_if (pt_cmpR (op_neDK (K := K) rfl hr.units) (pe_ix (ix_listK (K := K) rfl) (pv 0) pe_int (fun _ _ => rfl)) (pe_lst pa_nil) (nomark _)) (pss_one (ps_set (i := 4) sc_law_draw.nd rfl (by first | exact Or.inl rfl | exact Or.inr rfl) (pe_ix (ix_listK (K := K) rfl) (pe_ix (ix_listK (K := K) rfl) (pv 0) pe_int (fun _ _ => rfl)) (pe_op op_mod (pe_callTy (r := rIntOf) call_int1 (by rfl) T.f_int boot_int (pa_cons (pv 3) pa_nil)) (pe_callB (r := rLenOf K) call_len (by rfl) T.f_len boot_len (pa_cons (pe_ix (ix_listK (K := K) rfl) (pv 0) pe_int (fun _ _ => rfl)) pa_nil))) (fun _ _ => rfl)))) pss_nil)
  (pss_cons (ps_if (PW.pt (pw_and (pt_cmpR op_lt (pv 3) (pe_callB (r := rLenOf K) call_len (by rfl) T.f_len boot_len (pa_cons (pe_ix (ix_listK (K := K) rfl) (pv 0) pe_int (fun _ _ => rfl)) pa_nil)) (nomark _)) (pw_and1 (pt_cmpR op_ge (pe_callB call_abs (by rfl) T.f_abs boot_abs (pa_cons (pv 4) pa_nil)) (pe_op op_pow pe_int pe_int) (nomark _))))) (pss_cons (ps_set (i := 2) sc_law_draw.nd rfl (by first | exact Or.inl rfl | exact Or.inr rfl) (pe_op op_add (pe_op op_mul pe_int (pe_op op_sub (pe_callB call_abs (by rfl) T.f_abs boot_abs (pa_cons (pv 4) pa_nil)) (pe_op op_pow pe_int pe_int))) (pe_callTy (r := rIntOf) call_int1 (by rfl) T.f_int boot_int (pa_cons (pe_cmpR op_lt (pv 4) pe_int (nomark _)) pa_nil))))
  (pss_cons (ps_asg (pe_op op_fdivW (pv 2) (pv 1)) (pg_sub (pv 0) pe_int set_list))
  (pss_one (ps_ret (pe_op op_mod (pe_callTy (r := rIntOf) call_int1 (by rfl) T.f_int boot_int (pa_cons (pv 2) pa_nil)) (pv 1)))))) pss_nil)
  (pss_cons (ps_set (i := 5) sc_law_draw.nd rfl (by first | exact Or.inl rfl | exact Or.inr rfl) (pe_op op_mod (pe_callTy (r := rIntOf) call_int1 (by rfl) T.f_int boot_int (pa_cons (pe_op op_pow (pe_op op_add (pe_op op_add (pe_op op_mod (pe_callTy (r := rIntOf) call_int1 (by rfl) T.f_int boot_int (pa_cons (pv 4) pa_nil)) pe_int) (pe_op op_mul pe_int (pv 3))) pe_int) pe_int) pa_nil)) pe_int))
  (pss_cons (ps_set (i := 5) sc_law_draw.nd rfl (by first | exact Or.inl rfl | exact Or.inr rfl) (pe_op op_mod (pe_callTy (r := rIntOf) call_int1 (by rfl) T.f_int boot_int (pa_cons (pe_op op_pow (pe_op op_add (pe_op op_add (pe_op op_mulW (pv 5) (pe_op op_add (pe_op op_mul pe_int (pv 3)) pe_int)) (pe_op op_mulW (pe_op op_mul pe_int (pv 3)) (pv 3))) pe_int) pe_int) pa_nil)) pe_int))
  (pss_one (ps_ret (pe_op op_mod (pe_callTy (r := rIntOf) call_int1 (by rfl) T.f_int boot_int (pa_cons (pe_op op_fdivW (pv 5) pe_int) pa_nil)) (pv 1))))))))))))),
    fun I many n hp => by
      obtain ⟨turn, left⟩ := n
      obtain ⟨h1, h2, h3⟩ := hp
      dsimp only at h1 h2
      refine s_seq (s_if (t_test (w_op0 o_cmp (w_var rfl (w_int ⟨fun z => s_ret (w_int ?_), fun z => s_next ?_⟩)))))
      · have z := of_decide_eq_true z
        exact ⟨by dsimp only; omega, by omega, by omega, by omega⟩
      have z2 : 2 ≤ many := by have := of_decide_eq_false z; omega
      clear z
      have hm : 0 < many := by omega
      have hl : many.natAbs.log2 < 9000 := Nat.lt_trans (log_lt (by decide) (by omega) h3) (by decide)
      have modok : ∀ x : Int, 0 ≤ x % many ∧ (2 ≤ many → x % many < many) ∧ (many < 2 → x % many = 0) := fun x => ⟨Int.emod_nonneg _ (by omega), fun _ => Int.emod_lt_of_pos _ hm, fun z => by omega⟩
      refine s_seq (s_if (t_test (w_op0 o_cmp (w_pen2 rfl (w_int ⟨fun z => ?_, fun z => s_next ?_⟩)))))
      · refine s_seq (s_set (w_cb (a_cons (w_pen2 rfl (a_nil ⟨_, c_int, ?_⟩)))))
        refine s_seq (s_pen2 (w_op o_intC (w_var rfl (w_var rfl ⟨⟨hm, hl⟩, rfl, ?_⟩))))
        refine s_ret (w_op o_intC (w_cb (a_cons (w_var rfl (a_nil ⟨_, c_int, w_var rfl ⟨hm, ?_⟩⟩)))))
        exact ⟨by dsimp only; omega, modok _⟩
      refine s_seq (s_set (w_pen1 rfl ?_))
      refine s_seq (s_pen1 (w_op0 o_int (w_var rfl (w_int ⟨rfl, ?_⟩))))
      refine s_seq (s_set (w_op0 o_int (w_op o_intC (w_int (w_var rfl ⟨.inl ⟨by decide, by decide⟩, w_int ?_⟩)))))
      refine s_mid (fun Γ1 n1 => ∃ cell : Int, Γ1 = [some (.mk (rPen K I) ()), some (.mk rInt many), none, some (.mk rInt turn), some (.mk rInt cell), none] ∧ n1 = (turn + 1, left)) ?_ ?_
      · refine s_if (t_test (w_op0 (o_neD (dat_lst dat_int) (by decide) (eq_lst eq_int)) (w_pen0 rfl (w_lst (R := rInt) (a_nil ⟨[], rfl, by decide, fun z => ?_, fun z => s_next ⟨_, rfl, rfl⟩⟩)))))
        have hne : I.cells ≠ [] := by
          intro e
          rw [e] at z
          simp at z
        have hlen : 0 < I.cells.length := List.length_pos_iff.mpr hne
        have hb1 : 0 ≤ turn % (I.cells.length : Int) := Int.emod_nonneg _ (by omega)
        have hb2 : turn % (I.cells.length : Int) < (I.cells.length : Int) := Int.emod_lt_of_pos _ (by omega)
        have hat : atI I.cells (turn % (I.cells.length : Int)) = some (I.cells[(turn % (I.cells.length : Int)).toNat]'(by omega)) := by
          have := atI_nat (l := I.cells) (i := (turn % (I.cells.length : Int)).toNat) (List.getElem?_eq_getElem (by omega))
          rw [Int.toNat_of_nonneg hb1] at this
          exact this
        exact s_set (w_opP o_ixL (w_pen0 rfl (w_op o_intC (w_cb (a_cons (w_var rfl (a_nil ⟨_, c_int, w_cb (a_cons (w_pen0 rfl (a_nil ⟨_, c_lenL, by omega, _, hat, ⟨_, rfl, rfl⟩⟩)))⟩)))))))
      rintro Γ1 n1 ⟨cell, rfl, rfl⟩
      refine s_mid (fun Γ1 n1 => ∃ o, Γ1 = [some (.mk (rPen K I) ()), some (.mk rInt many), o, some (.mk rInt turn), some (.mk rInt cell), none] ∧ n1 = (turn + 1, left)) ?_ ?_
      · refine s_if (t_and (t_test (w_op0 o_cmp (w_var rfl (w_cb (a_cons (w_pen0 rfl (a_nil ⟨_, c_lenL, fun z => ?_, fun z => ⟨fun z => (by cases z), fun _ => s_next ⟨_, rfl, rfl⟩⟩⟩))))))))
        refine t_test (w_op0 o_cmp (w_cb (a_cons (w_var rfl (a_nil ⟨_, c_abs, w_op o_intC (w_int (w_int ⟨⟨by decide, by decide, by decide⟩, fun z => ?_, fun z => s_next ⟨_, rfl, rfl⟩⟩))⟩)))))
        refine s_seq (s_set (w_op0 o_int (w_op o_intC (w_int (w_op0 o_int (w_cb (a_cons (w_var rfl (a_nil ⟨_, c_abs, w_op o_intC (w_int (w_int ⟨⟨by decide, by decide, by decide⟩, .inl ⟨by decide, by decide⟩, w_cb (a_cons (w_op0 o_cmp (w_var rfl (w_int (a_nil ⟨_, c_intB, ?_⟩)))))⟩))⟩)))))))))
        refine s_seq (s_pen2 (w_op o_intC (w_var rfl (w_var rfl ⟨⟨hm, hl⟩, rfl, ?_⟩))))
        refine s_ret (w_op o_intC (w_cb (a_cons (w_var rfl (a_nil ⟨_, c_int, w_var rfl ⟨hm, ?_⟩⟩)))))
        exact ⟨by dsimp only; omega, modok _⟩
      rintro Γ1 n1 ⟨o, rfl, rfl⟩
      have k1 : (0 : Int) ≤ cell % 2147483423 := Int.emod_nonneg _ (by decide)
      have k2 : cell % 2147483423 < 2147483423 := Int.emod_lt_of_pos _ (by decide)
      refine s_seq (s_set (w_op o_intC (w_cb (a_cons (w_op o_intC (w_op0 o_int (w_op0 o_int (w_op o_intC (w_cb (a_cons (w_var rfl ?_)))))))))))
      refine a_nil ⟨_, c_int, w_int ⟨by decide, w_op o_intC (w_int (w_var rfl ⟨.inl ⟨by decide, by decide⟩, w_int (w_int ?_)⟩))⟩⟩
      refine ⟨⟨by decide, by decide, by omega⟩, a_nil ⟨_, c_int, w_int ⟨by decide, ?_⟩⟩⟩
      generalize hx : ((cell % 2147483423 + 51137 * turn + 7089) ^ (5 : Int).toNat) % 2147483423 = x
      have x1 : 0 ≤ x := by rw [← hx]; exact Int.emod_nonneg _ (by decide)
      have x2 : x < 2147483423 := by rw [← hx]; exact Int.emod_lt_of_pos _ (by decide)
      have y1 : x * (2 * turn + 7089) ≤ 2147483423 * 2007089 := Int.mul_le_mul (by omega) (by omega) (by omega) (by decide)
      have y2 : 0 ≤ x * (2 * turn + 7089) := Int.mul_nonneg x1 (by omega)
      have y3 : (7089 * turn) * turn ≤ 7089000000 * 1000000 := Int.mul_le_mul (by omega) (by omega) h1 (by decide)
      have y4 : 0 ≤ (7089 * turn) * turn := Int.mul_nonneg (by omega) h1
      have lx : x.natAbs.log2 < 31 := log_lt (by decide) x1 (by omega)
      have lt : turn.natAbs.log2 < 20 := log_lt (by decide) h1 (by omega)
      have l2 : (2 * turn + 7089).natAbs.log2 < 22 := log_lt (by decide) (by omega) (by omega)
      have l7 : (7089 * turn).natAbs.log2 < 33 := log_lt (by decide) (by omega) (by omega)
      refine s_seq <| s_set <| w_op o_intC <| w_cb <| a_cons <| w_op o_intC <| w_op0 o_int <| w_op0 o_int <| w_op o_intC <| w_var rfl <| w_op0 o_int <| w_op o_intC <| w_int <| w_var rfl ?_
      refine ⟨.inl ⟨by decide, by decide⟩, w_int ⟨?_, w_op o_intC (w_op o_intC (w_int (w_var rfl ⟨.inl ⟨by decide, by decide⟩, w_var rfl ⟨?_, w_int (w_int ?_)⟩⟩)))⟩⟩
      · show CMulW _ _
        unfold CMulW
        omega
      · show CMulW _ _
        unfold CMulW
        omega
      refine ⟨⟨by decide, by decide, by omega⟩, a_nil ⟨_, c_int, w_int ⟨by decide, ?_⟩⟩⟩
      refine s_ret (w_op o_intC (w_cb (a_cons (w_op o_intC (w_var rfl (w_int ⟨⟨by decide, by decide⟩, a_nil ⟨_, c_int, w_var rfl ⟨hm, ?_⟩⟩⟩))))))
      exact ⟨by dsimp only; omega, modok _⟩⟩
end
end K04
end

-- part K04E
section
set_option Elab.async false
set_option linter.all false
set_option maxRecDepth 100000
set_option maxHeartbeats 400000
namespace K04
open PySem PySem.Spec PyProof.Rows L2 L2.Lc
/-- a fraction as the law has it: a pair in lowest terms -/
def pq (q : Rat) : Int × Int := (q.num, (q.den : Int))
theorem pq_inj {q r : Rat} (h : pq q = pq r) : q = r := by
  have h1 := congrArg Prod.fst h
  have h2 := congrArg Prod.snd h
  refine Rat.ext h1 ?_
  have h2 : (q.den : Int) = (r.den : Int) := h2
  omega
section
variable {K : PySem.W.Frag} {Z : Type} {m : Md Z} {Γ : Gm} {n : Z} {ta : TE}
def rPq (K : PySem.W.Frag) : Rl Rat := ⟨fun G v q => (rPr K rInt rInt).r G v (pq q), fun e h => (rPr K rInt rInt).mono e h⟩
theorem w_pq {Post : Rat → Z → Prop} (h : EvW m ta Γ n (rPr K rInt rInt) fun p n1 => ∃ q, p = pq q ∧ Post q n1) : EvW m ta Γ n (rPq K) Post := fun M σ H c e Q k =>
  h M σ H c e _ fun v x n1 H1 ⟨q, h1, h2⟩ e1 i1 r1 => k v q n1 H1 h2 e1 i1 (by subst h1; exact r1)
theorem w_pq0 {Post : Int → Z → Prop} (h : EvW m ta Γ n (rPq K) fun q n1 => Post q.num n1) : EvW m (tOp (rIxT K) ta (tC (.int 0))) Γ n rInt Post :=
  w_fst (S := rInt) (fun M σ H c e Q k => h M σ H c e Q fun v q n1 H1 p e1 i1 r1 => k v (pq q) n1 H1 p e1 i1 r1)
theorem w_pq1 {Post : Int → Z → Prop} (h : EvW m ta Γ n (rPq K) fun q n1 => Post (q.den : Int) n1) : EvW m (tOp (rIxT K) ta (tC (.int 1))) Γ n rInt Post :=
  w_snd (R := rInt) (fun M σ H c e Q k => h M σ H c e Q fun v q n1 H1 p e1 i1 r1 => k v (pq q) n1 H1 p e1 i1 r1)
theorem tg_pq {i j : Nat} {q : Rat} {Post : Gm → Prop} (h : Post ((Γ.set i (some (.mk rInt q.num))).set j (some (.mk rInt (q.den : Int))))) : TgI ([i] ++ [j]) (gTup K 2 (gCons (gName i) (gCons (gName j) gNil))) (rPq K) q Γ Post :=
  tg_pair (R := rInt) (S := rInt) (x := q.num) (y := (q.den : Int)) (tg_name (tg_name h))
theorem dat_pq : DatW K (rPq K) (fun q => .tuple [.int q.num, .int (q.den : Int)]) 1 := ⟨fun r => (dat_pr dat_int dat_int).dp r, fun q => (dat_pr (K := K) dat_int dat_int).depth (pq q)⟩
theorem eq_pq : DatE (fun q : Rat => PyData.tuple [.int q.num, .int (q.den : Int)]) fun a b => decide (a = b) := ⟨fun a b => by
  have := (eq_pr eq_int eq_int).eqv (pq a) (pq b)
  show PyData.eqv (.tuple [.int (pq a).1, .int (pq a).2]) (.tuple [.int (pq b).1, .int (pq b).2]) = _
  rw [this]
  exact decide_eq_decide.mpr ⟨pq_inj, fun h => by rw [h]⟩⟩
end
theorem gcd_step (a b : Int) : Nat.gcd b.natAbs (a % b).natAbs = Nat.gcd a.natAbs b.natAbs := by
  show Int.gcd b (a % b) = Int.gcd a b
  rw [Int.gcd_comm b, Int.gcd_comm a]
  apply Nat.dvd_antisymm
  · refine Int.natCast_dvd_natCast.mp (Int.dvd_coe_gcd (Int.gcd_dvd_right ..) ?_)
    have h1 : ((Int.gcd (a % b) b : Nat) : Int) ∣ a % b := Int.gcd_dvd_left ..
    have h2 : ((Int.gcd (a % b) b : Nat) : Int) ∣ b := Int.gcd_dvd_right ..
    have := Int.dvd_add h1 (Int.dvd_mul_of_dvd_left (c := a / b) h2)
    rwa [Int.emod_add_mul_ediv] at this
  · refine Int.natCast_dvd_natCast.mp (Int.dvd_coe_gcd ?_ (Int.gcd_dvd_left ..))
    have h1 : ((Int.gcd b a : Nat) : Int) ∣ a := Int.gcd_dvd_right ..
    have h2 : ((Int.gcd b a : Nat) : Int) ∣ b := Int.gcd_dvd_left ..
    have := Int.dvd_sub h1 (Int.dvd_mul_of_dvd_left (c := a / b) h2)
    rwa [← Int.emod_def] at this
section
variable {P : Program} {w : World} {K : PySem.W.Frag} {mg : Str → Option Value} {base : Heap} {C : Addr}
abbrev spShared : Sp := spP (A2 rInt rInt) (fun p => 0 ≤ p.2) rInt fun p y => y = ((Nat.gcd p.1.natAbs p.2.natAbs : Nat) : Int)
theorem c_law_shared (T : Tx K mg C) : Cal P w K mg base "_law_shared" 1 ["one", "other"] spShared :=
  T.d_law_shared.cal (fun _ _ _ _ _ _ us hl => match us, hl with | [_, _], _ => rfl) fun f fd F => fnP F sc_law_shared (fun _ => rfl) fun cdv A outer s H E hr => ⟨_, (pss_cons (ps_while PassesOwn.never (pt_cmpR op_ne (pv 1) pe_int (nomark _)) (pss_one (ps_par (i := 0) (j := 1) rfl sc_law_shared.nd rfl rfl (by decide) rfl rfl (pa_cons (pv 1) (pa_cons (pe_op op_mod (pe_callTy (r := rIntOf) call_int1 (by rfl) T.f_int boot_int (pa_cons (pv 0) pa_nil)) (pv 1)) pa_nil)) rfl)))
  (pss_one (ps_ret (pe_callB call_abs (by rfl) T.f_abs boot_abs (pa_cons (pv 0) pa_nil))))),
    fun x hp => by
      obtain ⟨p, q⟩ := x
      refine s_seq <| s_while (fun k Γ _ => ∃ a b : Int, Γ = [some (.mk rInt a), some (.mk rInt b)] ∧ 0 ≤ b ∧ k = b.toNat ∧ Nat.gcd a.natAbs b.natAbs = Nat.gcd p.natAbs q.natAbs) q.toNat ⟨p, q, rfl, hp, rfl, rfl⟩ ?_
      rintro k Γ n ⟨a, b, rfl, hb, rfl, hg⟩
      refine t_test <| w_op0 o_neI <| w_var rfl <| w_int ⟨fun z => ?_, fun z => ?_⟩
      · have z : b ≠ 0 := by simpa using z
        have hb : 0 < b := by omega
        refine s_par <| a_cons <| w_var rfl <| a_cons <| w_op o_intC <| w_cb <| a_cons <| w_var rfl <| a_nil ⟨_, c_int, w_var rfl ⟨hb, a_nil ⟨_, _, rfl, _, ?_, b, a % b, rfl, Int.emod_nonneg _ (by omega), rfl, ?_⟩⟩⟩
        · have := Int.emod_lt_of_pos a hb
          have := Int.emod_nonneg a (b := b) (by omega)
          omega
        · rw [gcd_step]; exact hg
      · have z : b = 0 := by simpa using z
        subst z
        refine s_ret <| w_cb <| a_cons <| w_var rfl <| a_nil ⟨_, c_abs, ?_⟩
        rw [Int.natAbs_zero, Nat.gcd_zero_right] at hg
        dsimp only
        rw [← hg]
        split <;> omega⟩
abbrev spLow (K : PySem.W.Frag) : Sp := spP (A2 rInt rInt) preR (rPq K) fun p y => y = Rat.divInt p.1 p.2
theorem c_law_low (T : Tx K mg C) : Cal P w K mg base "_law_low" 2 ["top", "bottom"] (spLow K) :=
  T.d_law_low.cal (fun _ _ _ _ _ _ us hl => match us, hl with | [_, _], _ => rfl) fun f fd F => fnP F sc_law_low (fun _ => rfl) fun cdv A outer s H E hr => ⟨_, (pss_cons (ps_set (i := 2) sc_law_low.nd rfl (by first | exact Or.inl rfl | exact Or.inr rfl) (korT (K := K) rfl (pe_cal (c_law_shared T) (hr.mono (by decide)) rfl (pa_cons (pv 0) (pa_cons (pv 1) pa_nil))) (pe_one pe_int)))
  (pss_cons (ps_set (i := 2) sc_law_low.nd rfl (by first | exact Or.inl rfl | exact Or.inr rfl) (pe_ifExp (pt_cmpR op_lt (pv 1) pe_int (nomark _)) (pe_un un_neg (pv 2)) (pv 2)))
  (pss_one (ps_ret (pe_tup (pa_cons (pe_op op_fdivW (pe_callTy (r := rIntOf) call_int1 (by rfl) T.f_int boot_int (pa_cons (pv 0) pa_nil)) (pv 2)) (pa_cons (pe_op op_fdivW (pe_callTy (r := rIntOf) call_int1 (by rfl) T.f_int boot_int (pa_cons (pv 1) pa_nil)) (pv 2)) pa_nil))))))),
    fun x hp => by
      obtain ⟨p, q⟩ := x
      obtain ⟨h1, h2⟩ := hp
      dsimp only at h1 h2
      have hg : Nat.gcd p.natAbs q.natAbs ≠ 0 := fun z => by have := Nat.eq_zero_of_gcd_eq_zero_right z; omega
      have hg0 : (0 : Int) < ((Nat.gcd p.natAbs q.natAbs : Nat) : Int) := by omega
      refine s_seq <| s_set <| w_orT tru_int <| w_callP <| a_cons <| w_var rfl <| a_cons <| w_var rfl <| a_nil ⟨(p, q), rfl, Int.le_of_lt h1, fun y hy => ⟨fun _ => ?_, fun z => ?_⟩⟩
      · subst y
        refine s_seq <| s_set <| w_if <| t_test <| w_op0 o_cmp <| w_var rfl <| w_int ⟨fun z => ?_, fun _ => w_var rfl ?_⟩
        · have := of_decide_eq_true z
          omega
        refine s_ret <| w_pq <| w_pr <| w_op o_intC <| w_cb <| a_cons <| w_var rfl <| a_nil ⟨_, c_int, w_var rfl ⟨⟨hg0, gcd_log h1 h2⟩, ?_⟩⟩
        refine w_op o_intC <| w_cb <| a_cons <| w_var rfl <| a_nil ⟨_, c_int, w_var rfl ⟨⟨hg0, gcd_log h1 h2⟩, _, ?_, rfl⟩⟩
        exact Prod.ext (num_div h1) (den_div h1)
      · subst y
        simp at z
        omega⟩
abbrev spPlus (K : PySem.W.Frag) : Sp := spP (A2 (rPq K) (rPr K rInt rInt)) (fun p => Sz 4000 p.1 ∧ p.2.1.natAbs < 2 ^ 4000 ∧ 0 < p.2.2 ∧ p.2.2.natAbs < 2 ^ 4000) (rPq K) fun p y => y = p.1 + Rat.divInt p.2.1 p.2.2
theorem plus_as (q : Rat) (a b : Int) (hb : 0 < b) : Rat.divInt (q.num * b + a * (q.den : Int)) ((q.den : Int) * b) = q + Rat.divInt a b := by
  conv => rhs; rw [← Rat.num_divInt_den q]
  rw [Rat.divInt_add_divInt _ _ (by have := den_pos q; omega) (by omega)]
theorem c_law_plus (T : Tx K mg C) : Cal P w K mg base "_law_plus" 3 ["one", "other"] (spPlus K) :=
  T.d_law_plus.cal (fun _ _ _ _ _ _ us hl => match us, hl with | [_, _], _ => rfl) fun f fd F => fnP F sc_law_plus (fun _ => rfl) fun cdv A outer s H E hr => ⟨_, (pss_one (ps_ret (pe_cal (c_law_low T) (hr.mono (by decide)) rfl (pa_cons (pe_op op_add (pe_op op_mulW (pe_ix (ix_tupK (K := K) rfl) (pv 0) pe_int (fun _ _ => rfl)) (pe_ix (ix_tupK (K := K) rfl) (pv 1) pe_int (fun _ _ => rfl))) (pe_op op_mulW (pe_ix (ix_tupK (K := K) rfl) (pv 1) pe_int (fun _ _ => rfl)) (pe_ix (ix_tupK (K := K) rfl) (pv 0) pe_int (fun _ _ => rfl)))) (pa_cons (pe_op op_mulW (pe_ix (ix_tupK (K := K) rfl) (pv 0) pe_int (fun _ _ => rfl)) (pe_ix (ix_tupK (K := K) rfl) (pv 1) pe_int (fun _ _ => rfl))) pa_nil))))),
    fun x hp => by
      obtain ⟨q, a, b⟩ := x
      obtain ⟨h1, h2, h3, h4⟩ := hp
      dsimp only at h1 h2 h3 h4
      have a1 := h1.num (by decide)
      have a2 := h1.den (by decide)
      have b1 : a.natAbs.log2 < 4000 := PySem.Flt.log2_lt_of (by decide) h2
      have b2 : b.natAbs.log2 < 4000 := PySem.Flt.log2_lt_of (by decide) h4
      refine s_ret <| w_callP <| a_cons <| w_op0 o_int <| w_op o_intC <| w_pq0 <| w_var rfl <| w_snd (R := rInt) (S := rInt) <| w_var rfl ⟨?_, ?_⟩
      · show CMulW _ _
        unfold CMulW
        dsimp only
        omega
      refine w_op o_intC <| w_fst (R := rInt) (S := rInt) <| w_var rfl <| w_pq1 <| w_var rfl ⟨?_, ?_⟩
      · show CMulW _ _
        unfold CMulW
        dsimp only
        omega
      refine a_cons <| w_op o_intC <| w_pq1 <| w_var rfl <| w_snd (R := rInt) (S := rInt) <| w_var rfl ⟨?_, ?_⟩
      · show CMulW _ _
        unfold CMulW
        dsimp only
        omega
      refine a_nil ⟨(q.num * b + a * (q.den : Int), (q.den : Int) * b), rfl, ⟨Int.mul_pos (den_pos _) h3, ?_⟩, fun y hy => ?_⟩
      · dsimp only
        rw [Int.natAbs_mul, Int.natAbs_natCast]
        exact Nat.lt_trans (PySem.Flt.log2_lt_of (by decide) (mul_pow h1.2 h4)) (by decide)
      · rw [hy]; exact plus_as q a b h3⟩
abbrev preP : (Int × Int) × (Int × Int) → Prop := fun p => (Sz1 4000 p.1.1 ∧ Sz1 4000 p.1.2) ∧ Sz1 4000 p.2.1 ∧ Sz1 4000 p.2.2
abbrev rP (K : PySem.W.Frag) : Rl (Int × Int) := rPr K rInt rInt
abbrev spLess (K : PySem.W.Frag) : Sp := spP (A2 (rP K) (rP K)) preP rBl fun p y => y = decide (p.1.1 * p.2.2 < p.2.1 * p.1.2)
theorem c_law_is_less (T : Tx K mg C) : Cal P w K mg base "_law_is_less" 1 ["one", "other"] (spLess K) :=
  T.d_law_is_less.cal (fun _ _ _ _ _ _ us hl => match us, hl with | [_, _], _ => rfl) fun f fd F => fnP F sc_law_is_less (fun _ => rfl) fun cdv A outer s H E hr => ⟨_, (pss_one (ps_ret (pe_cmpR op_lt (pe_op op_mulW (pe_ix (ix_tupK (K := K) rfl) (pv 0) pe_int (fun _ _ => rfl)) (pe_ix (ix_tupK (K := K) rfl) (pv 1) pe_int (fun _ _ => rfl))) (pe_op op_mulW (pe_ix (ix_tupK (K := K) rfl) (pv 1) pe_int (fun _ _ => rfl)) (pe_ix (ix_tupK (K := K) rfl) (pv 0) pe_int (fun _ _ => rfl))) (nomark _)))),
    fun x hp => by
      obtain ⟨p, q⟩ := x
      obtain ⟨⟨h1, h2⟩, h3, h4⟩ := hp
      dsimp only at h1 h2 h3 h4
      have a1 := h1.log (by decide)
      have a2 := h2.log (by decide)
      have b1 := h3.log (by decide)
      have b2 := h4.log (by decide)
      refine s_ret <| w_op0 o_cmp <| w_op o_intC <| w_fst (R := rInt) (S := rInt) <| w_var rfl <| w_snd (R := rInt) (S := rInt) <| w_var rfl ⟨cm a1 b2, ?_⟩
      exact w_op o_intC <| w_fst (R := rInt) (S := rInt) <| w_var rfl <| w_snd (R := rInt) (S := rInt) <| w_var rfl ⟨cm b1 a2, rfl⟩⟩
/-- a fraction, read as the pair that it is -/
theorem w_qp {Z : Type} {m : Md Z} {Γ : Gm} {n : Z} {ta : TE} {Post : Int × Int → Z → Prop} (h : EvW m ta Γ n (rPq K) fun q n1 => Post (pq q) n1) : EvW m ta Γ n (rP K) Post := w_as pq (fun _ _ _ r => r) h
abbrev spRatio (K : PySem.W.Frag) (C : Addr) : Sp := spP (A1 (rPq K)) (Sz 4000) (rRat C) fun q y => y = q
theorem c_law_ratio (T : Tx K mg C) : Cal P w K mg base "_law_ratio" 4 ["one"] (spRatio K C) :=
  T.d_law_ratio.cal (fun _ _ _ _ _ _ us hl => match us, hl with | [_], _ => rfl) fun f fd F => fnP F sc_law_ratio (fun _ => rfl) fun cdv A outer s H E hr => ⟨_, (pss_one (ps_ret (pe_mkC (mk_Ratio T) (hr.mono (by decide)) rfl (pa_cons (pe_ix (ix_tupK (K := K) rfl) (pv 0) pe_int (fun _ _ => rfl)) (pa_cons (pe_ix (ix_tupK (K := K) rfl) (pv 0) pe_int (fun _ _ => rfl)) pa_nil))))),
    fun q hp => s_ret <| w_ratio <| a_cons <| w_pq0 <| w_var rfl <| a_cons <| w_pq1 <| w_var rfl <| a_nil ⟨_, _, rfl, ⟨den_pos q, Nat.lt_trans (hp.den (by decide)) (by decide)⟩, Rat.num_divInt_den q⟩⟩
abbrev spPair (K : PySem.W.Frag) (C : Addr) : Sp := spP (A1 (rRat C)) (fun _ => True) (rPq K) fun q y => y = q
theorem c_law_pair (T : Tx K mg C) : Cal P w K mg base "_law_pair" 1 ["told"] (spPair K C) :=
  T.d_law_pair.cal (fun _ _ _ _ _ _ us hl => match us, hl with | [_], _ => rfl) fun f fd F => fnP F sc_law_pair (fun _ => rfl) fun cdv A outer s H E hr => ⟨_, (pss_one (ps_ret (pe_tup (pa_cons (kfld (K := K) rfl (pv 0) rfl) (pa_cons (kfld (K := K) rfl (pv 0) rfl) pa_nil))))),
    fun q hp => s_ret <| w_pq <| w_pr <| w_fld T.cls T.no_top <| w_var rfl ⟨_, rfl, w_fld T.cls T.no_bottom <| w_var rfl ⟨_, rfl, q, rfl, rfl⟩⟩⟩
end
end K04
end

-- part LcPenUp
section
set_option Elab.async false
set_option linter.all false
set_option maxRecDepth 100000
set_option maxHeartbeats 400000
/-! # a pen is made, and drawn from -/
namespace L2.Lc
open PySem PySem.Spec PyProof.Rows L2
open Evl (Ex ex_l ex_t)
section
variable {K : PySem.W.Frag} {α β γ : Type} {S : Rl β} {Γ : Gm}
theorem w_pen0mk {Z : Type} {m : Md Z} {n : Z} {te : TE} {Post : List Int → Z → Prop} (h : EvW m te Γ n (rLst K rInt) Post) : EvW m (tLst (tCons te (tCons (tC (.int 0)) (tCons (tC (.int 0)) tNil)))) Γ n (rPen0 K) Post := fun M σ H c e Q k =>
  h M σ H c e _ fun v l n1 H1 p1 e1 i1 r1 => by
    obtain ⟨ca, vs, rfl, h2, hA, hl⟩ := r1
    have hv := Al.ints hA
    subst hv
    refine ⟨by show 3 ≤ sizeLine; decide, fun q hq => ?_⟩
    have x := Evl.Ex.new (o := HO.lst [V.ref ca, .int 0, .int 0]) hq
    exact k _ l n1 _ p1 (e1.trans (.of x)) (m.kept i1 x) ⟨q, ca, rfl, new_l hq (c.go e1 i1).good, hid_mono x _ _ h2, hl⟩
/-- what a pen's maker promises -/
abbrev spPen (K : PySem.W.Frag) : Sp := spP (fun l : List Int => [Ent.mk (rSql K rInt) l]) (fun _ => True) (rPen0 K) fun l y => y = l.take 63
theorem s_penStart {i b : Nat} {l : List Int} {E0' : XK} {rest : TS} {D : Dn Unit β} (hb : Γ[b]? = some (some (.mk (rSql K rInt) l)))
    (h : ∀ I : PenI, I.cells = l.take 63 → StW (mPen I) rest (Γ.set i (some (.mk (rPen K I) ()))) (0, 0) S { nx := fun _ _ => False, rt := fun y _ => D.rt y () }) :
    StW pm (tSeq (tAsg (tCall (spPen K) [] E0' (tCons (tVar b) tNil)) (gName i)) rest) Γ () S D := fun M σ H c e E k => by
  obtain ⟨v, g1, g2⟩ := e.2 b _ hb
  obtain ⟨sa, vs, rfl, hs, hA, hl⟩ := g2
  have hv := Al.ints hA
  subst hv
  refine ⟨_, g1, ?_⟩
  show spPen K ([V.ref sa] ++ []) H _ E0'
  obtain ⟨N, gN, hsN, out⟩ : ∃ N : Addr → Prop, Good N H ∧ SqL K (hid N H) sa (l.map V.int) ∧ ∀ a, ¬ N a → H a = none ∨ (∃ xs, H a = some (.tup xs)) ∨ (¬ M a ∧ (H a = some (.lst (l.map V.int)) ∨ ∃ od, H a = some (.frz od (.lst (l.map V.int))))) := by
    have split : ∀ {a : Addr}, (¬ ∃ o, H a = some o ∧ NoT o) → H a = none ∨ ∃ xs, H a = some (.tup xs) := fun {a} na => by
      cases q : H a with
      | none => exact .inl rfl
      | some o =>
        right
        by_cases z : ∃ xs, o = .tup xs
        · obtain ⟨xs, rfl⟩ := z
          exact ⟨xs, rfl⟩
        · exact absurd ⟨o, q, fun xs e => z ⟨xs, e⟩⟩ na
    have dyn : ∀ o, hid M H sa = some o → (o = .lst (l.map V.int) ∨ ∃ od, o = .frz od (.lst (l.map V.int))) → ∃ N : Addr → Prop, Good N H ∧ hid N H sa = some o ∧ ∀ a, ¬ N a → H a = none ∨ (∃ xs, H a = some (.tup xs)) ∨ (¬ M a ∧ (H a = some (.lst (l.map V.int)) ∨ ∃ od, H a = some (.frz od (.lst (l.map V.int))))) := fun o q ho => by
      obtain ⟨nm, q⟩ := hid_some q
      refine ⟨fun a => (∃ o, H a = some o ∧ NoT o) ∧ a ≠ sa, fun a z => z.1, by rw [hid_no fun z => z.2 rfl]; exact q, fun a na => ?_⟩
      by_cases e : a = sa
      · subst e
        refine .inr (.inr ⟨nm, ?_⟩)
        rcases ho with rfl | ⟨od, rfl⟩
        · exact .inl q
        · exact .inr ⟨od, q⟩
      · exact (split fun z => na ⟨z, e⟩).elim .inl fun z => .inr (.inl z)
    rcases hs with (q | ⟨od, q⟩) | q
    · obtain ⟨N, n1, n2, n3⟩ := dyn _ q (.inl rfl)
      exact ⟨N, n1, .inl (.inl n2), n3⟩
    · obtain ⟨N, n1, n2, n3⟩ := dyn _ q (.inr ⟨od, rfl⟩)
      exact ⟨N, n1, .inl (.inr ⟨od, n2⟩), n3⟩
    · exact ⟨fun a => ∃ o, H a = some o ∧ NoT o, fun a z => z, .inr q, fun a na => (split na).elim .inl fun z => .inr (.inl z)⟩
  refine ⟨N, l, gN, ⟨⟨sa, _, rfl, hsN, hA.mono fun _ _ q => q, hl⟩, trivial⟩, trivial, fun v y H' po ex r => ?_⟩
  obtain rfl : y = l.take 63 := po
  obtain ⟨pa, ca, rfl, h2, h3, h4⟩ := r
  obtain ⟨np, h2⟩ := hid_some h2
  obtain ⟨nc, h3⟩ := hid_some h3
  have nInt : ∀ m : List Int, (HO.lst [V.ref ca, .int 0, .int 0] : HO) ≠ .lst (m.map V.int) := fun m z => by
    have z := HO.lst.inj z
    cases m with
    | nil => cases z
    | cons i m => cases (List.cons.inj z).1
  have free : H pa = none := by
    rcases out pa np with z | ⟨xs, z⟩ | ⟨_, z | ⟨od, z⟩⟩
    · exact z
    · have := ex _ _ z
      rw [h2] at this; cases this
    · have := ex _ _ z
      rw [h2] at this
      exact absurd (Option.some.inj this) (nInt l)
    · have := ex _ _ z
      rw [h2] at this; cases this
  have nMp : ¬ M pa := c.good.fresh free
  have nMc : ¬ M ca := by
    rcases out ca nc with z | ⟨xs, z⟩ | ⟨z, _⟩
    · exact c.good.fresh z
    · exact c.good.tup z
    · exact z
  have hne : pa ≠ ca := fun z => by
    rw [← z, h2] at h3
    exact nInt _ (Option.some.inj h3)
  have key := h ⟨pa, ca, l.take 63⟩ rfl
  refine key (fun a => M a ∨ a = pa) _ _ ⟨fun a ma => ?_, fun a z => .inr z, ⟨h2, h3, hne⟩, fun _ _ _ _ _ z => z.elim⟩ ?_ E ⟨fun _ _ _ _ z => z.elim, ?_, fun _ _ _ _ z => z.elim, fun _ _ _ _ z => z.elim⟩
  · rcases ma with ma | rfl
    · obtain ⟨o, q1, q2⟩ := c.good a ma
      exact ⟨o, ex a o q1, q2⟩
    · exact ⟨_, h2, fun _ z => by cases z⟩
  · refine (e.mono fun a o q => ?_).set (e := .mk (rPen K ⟨pa, ca, l.take 63⟩) ()) ⟨rfl, ?_, h4⟩
    · obtain ⟨na, q⟩ := hid_some q
      rw [hid_no fun z => z.elim na fun z => by rw [z, free] at q; cases q]
      exact ex a o q
    · show hid _ _ ca = some (.lst ((l.take 63).map V.int))
      rw [hid_no fun z => z.elim nMc fun z => hne z.symm]
      exact h3
  · intro y n' v H2 p e1 i1 r1
    refine k.rt y () v H2 p (fun a o na q => e1 a o (fun z => by rw [show a = pa from z, free] at q; cases q) (ex a o q)) trivial ?_
    exact S.mono (fun a o q => by
      obtain ⟨na, q⟩ := hid_some q
      rw [hid_no fun z => na (.inl z)]; exact q) r1
end
end L2.Lc
end

-- part K04F
section
set_option Elab.async false
set_option linter.all false
set_option maxRecDepth 100000
set_option maxHeartbeats 400000
namespace K04
open PySem PySem.Spec PyProof.Rows L2 L2.Lc
theorem atI_some {α : Type} {l : List α} {r : Int} (h0 : 0 ≤ r) (h : r < (l.length : Int)) : ∃ x, atI l r = some x ∧ x ∈ l ∧ l[r.toNat]? = some x := by
  have hl : r.toNat < l.length := by omega
  refine ⟨l[r.toNat], ?_, List.getElem_mem hl, List.getElem?_eq_getElem hl⟩
  have := L2.Lc.atI_nat (List.getElem?_eq_getElem hl)
  rwa [Int.toNat_of_nonneg h0] at this
section
variable {P : Program} {w : World} {K : PySem.W.Frag} {mg : Str → Option Value} {base : Heap} {C : Addr}
abbrev smallN (n : Int × Int) : Prop := 0 ≤ n.1 ∧ n.1 < 1000000
abbrev spPick (K : PySem.W.Frag) {α : Type} (R : Rl α) : Sp := spS mPen (fun I (l : List α) => [.mk (rPen K I) (), .mk (rLst K R) l]) (fun l n => l ≠ [] ∧ l.length ≤ 1000 ∧ smallN n) R fun l n y n' => y ∈ l ∧ n.1 ≤ n'.1 ∧ n'.1 ≤ n.1 + 1
theorem c_law_pick {α : Type} {R : Rl α} (T : Tx K mg C) : Cal P w K mg base "_law_pick" 2 ["pen", "some"] (spPick K R) :=
  T.d_law_pick.cal (fun _ _ _ _ _ _ us hl => match us, hl with | [_, _], _ => rfl) fun f fd F => fnS F sc_law_pick (fun _ _ => rfl) fun cdv A outer s H E hr => ⟨_, (pss_one (ps_ret (pe_ix (ix_listK (K := K) rfl) (pv 1) (pe_cal (c_law_draw T) (hr.mono (by decide)) rfl (pa_cons (pv 0) (pa_cons (pe_callB (r := rLenOf K) call_len (by rfl) T.f_len boot_len (pa_cons (pv 1) pa_nil)) pa_nil))) (fun _ _ => rfl)))),
    fun I l n hp => by
      obtain ⟨h1, h2, h3⟩ := hp
      have hl : 0 < l.length := List.length_pos_iff.mpr h1
      refine s_ret <| w_opP o_ixL <| w_var rfl <| w_callS I <| a_cons <| w_var rfl <| a_cons <| w_cb <| a_cons <| w_var rfl <| a_nil ⟨_, c_lenL, a_nil ⟨(l.length : Int), rfl, ⟨h3.1, h3.2, ?_⟩, fun r n2 hr => ?_⟩⟩
      · have : (l.length : Int) < 2 ^ 64 := by omega
        have h5 : (2 : Int) ^ 64 < 2 ^ 8000 := by decide +kernel
        omega
      · obtain ⟨q1, q2, q3, q4⟩ := hr
        have : r < (l.length : Int) := by
          by_cases z : 2 ≤ (l.length : Int)
          · exact q3 z
          · have := q4 (by omega); omega
        obtain ⟨x, hx, hm, _⟩ := atI_some q2 this
        exact ⟨x, hx, hm, q1⟩⟩
abbrev spUnlike (K : PySem.W.Frag) : Sp := spP (A2 (rPq K) (rPq K)) (fun p => p.1 = p.2 ∧ Sz 1900 p.1) rBl fun _ y => y = false
theorem txt_len {x y : Int} (hx : x.natAbs.log2 < 1920) (hy : y.natAbs.log2 < 1920) : (tupTxt [x, y]).length ≤ sizeLine := by
  have e1 := int_text_length_le (k := 1920) (by decide) hx
  have e2 := int_text_length_le (k := 1920) (by decide) hy
  have e3 := join_length_add [((toString x : String) : Str), ((toString y : String) : Str)] (by simp)
  unfold tupTxt tupleText
  rw [strLen_append, strLen_append]
  show (("(" : String) : Str).length + (Str.join ", " [((toString x : String) : Str), ((toString y : String) : Str)]).length + ((")" : String) : Str).length ≤ sizeLine
  have l1 : (("(" : String) : Str).length = 1 := rfl
  have l2 : ((")" : String) : Str).length = 1 := rfl
  have p1 : (((toString x : String) : Str)).length = (toString x).length := PySem.ofString_length _
  have p2 : (((toString y : String) : Str)).length = (toString y).length := PySem.ofString_length _
  simp only [piled_cons] at e3
  rw [p1, p2] at e3
  have e4 : piled [] = 0 := rfl
  rw [sizeLine_eq]
  omega
theorem c_law_unlike (T : Tx K mg C) : CalG P w K mg base "_law_unlike" 1 ["told", "due"] (spUnlike K) :=
  T.d_law_unlike.calG (fun _ _ _ _ _ _ us hl => match us, hl with | [_, _], _ => rfl) fun f fd F => fnPG F sc_law_unlike (fun _ => rfl) fun cdv A outer s H E hr hgd => ⟨_, (pss_one (ps_ret (pe_cmpR op_ne (pe_callB (r := rReprT K) (cr_reprT hgd hr.units) (by rfl) T.f_repr boot_repr (pa_cons (pv 0) pa_nil)) (pe_callB (r := rReprT K) (cr_reprT hgd hr.units) (by rfl) T.f_repr boot_repr (pa_cons (pv 1) pa_nil)) (nomark _)))),
    fun x hp => by
      obtain ⟨q, r⟩ := x
      obtain ⟨h1, h2⟩ := hp
      have h1 : q = r := h1
      subst h1
      have a1 : q.num.natAbs.log2 < 1920 := Nat.lt_trans (h2.num (by decide)) (by decide)
      have a2 : (q.den : Int).natAbs.log2 < 1920 := Nat.lt_trans (h2.den (by decide)) (by decide)
      have rp : CbW (rReprT K) [.mk (rPq K) q] rStr (tupTxt [q.num, (q.den : Int)]) := fun M H vs g a Q k => by
        obtain ⟨v, rfl, r⟩ := args1 a
        exact c_reprP (K := K) a1 a2 (txt_len a1 a2) M H [v] g ⟨r, trivial⟩ Q k
      refine s_ret <| w_op0 o_neS <| w_cb <| a_cons <| w_var rfl <| a_nil ⟨_, rp, w_cb <| a_cons <| w_var rfl <| a_nil ⟨_, rp, ?_⟩⟩
      simp⟩
theorem c_law_pen (T : Tx K mg C) : Cal P w K mg base "_law_pen" 1 ["script"] (spPen K) :=
  T.d_law_pen.cal (fun _ _ _ _ _ _ us hl => match us, hl with | [_], _ => rfl) fun f fd F => fnP F sc_law_pen (fun _ => rfl) fun cdv A outer s H E hr => ⟨_, (pss_one (ps_ret (pe_lst (pa_cons (pe_lc (own := [("cell", 1)]) rfl sc_law_pen.nd (ki_list (K := K) rfl (pe_slice (sl_listK (K := K) rfl) (pv 0) po_none (po_some pe_int))) (blkOk_by (N := ["script", "cell"]) (sc := defScope s_law_pen) (by decide +kernel)) (fun _ _ _ _ _ => (pg_name (i := 1) sc_law_pen.nd rfl (by first | exact Or.inl rfl | exact Or.inr rfl))) (fun _ _ _ _ _ => pts_nil) (fun _ _ _ _ _ => (pe_callTy (r := rIntOf) call_int1 (by rfl) T.f_int boot_int (pa_cons (pv 1) pa_nil)))) (pa_cons pe_int (pa_cons pe_int pa_nil)))))),
    fun l hp => by
      refine s_ret <| w_pen0mk <| w_lc_map (K := K) (is := [1]) (R := rInt) (S := rInt) (fun i => i) <| i_list <| w_toS <| w_var rfl <| w_int ⟨by decide, ?_, fun x hx => ?_, ?_⟩
      · rw [List.length_take]
        show _ ≤ bigN
        unfold bigN
        omega
      · exact tg_name <| w_cb <| a_cons <| w_var rfl <| a_nil ⟨_, c_int, rfl, rfl⟩
      · rw [List.map_id']; rfl⟩
end
end K04
end

-- part LcKwX
section
set_option Elab.async false
set_option linter.all false
set_option maxRecDepth 100000
set_option maxHeartbeats 400000
/-! # LcKwX: calls by names of defs that may let errors out; options -/
namespace L2.Lc
open PySem PySem.Spec PyProof.Rows L2
structure CalKX (P : Program) (w : World) (K : PySem.W.Frag) (mg : Str → Option Value) (base : Heap) (x : Str) (k : Nat) (ps ks : List Str) (gV : List V → List V) (sp : Sp) : Prop where
  ex : ∃ (f : Addr) (fd : FuncData) (g : List Value → List Value), FnOk P w K mg base (L2.CX P w) k f fd ps sp ∧ mg x = some (.ref f) ∧ PySem.W.keepIn K (.ref f) = true ∧ KBn K fd ps 0 ks (fun _ ws => g ws) (fun _ zs => gV zs)
section
variable {X : Cx} {x : Str} {k : Nat} {ps ks : List Str} {sp : Sp} {p pos : Pos} {kws : List Keyword} {tk : TA} {gV : List V → List V} {E : XK}
theorem pe_calKX (c : CalKX X.prog X.w X.K X.mg X.base x k ps ks gV sp) (hr : Room k X.A) (hx : Passes (L2.CX X.prog X.w) X E) (hg : Gl X x) (hkw : PK X kws tk) (hall : (backToKw pos (keywordEach kws X.env)).all (·.1.isSome) = true := by rfl)
    (hks : (backToKw pos (keywordEach kws X.env)).filterMap (·.1) = ks := by rfl) (hdb : (x == ("__debug__" : Str)) = false := by decide) (hpl : ((backTo pos (starEach [] X.env)).any (·.1) || (backToKw pos (keywordEach kws X.env)).any (·.1.isNone)) = false := by rfl) :
    PE X (.Call (.Name x p) [] kws pos) (tCallKw ks.length sp gV E tk) := by
  obtain ⟨f, fd, g, F, gm, kp, b⟩ := c.ex
  exact pe_callKw F hr hg gm kp b hx hkw hall hks hdb hpl
end
section
variable {P : Program} {w : World} {K : PySem.W.Frag} {mg : Str → Option Value} {base : Heap} {k : Nat} {x : Str} {st : Stmt} {ps ks : List Str} {sp : Sp}
theorem FG.calKX (F : FG K mg x st) {gV : List V → List V} (g : List Value → List Value) (hrel : ∀ {zs : List V} {ws : List Value}, Vals zs ws → Vals (gV zs) (g ws))
    (hb : ∀ (kV doc pm : Value) (an : Option Addr) (cdv ct : Value) (ws : List Value), ws.length = ks.length → bindArgs (PySem.W.fnOf x x (defArgs st) (defBody st) (defScope st) .none kV doc pm an cdv ct) ⟨[], ks.zip ws⟩ = pure (ps.zip (g ws)))
    (h : ∀ f fd, FunD K x x (defArgs st) (defBody st) (defScope st) [] [] f fd → FnOk P w K mg base (L2.CX P w) k f fd ps sp) : CalKX P w K mg base x k ps ks gV sp := by
  obtain ⟨f, fd, F, gm⟩ := F.ex
  refine ⟨f, fd, g, h f fd F, gm, F.kp, ⟨fun s us ws X l1 l2 => ?_, fun _ r => hrel r⟩⟩
  obtain rfl : us = [] := List.length_eq_zero_iff.mp l1
  obtain ⟨oc, od, dV, kV, doc, pm, an, cdv, ct, osl, rfl, _, _, ⟨_, rfl⟩ | ⟨e, _⟩, _⟩ := F.ex
  · exact .of_eq (hb kV doc pm an cdv ct ws l2)
  · exact absurd rfl e
end
section
variable {Z : Type} {m : Md Z} {Γ : Gm} {n : Z} {α γ : Type} {T : Rl γ} {R : Rl α} {ta : TE}
theorem w_callKX {A : α → List Ent} {pre : α → Prop} {post : α → γ → Prop} {xp : α → Er → Prop} {E : XK} {t : TA} {j : Nat} {gV : List V → List V} {Post : γ → Z → Prop} (hE : m.E = E) (gE : List Ent → List Ent) (hg : ∀ {G : Hp} {vs : List V} {es : List Ent}, ArgsOk G vs es → ArgsOk G (gV vs) (gE es))
    (h : ArW m t Γ n fun es n1 => es.length = j ∧ ∃ x, gE es = A x ∧ pre x ∧ (∀ y, post x y → Post y n1) ∧ ∀ e, xp x e → m.XP e n1) : EvW m (tCallKw j (spX A pre T post xp) gV E t) Γ n T Post := fun M σ H c e Q k =>
  h M σ H c e _ fun vs es n1 H1 p1 e1 i1 a1 => by
    obtain ⟨hl, x, hx, hp, hq, hxp⟩ := p1
    subst hE
    exact ⟨a1.len.trans hl, M, x, (c.go e1 i1).good, by rw [← hx]; exact hg a1, hp, fun v y H' po x' r => k v y n1 H' (hq y po) (e1.trans (.of x')) (m.kept i1 x') r,
      fun er cls d H' p x' o => c.exc er n1 H' cls d (hxp er p) (e1.trans (.of x')) (m.kept i1 x') o⟩
/-! ### options -/
def rOpt (R : Rl α) : Rl (Option α) := ⟨fun G v o => match o with
  | none => v = .non
  | some x => R.r G v x, fun {H H' v o} e h => by
  cases o with
  | none => exact h
  | some x => exact R.mono e h⟩
theorem w_someI {Post : Option α → Z → Prop} (h : EvW m ta Γ n R fun x n1 => Post (some x) n1) : EvW m ta Γ n (rOpt R) Post := w_as some (fun _ _ _ r => r) h
theorem w_noneI {Post : Option α → Z → Prop} (h : EvW m ta Γ n rNon fun _ n1 => Post none n1) : EvW m ta Γ n (rOpt R) Post := w_as (fun _ => none) (fun _ _ _ r => r) h
theorem w_some {Post : α → Z → Prop} (h : EvW m ta Γ n (rOpt R) fun o n1 => ∃ x, o = some x ∧ Post x n1) : EvW m ta Γ n R Post := fun M σ H c e Q k =>
  h M σ H c e Q fun v o n1 H1 ⟨x, e, p⟩ e1 i1 r1 => by
    subst e
    exact k v x n1 H1 p e1 i1 r1
theorem o_isNO (hR : NotNon R) : OpW rIsN (rOpt R) rNon rBl (fun _ _ => True) (fun o _ => o.isNone) := fun M H v u o y gd r1 r2 _ Q k => ⟨r2, by
  cases o with
  | none => rw [show v = V.non from r1]; exact k _ H (fun _ _ h => h) rfl
  | some x => rw [hR (show R.r _ v x from r1)]; exact k _ H (fun _ _ h => h) rfl⟩
theorem o_notNO (hR : NotNon R) : OpW rNotN (rOpt R) rNon rBl (fun _ _ => True) (fun o _ => o.isSome) := fun M H v u o y gd r1 r2 _ Q k => ⟨r2, by
  cases o with
  | none => rw [show v = V.non from r1]; exact k _ H (fun _ _ h => h) rfl
  | some x => rw [hR (show R.r _ v x from r1)]; exact k _ H (fun _ _ h => h) rfl⟩
theorem nn_pr {β : Type} {S : Rl β} {K : PySem.W.Frag} : NotNon (rPr K R S) := fun {G v x} ⟨a, _, _, h, _⟩ => by rw [h]; rfl
end
theorem mem_rangeL {lo : Int} {k : Nat} {i : Int} : i ∈ rangeL lo k ↔ lo ≤ i ∧ i < lo + k := by
  unfold rangeL
  rw [List.mem_map]
  constructor
  · rintro ⟨j, hj, rfl⟩
    have := List.mem_range.mp hj
    omega
  · rintro ⟨h1, h2⟩
    exact ⟨(i - lo).toNat, List.mem_range.mpr (by omega), by omega⟩
/-- what stands ahead in a range -/
theorem range_pre {lo : Int} {k : Nat} {pre post : List Int} {x : Int} (h : rangeL lo k = pre ++ x :: post) : x = lo + pre.length ∧ pre.length < k ∧ ∀ i, i ∈ pre ↔ lo ≤ i ∧ i < x := by
  have hl : (rangeL lo k).length = k := by unfold rangeL; simp
  have h1 : pre.length < k := by
    rw [← hl, h, List.length_append, List.length_cons]
    omega
  have hx : x = lo + pre.length := by
    have e := congrArg (fun l => l[pre.length]?) h
    simp [rangeL, h1] at e
    exact e.symm
  refine ⟨hx, h1, fun i => ?_⟩
  have e := congrArg (List.take pre.length) h
  rw [List.take_left] at e
  have hp : pre = rangeL lo pre.length := e.symm.trans (by
    unfold rangeL
    rw [← List.map_take, List.take_range, Nat.min_eq_left (Nat.le_of_lt h1)])
  rw [hx, hp, mem_rangeL]
  simp [rangeL]
end L2.Lc
end

-- part LcOne
section
set_option Elab.async false
set_option linter.all false
set_option maxRecDepth 100000
set_option maxHeartbeats 400000
/-! # LcOne: one list of flat items, made, filled and read in a def -/
namespace L2.Lc
open PySem PySem.Spec PyProof.Rows L2
open Evl (Ex ex_l ex_t)
/-- a mode, and a list at la -/
def mOne {S α : Type} (m : Md S) (f : α → V) (la : Addr) : Md (S × List α) where
  inv := fun n H => m.inv n.1 H ∧ H la = some (.lst (n.2.map f)) ∧ ¬ m.foot la
  foot := fun a => m.foot a ∨ a = la
  chg := fun a => m.chg a ∨ a = la
  sub := fun a h => h.imp (m.sub a) id
  live := fun {n H a} i z => by
    rcases z with z | rfl
    · exact m.live i.1 z
    · rw [i.2.1]; exact fun z => by cases z
  frame := fun {n H H'} i e x => ⟨m.frame i.1 (fun a z => e a (.inl z)) x, (e la (.inr rfl)).trans i.2.1, i.2.2⟩
  nt := fun {n H a} i z xs => by
    rcases z with z | rfl
    · exact m.nt i.1 z xs
    · rw [i.2.1]; exact fun z => by cases z
  E := m.E
  XP := fun e n => m.XP e n.1
/-- a kind that asks nothing of the heap -/
def Flat {α : Type} (R : Rl α) : Prop := ∀ G G' v x, R.r G v x → R.r G' v x
theorem flat_int : Flat rInt := fun _ _ _ _ h => h
section
variable {S α β γ : Type} {m : Md S} {f : α → V} {la : Addr} {Γ : Gm} {n : S} {R : Rl γ} {U : Rl β} {K : PySem.W.Frag} {i j : Nat} {te : TE}
/-- x, y = [], e -/
theorem s_oneStart {rest : TS} {D : Dn S β} (h : EvW m te Γ n R fun x n1 => ∀ la, StW (mOne m f la) rest ((Γ.set i (some (.mk (rAt la) ()))).set j (some (.mk R x))) (n1, []) U { nx := fun _ _ => False, rt := fun y n2 => D.rt y n2.1 }) (hR : Flat R) (hx : ∀ e k, ¬ m.XP e k := by exact fun _ _ z => z) :
    StW m (tSeq (tPar i j (tCons (tLst tNil) (tCons te tNil))) rest) Γ n U D := fun M σ H c e E k => by
  refine ⟨Nat.zero_le _, fun la hla => ?_⟩
  have x1 : Ex H (upd H la (.lst [])) := Evl.Ex.new hla
  have c1 := c.ex x1
  refine h M σ _ c1 (e.mono (hid_mono x1)) _ fun v x n1 H1 p e1 i1 r1 => ?_
  refine ⟨_, _, rfl, ?_⟩
  have nf : ¬ m.foot la := fun z => m.live c.inv z hla
  have nM : ¬ M la := c.good.fresh hla
  have at1 : H1 la = some (.lst []) := e1 la _ (fun z => nf (m.sub la z)) upd_same
  have c2 := c1.go e1 i1
  refine p la (fun a => M a ∨ a = la) _ H1 ⟨fun a ma => ?_, fun a z => z.imp (c.mm a) id, ⟨i1, at1, nf⟩, fun e k _ _ _ z => (hx e k.1 z).elim⟩ ?_ E ⟨fun _ _ _ _ z => z.elim, fun y n2 u H' q e2 i2 r2 => ?_, fun _ _ _ _ z => z.elim, fun _ _ _ _ z => z.elim⟩
  · rcases ma with ma | rfl
    · exact c2.good a ma
    · exact ⟨_, at1, fun _ z => by cases z⟩
  · have eh : Ex (hid M H) (hid (fun a => M a ∨ a = la) H1) := fun a o q => by
      obtain ⟨na, q⟩ := hid_some q
      have nl : a ≠ la := fun z => by rw [z, hla] at q; cases q
      rw [hid_no fun z => z.elim na nl]
      exact e1 a o (fun z => na (c.mm a z)) (by rw [upd_ne nl]; exact q)
    exact ((e.mono eh).set (e := .mk (rAt la) ()) rfl).set (e := .mk R x) (hR _ _ _ _ r1)
  · have eM : ExM m H H' := fun a o na q => by
      have nl : a ≠ la := fun z => by rw [z, hla] at q; cases q
      exact e2 a o (fun z => z.elim na nl) (e1 a o na (by rw [upd_ne nl]; exact q))
    refine k.rt y n2.1 u H' q eM i2.1 (U.mono (fun a o q => ?_) r2)
    obtain ⟨na, q⟩ := hid_some q
    rw [hid_no fun z => na (.inl z)]
    exact q
/-- x.append(e) -/
theorem s_oneApp {D : Dn (S × List α) β} {T : Rl α} (hf : ∀ G v x, T.r G v x → v = f x) (h1 : ∀ {st : S × List α}, Γ[i]? = some (some (.mk (rAt la) ()))) {st : S × List α}
    (h : EvW (mOne m f la) te Γ st T fun x st' => st'.2.length < bigN ∧ D.nx Γ (st'.1, st'.2 ++ [x])) :
    StW (mOne m f la) (tDrop (tBM K "list" rAppend (tVar i) (tCons te tNil))) Γ st U D := fun M σ H c e E k => by
  obtain ⟨u, f1, f2⟩ := e.2 i _ (h1 (st := st))
  have f2 : u = .ref la := f2
  subst f2
  refine ⟨_, f1, .inl ⟨rfl, _, .of c.inv.2.1⟩, ?_⟩
  refine h M σ H c e _ fun v x st' H' p e1 i1 r1 => ?_
  have r1 := hf _ _ _ r1
  subst r1
  refine ⟨la, _, f x, rfl, rfl, i1.2.1, by rw [List.length_map]; exact Nat.lt_trans p.1 bigN_line, ?_⟩
  refine k.nx Γ (st'.1, st'.2 ++ [x]) σ _ p.2 (fun a o na q => by rw [upd_ne fun z => na (.inr z)]; exact e1 a o na q) ⟨m.frame i1.1 (fun a z => upd_ne fun y => i1.2.2 (y ▸ z)) (fun a φ q => ?_), ?_, i1.2.2⟩ ((e.mono (e1.hid c.mm)).mono fun a o q => ?_)
  · by_cases z : a = la
    · rw [z, i1.2.1] at q; cases q
    · rw [upd_ne z]; exact q
  · rw [upd_same, List.map_append]; rfl
  · obtain ⟨na, q⟩ := hid_some q
    rw [hid_no na, upd_ne fun z => na (by rw [z]; exact c.mm la (.inr rfl))]
    exact q
/-- x[::-1] -/
theorem w_oneRev {T : Rl α} {st : S × List α} {Post : List α → S × List α → Prop} (hf : ∀ G x, T.r G (f x) x) (h1 : Γ[i]? = some (some (.mk (rAt la) ()))) (hl : st.2.length ≤ bigN) (h : Post st.2.reverse st) : EvW (mOne m f la) (tRevL K (tVar i)) Γ st (rLst K T) Post := fun M σ H c e Q k => by
  obtain ⟨u, f1, f2⟩ := e.2 i _ h1
  have f2 : u = .ref la := f2
  subst f2
  refine ⟨_, f1, la, _, rfl, .of c.inv.2.1, fun p hp => ?_⟩
  have x := Evl.Ex.new (o := HO.lst (st.2.map f).reverse) hp
  have fr : ¬ M p := c.good.fresh hp
  refine k _ _ st _ h (.of x) ((mOne m f la).kept c.inv x) ⟨p, _, rfl, by rw [hid_no fr, upd_same], ?_, by rw [List.length_reverse]; exact hl⟩
  rw [← List.map_reverse]
  exact Al.map (fun x => hf _ x) _
end
end L2.Lc
end

-- part K04G
section
set_option Elab.async false
set_option linter.all false
set_option maxRecDepth 100000
set_option maxHeartbeats 400000
namespace K04
open PySem PySem.Spec PyProof.Rows L2 L2.Lc KSimp
section
variable {P : Program} {w : World} {K : PySem.W.Frag} {mg : Str → Option Value} {base : Heap} {C : Addr}
abbrev postTried (a b : Rat) (most : Int) : Option (Int × Int) → Prop
  | some (p, q) => Sm a b p q ∧ q ≤ most
  | none => ∀ v, 0 < v → v ≤ most → ∀ u, ¬ In a b u v
abbrev A3 {α β γ : Type} (R : Rl α) (S : Rl β) (T : Rl γ) : α × β × γ → List Ent := fun p => [.mk R p.1, .mk S p.2.1, .mk T p.2.2]
abbrev spTried (K : PySem.W.Frag) : Sp := spP (A3 (rPq K) (rPq K) rInt) (fun p => Sz 1000 p.1 ∧ Sz 1000 p.2.1 ∧ 0 ≤ p.2.2 ∧ p.2.2 ≤ 1000) (rOpt (rP K)) fun p o => postTried p.1 p.2.1 p.2.2 o
theorem sz_1 {n k : Nat} {i : Int} (h : Sz1 n i) (hl : n ≤ k) : Sz1 k i := Nat.lt_of_lt_of_le h (Nat.pow_le_pow_right (by decide) hl)
theorem log_le {k : Nat} {i : Int} (hk : 0 < k) (h : i.natAbs < 2 ^ k) : i.natAbs.log2 < k := PySem.Flt.log2_lt_of hk h
theorem mul_lt {a b : Int} {m n : Nat} (h1 : a.natAbs < 2 ^ m) (h2 : b.natAbs < 2 ^ n) : (a * b).natAbs < 2 ^ (m + n) := by
  rw [Int.natAbs_mul]
  exact mul_pow h1 h2
theorem add_lt {a b : Int} {m n : Nat} (h1 : a.natAbs < 2 ^ m) (h2 : b.natAbs < 2 ^ n) (l : n ≤ m) : (a + b).natAbs < 2 ^ (m + 1) := by
  have := Nat.pow_le_pow_right (show 0 < 2 by decide) l
  have t := Int.natAbs_add_le a b
  rw [Nat.pow_succ]
  omega
theorem neg_lt {a : Int} {m : Nat} (h : a.natAbs < 2 ^ m) : (-a).natAbs < 2 ^ m := by rw [Int.natAbs_neg]; exact h
theorem sub_lt {a b : Int} {m n : Nat} (h1 : a.natAbs < 2 ^ m) (h2 : b.natAbs < 2 ^ n) (l : n ≤ m) : (a - b).natAbs < 2 ^ (m + 1) := by
  rw [Int.sub_eq_add_neg]
  exact add_lt h1 (neg_lt h2) l
theorem div_lt {a b : Int} {m : Nat} (h1 : a.natAbs < 2 ^ m) (hb : 0 < b) : (a / b).natAbs < 2 ^ m + 1 := by
  have := Int.natAbs_ediv_le_natAbs a b
  omega
theorem div_le {a b : Int} {m : Nat} (h1 : a.natAbs < 2 ^ m) : (a / b).natAbs < 2 ^ m := Nat.lt_of_le_of_lt (Int.natAbs_ediv_le_natAbs a b) h1
theorem c_law_tried (T : Tx K mg C) : Cal P w K mg base "_law_tried" 1 ["one", "other", "most"] (spTried K) :=
  T.d_law_tried.cal (fun _ _ _ _ _ _ us hl => match us, hl with | [_, _, _], _ => rfl) fun f fd F => fnP F sc_law_tried (fun _ => rfl) fun cdv A outer s H E hr => ⟨_, (pss_cons (ps_for PassesOwn.never rfl (pi_range2 rfl T.f_range (pa_cons pe_int (pa_cons (pe_op op_add (pv 2) pe_int) pa_nil))) (pg_name (i := 3) sc_law_tried.nd rfl (by first | exact Or.inl rfl | exact Or.inr rfl)) (pss_cons (ps_set (i := 4) sc_law_tried.nd rfl (by first | exact Or.inl rfl | exact Or.inr rfl) (pe_op op_add (pe_op op_fdivW (pe_op op_mulW (pe_ix (ix_tupK (K := K) rfl) (pv 0) pe_int (fun _ _ => rfl)) (pv 3)) (pe_ix (ix_tupK (K := K) rfl) (pv 0) pe_int (fun _ _ => rfl))) pe_int))
  (pss_one (ps_if (pt_cmpR op_lt (pe_op op_mulW (pv 4) (pe_ix (ix_tupK (K := K) rfl) (pv 1) pe_int (fun _ _ => rfl))) (pe_op op_mulW (pe_ix (ix_tupK (K := K) rfl) (pv 1) pe_int (fun _ _ => rfl)) (pv 3)) (nomark _)) (pss_one (ps_ret (pe_tup (pa_cons (pv 4) (pa_cons (pv 3) pa_nil))))) pss_nil))))
  (pss_one (ps_ret pe_non))),
    fun x hp => by
      obtain ⟨a, b, most⟩ := x
      obtain ⟨h1, h2, h3, h4⟩ := hp
      dsimp only at h1 h2 h3 h4
      have ha := KSimp.den_pos a
      have hb := KSimp.den_pos b
      have a1 := h1.1
      have a2 : (a.den : Int).natAbs < 2 ^ 1000 := by rw [Int.natAbs_natCast]; exact h1.2
      have b1 := h2.1
      have b2 : (b.den : Int).natAbs < 2 ^ 1000 := by rw [Int.natAbs_natCast]; exact h2.2
      have n1 := log_le (by decide) a1
      have n2 := log_le (by decide) a2
      have n3 := log_le (by decide) b1
      have n4 := log_le (by decide) b2
      refine s_seq <| s_for (is := [3]) <| i_range2 <| a_cons <| w_int <| a_cons <| w_op0 o_int <| w_var rfl <| w_int <| a_nil ⟨1, most + 1, rfl, ⟨by decide, by decide, by omega, by omega⟩,
        fun pre Γ' _ => ∃ o1 o2, Γ' = [some (.mk (rPq K) a), some (.mk (rPq K) b), some (.mk rInt most), o1, o2] ∧ ∀ v ∈ pre, ∀ u, ¬ In a b u v, ⟨_, _, rfl, fun _ h => by cases h⟩, ?_, ?_⟩
      · rintro pre v post Γ' n' hl ⟨o1, o2, rfl, hI⟩
        obtain ⟨e1, e2, e3⟩ := range_pre hl
        have v1 : 1 ≤ v := by omega
        have v2 : v ≤ most := by omega
        have v3 : v.natAbs < 2 ^ 10 := by omega
        have v4 := log_le (by decide) v3
        have t1 := mul_lt a1 v3
        have t2 := add_lt (div_le (b := (a.den : Int)) t1) (show (1 : Int).natAbs < 2 ^ 1 by decide) (by decide)
        have t3 := log_le (by decide) t2
        refine tg_name <| s_seq <| s_set <| w_op0 o_int <| w_op o_intC <| w_op o_intC <| w_pq0 <| w_var rfl <| w_var rfl ⟨cm (by omega) (by omega), w_pq1 <| w_var rfl ⟨⟨ha, by omega⟩, w_int ?_⟩⟩
        refine s_if <| t_test <| w_op0 o_cmp <| w_op o_intC <| w_var rfl <| w_pq1 <| w_var rfl ⟨cm (by omega) (by omega), w_op o_intC <| w_pq0 <| w_var rfl <| w_var rfl ⟨cm (by omega) (by omega), fun z => ?_, fun z => ?_⟩⟩
        · refine s_ret <| w_someI <| w_pr <| w_var rfl <| w_var rfl ⟨?_, v2⟩
          exact tried_yes (by omega) (of_decide_eq_true z) fun k k1 k2 u => hI k ((e3 k).mpr ⟨by omega, k2⟩) u
        · refine s_next ⟨_, _, rfl, fun k hk u => ?_⟩
          rcases List.mem_append.mp hk with hk | hk
          · exact hI k hk u
          · rw [List.mem_singleton.mp hk]
            exact tried_no (by omega) (of_decide_eq_false z) u
      · rintro Γ' n' ⟨o1, o2, rfl, hI⟩
        refine s_ret <| w_noneI <| w_non fun v v1 v2 u => hI v (by
          have v2 : v ≤ most := v2
          exact mem_rangeL.mpr ⟨by omega, by omega⟩) u⟩
end
end K04
end

-- part K04H
section
set_option Elab.async false
set_option linter.all false
set_option maxRecDepth 100000
set_option maxHeartbeats 400000
namespace K04
open PySem PySem.Spec PyProof.Rows L2 L2.Lc KSimp
theorem szI {i : Int} {n k : Nat} (h0 : 0 ≤ i) (h : i < 2 ^ n) (l : n ≤ k) : i.natAbs < 2 ^ k := by
  refine Nat.lt_of_lt_of_le ?_ (Nat.pow_le_pow_right (by decide) l)
  have e : ((2 ^ n : Nat) : Int) = 2 ^ n := by simp
  rw [← e] at h
  omega
theorem sz_of {q : Rat} {n k : Nat} (h0 : 0 ≤ q.num) (h : Szd n q) (l : n ≤ k) : Sz k q := ⟨szI h0 h.1 l, by
  have := szI (i := (q.den : Int)) (by have := q.den_pos; omega) h.2 l
  rwa [Int.natAbs_natCast] at this⟩
theorem lgI {i : Int} {n : Nat} (h0 : 0 ≤ i) (h : i < 2 ^ n) (l : n ≤ 4000 := by decide) : i.natAbs.log2 < 4000 := log_le (by decide) (szI h0 h l)
theorem hmR {m : Str} (h1 : ("top" : Str) ≠ m) (h2 : ("bottom" : Str) ≠ m) : ∀ (x : Rat), ∀ p ∈ fsRat x, p.1 ≠ m := fun x p hp => by
  rcases List.mem_cons.mp hp with rfl | hp
  · exact h1
  · rw [List.mem_singleton.mp hp]; exact h2
theorem addI_num (q : Rat) (i : Int) : (addI q i).num = q.num + i * q.den := rfl
theorem addI_den (q : Rat) (i : Int) : (addI q i).den = q.den := rfl
section
variable {P : Program} {w : World} {K : PySem.W.Frag} {mg : Str → Option Value} {base : Heap} {C : Addr}
abbrev spSimplest (K : PySem.W.Frag) (C : Addr) : Sp := spP (A2 (rRat C) (rRat C)) (fun p => Lv p.1 p.2 (p.1.num / p.1.den) ∧ Szd 2100 p.1 ∧ Szd 2100 p.2) (rP K) fun p y => KSimp.Sp p.1 p.2 y.1 y.2 ∧ Ok 2101 y
theorem c_simplest (T : Tx K mg C) : Cal P w K mg base "simplest" 5 ["low", "high"] (spSimplest K C) :=
  T.d_simplest.cal (fun _ _ _ _ _ _ us hl => match us, hl with | [_, _], _ => rfl) fun f fd F => fnP F sc_simplest (fun _ => rfl) fun cdv A outer s H E hr => ⟨_, (pss_cons (ps_par (i := 2) (j := 3) rfl sc_simplest.nd rfl rfl (by decide) rfl rfl (pa_cons (pe_lst pa_nil) (pa_cons (pe_op op_fdivW (kfld (K := K) rfl (pv 0) rfl) (kfld (K := K) rfl (pv 0) rfl)) pa_nil)) rfl)
  (pss_cons (ps_while PassesOwn.never (PW.pt (pw_and (pt_val (pe_methM (o_most T) (hr.mono (by decide)) (pv 1) (pa_cons (pe_op op_add (pv 3) pe_int) pa_nil))) (pw_and1 (pt_cmpR op_ne (kfld (K := K) rfl (pv 0) rfl) pe_int (nomark _))))) (pss_cons (ps_expr (kbm (K := K) rfl PySem.F.plainAttrs_list PySem.F.slot_list_append PySem.F.type_list_append mt_append (pv 2) (pa_cons (pv 3) pa_nil)))
  (pss_cons (ps_par (i := 0) (j := 1) rfl sc_simplest.nd rfl rfl (by decide) rfl rfl (pa_cons (pe_methM (o_over T) (hr.mono (by decide)) (pe_mkC (mk_Ratio_d T) (hr.mono (by decide)) rfl (pa_cons pe_int pa_nil)) (pa_cons (pe_op (op_subI T (hr.mono (by decide))) (pv 1) (pv 3)) pa_nil)) (pa_cons (pe_methM (o_over T) (hr.mono (by decide)) (pe_mkC (mk_Ratio_d T) (hr.mono (by decide)) rfl (pa_cons pe_int pa_nil)) (pa_cons (pe_op (op_subI T (hr.mono (by decide))) (pv 0) (pv 3)) pa_nil)) pa_nil)) rfl)
  (pss_one (ps_set (i := 3) sc_simplest.nd rfl (by first | exact Or.inl rfl | exact Or.inr rfl) (pe_op op_fdivW (kfld (K := K) rfl (pv 0) rfl) (kfld (K := K) rfl (pv 0) rfl)))))))
  (pss_cons (ps_set (i := 4) sc_simplest.nd rfl (by first | exact Or.inl rfl | exact Or.inr rfl) pe_int)
  (pss_cons (ps_if (pt_val (pe_methM (o_most T) (hr.mono (by decide)) (pv 1) (pa_cons (pe_op op_add (pv 3) pe_int) pa_nil))) (pss_cons (ps_set (i := 5) sc_simplest.nd rfl (by first | exact Or.inl rfl | exact Or.inr rfl) (pe_op (op_subI T (hr.mono (by decide))) (pv 1) (pv 3)))
  (pss_one (ps_set (i := 4) sc_simplest.nd rfl (by first | exact Or.inl rfl | exact Or.inr rfl) (pe_op op_add (pe_op op_fdivW (kfld (K := K) rfl (pv 5) rfl) (kfld (K := K) rfl (pv 5) rfl)) pe_int)))) pss_nil)
  (pss_cons (ps_par (i := 6) (j := 7) rfl sc_simplest.nd rfl rfl (by decide) rfl rfl (pa_cons (pe_op op_add (pe_op op_mulW (pv 3) (pv 4)) pe_int) (pa_cons (pv 4) pa_nil)) rfl)
  (pss_cons (ps_for PassesOwn.never rfl (ki_list (K := K) rfl (krevL (K := K) rfl (pv 2))) (pg_name (i := 8) sc_simplest.nd rfl (by first | exact Or.inl rfl | exact Or.inr rfl)) (pss_one (ps_par (i := 6) (j := 7) rfl sc_simplest.nd rfl rfl (by decide) rfl rfl (pa_cons (pe_op op_add (pe_op op_mulW (pv 8) (pv 6)) (pv 7)) (pa_cons (pv 6) pa_nil)) rfl)))
  (pss_one (ps_ret (pe_tup (pa_cons (pv 6) (pa_cons (pv 7) pa_nil))))))))))),
    fun x hp => by
      obtain ⟨a0, b0⟩ := x
      obtain ⟨h1, h2, h3⟩ := hp
      dsimp only at h1 h2 h3
      have ha := KSimp.den_pos a0
      have l1 : (a0.den : Int).natAbs.log2 < 4000 := log_le (by decide) (szI (by omega) h2.2 (by decide))
      refine s_oneStart (f := V.int) (w_op o_intC <| w_fld T.cls T.no_top <| w_var rfl ⟨_, rfl, w_fld T.cls T.no_bottom <| w_var rfl ⟨_, rfl, ⟨ha, Nat.lt_trans l1 (by decide)⟩, fun la => ?_⟩⟩) flat_int
      refine s_seq <| s_while (fun k Γ st => ∃ (a b : Rat) (w : Int) (ws : List Int), Γ = [some (.mk (rRat C) a), some (.mk (rRat C) b), some (.mk (rAt la) ()), some (.mk rInt w), none, none, none, none, none] ∧ st = ((), ws) ∧
        Lv a b w ∧ Szd 2100 a ∧ Szd 2100 b ∧ Gd 2101 a0 b0 ws a b ∧ (∀ x ∈ ws, 0 ≤ x ∧ x < 2 ^ 2100) ∧ Cn ws a b w ∧ (w = a.num / a.den) ∧ k = a.den + b.den) (a0.den + b0.den) ⟨a0, b0, _, [], rfl, rfl, h1, h2, h3, Gd.nil h1 h2 h3, fun _ h => by (cases h), .inl rfl, rfl, rfl⟩ ?_
      rintro k Γ st ⟨a, b, w, ws, rfl, rfl, hv, sa, sb, hg, hw, hc, hwe, rfl⟩
      have w0 := hv.w0
      have w1 := hv.w_lt sa
      have s0 := hv.s0
      have lt := hv.lt
      have pa := KSimp.den_pos a
      have pb := KSimp.den_pos b
      have b0' : 0 ≤ b.num := by
        have : 0 ≤ w * (b.den : Int) := Int.mul_nonneg w0 (by omega)
        omega
      have zb : Sz 4000 b := sz_of b0' sb (by decide)
      have za : Sz 4000 a := sz_of hv.n0 sa (by decide)
      have zw : Sz1 4000 w := szI w0 w1 (by decide)
      have zw1 : Sz1 4000 (w + 1) := by
        have e : (2 : Int) ^ 2101 = 2 ^ 2100 * 2 := Int.pow_succ ..
        have := Int.pow_pos (n := 2) (m := 2100) (by decide)
        exact szI (n := 2101) (by omega) (by omega) (by decide)
      have fin : ∀ p q m : Int, KSimp.Sp a b p q → p = w * m + 1 → q = m → Sz1 2101 m → ∀ o, StW (mOne pm V.int la) (tSeq (tPar 6 7 (tCons (tOp (rI0 fun i j => .int (i + j)) (tOp (rI CMulW fun i j => .int (i * j)) (tVar 3) (tVar 4)) (tC (.int 1))) (tCons (tVar 4) tNil)))
          (tSeq (tFor (iList K (tRevL K (tVar 2))) (gName 8) (tPar 6 7 (tCons (tOp (rI0 fun i j => .int (i + j)) (tOp (rI CMulW fun i j => .int (i * j)) (tVar 8) (tVar 6)) (tVar 7)) (tCons (tVar 6) tNil)))) (tRet (tTup (tCons (tVar 6) (tCons (tVar 7) tNil))))))
          [some (.mk (rRat C) a), some (.mk (rRat C) b), some (.mk (rAt la) ()), some (.mk rInt w), some (.mk rInt m), o, none, none, none] ((), ws) (rP K) { nx := fun _ _ => False, rt := fun y n2 => (KSimp.Sp a0 b0 y.1 y.2 ∧ Ok 2101 y) } := by
        intro p q m sp ep eq zm o
        obtain ⟨g1, g2⟩ := hg p q sp
        have gok := g2 ws [] (by simp)
        refine s_seq <| s_par <| a_cons <| w_op0 o_int <| w_op o_intC <| w_var rfl <| w_var rfl ⟨cm (zw.log (by decide)) ((sz_1 zm (by decide)).log (by decide)), w_int <| a_cons <| w_var rfl <| a_nil ⟨_, _, rfl, ?_⟩⟩
        refine s_seq <| s_for (is := [8]) <| i_list <| w_oneRev (T := rInt) (fun _ _ => rfl) rfl (Nat.le_of_lt hc.len) ⟨fun pre Γ' n' => n' = ((), ws) ∧ ∃ o8 : Option Ent, Γ' = [some (.mk (rRat C) a), some (.mk (rRat C) b), some (.mk (rAt la) ()), some (.mk rInt w), some (.mk rInt m), o, some (.mk rInt (unw pre.reverse (p, q)).1), some (.mk rInt (unw pre.reverse (p, q)).2), o8], ⟨rfl, none, by rw [ep, eq]; rfl⟩, ?_, ?_⟩
        · rintro pre x post Γ' n' hl ⟨rfl, o8, rfl⟩
          have hl : ws.reverse = pre ++ x :: post := hl
          have hws : ws = post.reverse ++ ([x] ++ pre.reverse) := by
            have := congrArg List.reverse hl
            rw [List.reverse_reverse] at this
            rw [this]
            simp
          have xin : x ∈ ws := by rw [hws]; simp
          obtain ⟨x0, x1⟩ := hw x xin
          have okp := g2 (post.reverse ++ [x]) pre.reverse (by rw [hws]; simp)
          obtain ⟨⟨k1, k2⟩, k3, k4⟩ := okp
          refine tg_name <| s_par <| a_cons <| w_op0 o_int <| w_op o_intC <| w_var rfl <| w_var rfl ⟨cm (lgI x0 x1) (lgI (Int.le_of_lt k1) k2), w_var rfl <| a_cons <| w_var rfl <| a_nil ⟨_, _, rfl, rfl, some (.mk rInt x), ?_⟩⟩
          rw [List.reverse_append]
          rfl
        · rintro Γ' n' ⟨rfl, o8, rfl⟩
          refine s_ret <| w_pr <| w_var rfl <| w_var rfl ?_
          rw [List.reverse_reverse]
          exact ⟨g1, g2 [] ws rfl⟩
      refine t_and <| t_test <| w_methP (hmR (by decide) (by decide)) <| w_var rfl <| a_cons <| w_op0 o_int <| w_var rfl <| w_int <| a_nil ⟨(b, w + 1), rfl, ⟨zb, zw1⟩, fun z hz => ⟨fun e1 => ?_, fun e1 => ?_⟩⟩
      · -- high is at most whole + 1
        subst hz
        have hb : b.num ≤ (w + 1) * b.den := of_decide_eq_true e1
        refine t_test <| w_op0 o_neI <| w_fld T.cls T.no_bottom <| w_var rfl ⟨_, rfl, w_int ⟨fun e2 => ?_, fun e2 => ?_⟩⟩
        · have hd : (a.den : Int) ≠ 1 := by simpa using e2
          have r0 := hv.r0 hd
          have n1 : 0 < (addI b (-w)).num := by rw [addI_num, Int.neg_mul]; omega
          have n2 : 0 < (addI a (-w)).num := by rw [addI_num, Int.neg_mul]; omega
          have eln : (invR (addI b (-w)) n1).num = b.den := rfl
          have eld : ((invR (addI b (-w)) n1).den : Int) = b.num - w * b.den := by
            show (((addI b (-w)).num.toNat : Nat) : Int) = _
            rw [Int.toNat_of_nonneg (Int.le_of_lt n1), addI_num, Int.neg_mul, Int.sub_eq_add_neg]
          have ehn : (invR (addI a (-w)) n2).num = a.den := rfl
          have ehd : ((invR (addI a (-w)) n2).den : Int) = a.num - w * a.den := by
            show (((addI a (-w)).num.toNat : Nat) : Int) = _
            rw [Int.toNat_of_nonneg (Int.le_of_lt n2), addI_num, Int.neg_mul, Int.sub_eq_add_neg]
          obtain ⟨v1, v2, v3, v4, v5, v6⟩ := hv.step hd hb eln eld ehn ehd
          obtain ⟨sl, sh⟩ := Szd.step hv sa sb hd hb eln eld ehn ehd
          have hc' := hc.step hv hd hb eln eld ehn ehd sl sh
          have hg' := hg.snoc hv eln eld ehn ehd v1 sl sh
          have zbw : Sz 4000 (addI b (-w)) := sz_of (n := 2100) (Int.le_of_lt n1) ⟨by rw [addI_num, Int.neg_mul]; have := sb.2; omega, sb.2⟩ (by decide)
          have zaw : Sz 4000 (addI a (-w)) := sz_of (n := 2100) (Int.le_of_lt n2) ⟨by rw [addI_num, Int.neg_mul]; have := sa.2; omega, sa.2⟩ (by decide)
          refine s_seq <| s_oneApp (T := rInt) (fun _ _ _ h => h) rfl <| w_var rfl ⟨hc.len, ?_⟩
          have hm := hmR (m := "over") (by decide) (by decide)
          refine s_seq <| s_par <| a_cons (R := rRat C) <| w_methP hm <| w_ratio1 <| a_cons <| w_int <| a_nil ⟨1, rfl, a_cons <| w_ownI <| w_var rfl <| w_var rfl ⟨(b, w), rfl, ⟨zb, zw⟩, fun y hy => a_nil ⟨(1, y), rfl, ⟨rfl, by rw [hy]; exact n1, by rw [hy]; exact zbw⟩, fun l hl => ?_⟩⟩⟩
          refine a_cons (R := rRat C) <| w_methP hm <| w_ratio1 <| a_cons <| w_int <| a_nil ⟨1, rfl, a_cons <| w_ownI <| w_var rfl <| w_var rfl ⟨(a, w), rfl, ⟨za, zw⟩, fun y2 hy2 => a_nil ⟨(1, y2), rfl, ⟨rfl, by rw [hy2]; exact n2, by rw [hy2]; exact zaw⟩, fun h hh => a_nil ⟨_, _, rfl, ?_⟩⟩⟩⟩
          subst hy
          subst hy2
          have hl := hl n1
          have hh := hh n2
          dsimp only at hl hh
          subst hl
          subst hh
          have pl := KSimp.den_pos (invR (addI b (-w)) n1)
          refine s_set <| w_op o_intC <| w_fld T.cls T.no_top <| w_var rfl ⟨_, rfl, w_fld T.cls T.no_bottom <| w_var rfl ⟨_, rfl, ⟨pl, ?_⟩, ?_⟩⟩
          · exact Nat.lt_trans (log_le (by decide) (szI (by omega) sl.2 (by decide) : _ < 2 ^ 4000)) (by decide)
          refine ⟨_, ?_, _, _, _, ws ++ [w], rfl, rfl, v1, sl, sh, hg', ?_, hc', rfl, rfl⟩
          · have e1 := v4
            have e2 := v5
            omega
          · intro x hx
            rcases List.mem_append.mp hx with hx | hx
            · exact hw x hx
            · rw [List.mem_singleton.mp hx]; exact ⟨w0, w1⟩
        · have hd : (a.den : Int) = 1 := by simpa using e2
          have hwa : a.num = w := by
            have := hv.lo
            have := hv.hi
            rw [hd] at this
            rw [hwe, hd, Int.ediv_one]
          have sp := caseB (a := a) (b := b) w0 hd hwa (by omega) rfl
          have sok := sp.ok hv sa sb
          refine s_seq <| s_set <| w_int ?_
          refine s_seq <| s_if <| t_test <| w_methP (hmR (by decide) (by decide)) <| w_var rfl <| a_cons <| w_op0 o_int <| w_var rfl <| w_int <| a_nil ⟨(b, w + 1), rfl, ⟨zb, zw1⟩, fun z hz => ⟨fun _ => ?_, fun e3 => ?_⟩⟩
          · refine s_seq <| s_set <| w_ownI <| w_var rfl <| w_var rfl ⟨(b, w), rfl, ⟨zb, zw⟩, fun y hy => ?_⟩
            subst hy
            have n1 : 0 < (addI b (-w)).num := by rw [addI_num, Int.neg_mul]; omega
            have en : (addI b (-w)).num = b.num - w * b.den := by rw [addI_num, Int.neg_mul, Int.sub_eq_add_neg]
            refine s_set <| w_op0 o_int <| w_op o_intC <| w_fld T.cls T.no_bottom <| w_var rfl ⟨_, rfl, w_fld T.cls T.no_top <| w_var rfl ⟨_, rfl, ⟨n1, ?_⟩, w_int ?_⟩⟩
            · refine Nat.lt_trans (log_le (by decide) (szI (n := 2100) (by dsimp only; omega) ?_ (by decide) : _ < 2 ^ 4000)) (by decide)
              dsimp only
              rw [en]
              have := sb.2
              have := Int.add_mul w 1 (b.den : Int)
              omega
            · dsimp only
              rw [en]
              exact fin _ _ _ sp rfl rfl (szI (Int.le_of_lt sok.2.1) sok.2.2 (by decide)) _
          · subst hz
            exact absurd hb (of_decide_eq_false e3)
      · -- high is beyond whole + 1
        subst hz
        have hb : ¬ b.num ≤ (w + 1) * b.den := of_decide_eq_false e1
        have sp := caseA (a := a) (b := b) w0 hv.lo hv.hi (by omega)
        refine ⟨fun z => (by cases z), fun _ => s_seq <| s_set <| w_int ?_⟩
        refine s_seq <| s_if <| t_test <| w_methP (hmR (by decide) (by decide)) <| w_var rfl <| a_cons <| w_op0 o_int <| w_var rfl <| w_int <| a_nil ⟨(b, w + 1), rfl, ⟨zb, zw1⟩, fun z hz => ⟨fun e3 => ?_, fun _ => s_next ?_⟩⟩
        · subst hz
          exact absurd (of_decide_eq_true e3) hb
        · exact fin (w + 1) 1 1 sp (by omega) rfl (show (1 : Int).natAbs < 2 ^ 2101 from Nat.lt_of_lt_of_le (by decide : (1 : Int).natAbs < 2 ^ 1) (Nat.pow_le_pow_right (by decide) (by decide))) none⟩
end
end K04
end

-- part K04I
section
set_option Elab.async false
set_option linter.all false
set_option maxRecDepth 100000
set_option maxHeartbeats 400000
namespace K04
open PySem PySem.Spec PyProof.Rows L2 L2.Lc KSimp
abbrev below (a b : Rat) : Prop := a.num * (b.den : Int) < b.num * (a.den : Int)
theorem pow_lt {n k : Nat} (h : n ≤ k) : 2 ^ n ≤ 2 ^ k := Nat.pow_le_pow_right (by decide) h
theorem int_lt {i : Int} {n : Nat} (h : i.natAbs < 2 ^ n) : i < 2 ^ n := by
  have e : ((2 ^ n : Nat) : Int) = 2 ^ n := by simp
  rw [← e]
  omega
theorem simp_sz {a b y : Rat} (ha : Sz 320 a) (hb : Sz 320 b) (h : below a b) (s : Simp a b y) : Sz 700 y := by
  have da := KSimp.den_pos a
  have db := KSimp.den_pos b
  have dy := KSimp.den_pos y
  have q := (s.min _ _ (by omega) (In.med h)).1
  have e1 : (2 : Nat) ^ 321 = 2 ^ 320 + 2 ^ 320 := by rw [Nat.pow_succ]; omega
  have q1 : y.den < 2 ^ 321 := by
    have := ha.2
    have := hb.2
    omega
  refine ⟨?_, Nat.lt_of_lt_of_le q1 (pow_lt (by decide))⟩
  obtain ⟨i1, i2⟩ := s.at_
  have key : ∀ u : Int, u.natAbs < 2 ^ 320 → y.num.natAbs ≤ (u * y.den).natAbs → y.num.natAbs < 2 ^ 700 := fun u hu hn => by
    have := mul_lt hu (show ((y.den : Int)).natAbs < 2 ^ 321 by rw [Int.natAbs_natCast]; exact q1)
    exact Nat.lt_of_le_of_lt hn (Nat.lt_of_lt_of_le this (pow_lt (by decide)))
  by_cases z : 0 ≤ y.num
  · refine key b.num hb.1 ?_
    have k1 : y.num * 1 ≤ y.num * b.den := Int.mul_le_mul_of_nonneg_left (by omega) z
    omega
  · refine key a.num ha.1 ?_
    have k1 : (-y.num) * 1 ≤ (-y.num) * a.den := Int.mul_le_mul_of_nonneg_left (by omega) (by omega)
    have k2 : (-y.num) * (a.den : Int) = -(y.num * a.den) := Int.neg_mul ..
    omega
section
variable {P : Program} {w : World} {K : PySem.W.Frag} {mg : Str → Option Value} {base : Heap} {C : Addr}
abbrev eNothing (K : PySem.W.Frag) : Er := ⟨He.ga K "Nothing", []⟩
abbrev spBetween (K : PySem.W.Frag) (C : Addr) : Sp := spX (A2 (rRat C) (rRat C)) (fun p => Sz 320 p.1 ∧ Sz 320 p.2) (rRat C) (fun p y => below p.1 p.2 ∧ Simp p.1 p.2 y) fun p e => ¬ below p.1 p.2 ∧ e = eNothing K
theorem ok_between (T : Tx K mg C) (f : Addr) (fd : FuncData) (F : FunD K "between" "between" (defArgs s_between) (defBody s_between) (defScope s_between) [] [] f fd) : FnOk P w K mg base (L2.CX P w) 6 f fd ["one", "other"] (spBetween K C) :=
  fnX F sc_between (fun _ => rfl) fun cdv A outer s H E hr tk => ⟨_, (pss_cons (ps_if (pt_not (pt_val (pe_methM (o_below T) (hr.mono (by decide)) (pv 0) (pa_cons (pv 1) pa_nil)))) (pss_one (ps_raise rfl tk (pmk_own0 PySem.F.excBase_ValueError T.xN T.g_Nothing T.kpN (raises_own T.bsN T.tyN) rfl))) pss_nil)
  (pss_cons (ps_set (i := 2) sc_between.nd rfl (by first | exact Or.inl rfl | exact Or.inr rfl) (pe_op op_fdivW (kfld (K := K) rfl (pv 0) rfl) (kfld (K := K) rfl (pv 0) rfl)))
  (pss_cons (ps_asg (pe_cal (c_simplest T) (hr.mono (by decide)) rfl (pa_cons (pe_op (op_subI T (hr.mono (by decide))) (pv 0) (pv 2)) (pa_cons (pe_op (op_subI T (hr.mono (by decide))) (pv 1) (pv 2)) pa_nil))) (kgtup (K := K) (n := 2) rfl rfl (pgs_cons (pg_name (i := 3) sc_between.nd rfl (by first | exact Or.inl rfl | exact Or.inr rfl)) (pgs_cons (pg_name (i := 4) sc_between.nd rfl (by first | exact Or.inl rfl | exact Or.inr rfl)) pgs_nil))))
  (pss_one (ps_ret (pe_op (op_addI T (hr.mono (by decide))) (pe_mkC (mk_Ratio T) (hr.mono (by decide)) rfl (pa_cons (pv 3) (pa_cons (pv 4) pa_nil))) (pv 2))))))),
    fun x hp => by
      obtain ⟨a, b⟩ := x
      obtain ⟨h1, h2⟩ := hp
      dsimp only at h1 h2
      have da := KSimp.den_pos a
      have db := KSimp.den_pos b
      have big1 : Sz 4000 a := h1.mono (by decide)
      have big2 : Sz 4000 b := h2.mono (by decide)
      refine s_seq <| s_if <| t_not <| t_test <| w_methP (hmR (by decide) (by decide)) <| w_var rfl <| a_cons <| w_var rfl <| a_nil ⟨(a, b), rfl, ⟨big1, big2⟩, fun z hz => ⟨fun e => ?_, fun e => s_next ?_⟩⟩
      · refine s_raise0 rfl ⟨?_, rfl⟩
        subst hz
        have e : (!decide (below a b)) = true := e
        simpa using e
      have hb : below a b := by
        subst hz
        have e : (!decide (below a b)) = false := e
        simpa using e
      have lw : (a.den : Int).natAbs.log2 < 9000 := Nat.lt_trans (h1.den (by decide)) (by decide)
      refine s_seq <| s_set <| w_op o_intC <| w_fld T.cls T.no_top <| w_var rfl ⟨_, rfl, w_fld T.cls T.no_bottom <| w_var rfl ⟨_, rfl, ⟨da, lw⟩, ?_⟩⟩
      dsimp only
      generalize hw : a.num / (a.den : Int) = q
      have w1 : q.natAbs < 2 ^ 320 := by rw [← hw]; exact div_le h1.1
      have fl := floor_lo a.num da
      have fh := floor_hi a.num da
      rw [hw] at fl fh
      have ea : (addI a (-q)).num = a.num - q * a.den := by rw [addI_num, Int.neg_mul, Int.sub_eq_add_neg]
      have eb : (addI b (-q)).num = b.num - q * b.den := by rw [addI_num, Int.neg_mul, Int.sub_eq_add_neg]
      have a320 : (a.den : Int) < 2 ^ 320 := int_lt (by rw [Int.natAbs_natCast]; exact h1.2)
      have b320 : (b.den : Int) < 2 ^ 320 := int_lt (by rw [Int.natAbs_natCast]; exact h2.2)
      have up : ∀ {i : Int} {n : Nat}, n ≤ 2100 → i < 2 ^ n → i < 2 ^ 2100 := fun {i n} l h => by
        have e : ((2 ^ n : Nat) : Int) ≤ ((2 ^ 2100 : Nat) : Int) := Int.ofNat_le.mpr (pow_lt l)
        have e1 : ((2 ^ n : Nat) : Int) = 2 ^ n := by simp
        have e2 : ((2 ^ 2100 : Nat) : Int) = 2 ^ 2100 := by rw [Int.natCast_pow]; rfl
        rw [e1, e2] at e
        exact Int.lt_of_lt_of_le h e
      have k1 : q * (a.den : Int) + (a.den : Int) = (q + 1) * a.den := by rw [Int.add_mul, Int.one_mul]
      have n0 : 0 ≤ (addI a (-q)).num := by rw [ea]; omega
      have n1 : (addI a (-q)).num < a.den := by rw [ea]; omega
      have z0 : (addI a (-q)).num / ((addI a (-q)).den : Int) = 0 := Int.ediv_eq_zero_of_lt n0 n1
      have lv : Lv (addI a (-q)) (addI b (-q)) ((addI a (-q)).num / (addI a (-q)).den) := by
        rw [z0]
        refine ⟨n0, by rw [Int.zero_mul]; exact n0, by rw [Int.zero_add, Int.one_mul]; exact n1, ?_⟩
        rw [ea, eb, addI_den, addI_den]
        have hb : a.num * (b.den : Int) < b.num * (a.den : Int) := hb
        grind
      have sa : Szd 2100 (addI a (-q)) := ⟨up (n := 320) (by decide) (by omega), up (n := 320) (by decide) a320⟩
      have sb : Szd 2100 (addI b (-q)) := ⟨up (n := 641) (by decide) (int_lt (by rw [eb, Int.sub_eq_add_neg, Int.add_comm]; exact add_lt (neg_lt (mul_lt w1 (by rw [Int.natAbs_natCast]; exact h2.2))) h2.1 (by decide))), up (n := 320) (by decide) b320⟩
      have w4 : Sz1 4000 q := sz_1 (n := 320) w1 (by decide)
      refine s_seq <| s_asg (is := [3] ++ [4]) (R := rP K) <| w_callP <| a_cons (R := rRat C) <| w_ownI <| w_var rfl <| w_var rfl ⟨(a, q), rfl, ⟨big1, w4⟩, fun y1 e1 => a_cons (R := rRat C) <| w_ownI <| w_var rfl <| w_var rfl ⟨(b, q), rfl, ⟨big2, w4⟩, fun y2 e2 => a_nil ⟨(y1, y2), rfl, ?_, fun r hr => ?_⟩⟩⟩
      · subst e1
        subst e2
        exact ⟨lv, sa, sb⟩
      subst e1
      subst e2
      obtain ⟨u, v⟩ := r
      obtain ⟨sp, ⟨o1, o2⟩, o3, o4⟩ := hr
      dsimp only at sp o1 o2 o3 o4
      obtain ⟨l1, l2⟩ := sp.sm.low
      refine tg_pair (R := rInt) (S := rInt) <| tg_name <| tg_name ?_
      have hsz : Sz 4000 (Rat.divInt u v) := ⟨by rw [l1]; exact szI (Int.le_of_lt o1) o2 (by decide), by
        have := szI (n := 2101) (k := 4000) (i := ((Rat.divInt u v).den : Int)) (by omega) (by omega) (by decide)
        rwa [Int.natAbs_natCast] at this⟩
      refine s_ret <| w_ownI <| w_ratio <| a_cons <| w_var rfl <| a_cons <| w_var rfl <| a_nil ⟨u, v, rfl, ⟨o3, Nat.lt_trans (lgI (Int.le_of_lt o3) o4) (by decide)⟩, w_var rfl ⟨(Rat.divInt u v, q), rfl, ⟨hsz, w4⟩, fun y hy => ⟨hb, ?_⟩⟩⟩
      have hy : y = addI (Rat.divInt u v) q := hy
      subst hy
      have s2 := shift (a := a) (b := b) (w := q) ea (addI_den a _) eb (addI_den b _) sp
      show Sm a b ((Rat.divInt u v).num + q * ((Rat.divInt u v).den : Int)) ((Rat.divInt u v).den : Int)
      rw [l1, l2]
      exact s2⟩
theorem c_between (T : Tx K mg C) : CalX P w K mg base "between" 6 ["one", "other"] (spBetween K C) := T.d_between.calX (fun _ _ _ _ _ _ us hl => match us, hl with | [_, _], _ => rfl) (ok_between T)
theorem k_between (T : Tx K mg C) : CalKX P w K mg base "between" 6 ["one", "other"] ["other", "one"] List.reverse (spBetween K C) :=
  T.d_between.calKX List.reverse (fun r => r.reverse) (fun _ _ _ _ _ _ ws hl => match ws, hl with | [_, _], _ => rfl) (ok_between T)
end
end K04
end

-- part KWalk
section
set_option Elab.async false
set_option linter.all false
set_option maxRecDepth 100000
set_option maxHeartbeats 400000
/-! # down the tree of fractions: plain -/
namespace KSimp
structure Wk (a b : Rat) (w l0 l1 r0 r1 : Int) : Prop where
  det : r0 * l1 - l0 * r1 = 1
  l1p : 1 ≤ l1
  r1p : 1 ≤ r1
  left : l0 * a.den ≤ a.num * l1
  right : b.num * r1 ≤ r0 * b.den
  lw : w * l1 ≤ l0
  lw1 : l0 ≤ (w + 1) * l1
  rw0 : w * r1 ≤ r0
  rw1 : r0 ≤ (w + 1) * r1
theorem Wk.alpha {a b : Rat} {w l0 l1 r0 r1 : Int} (k : Wk a b w l0 l1 r0 r1) {u v : Int} (hv : 0 < v) (i : In a b u v) : u * r1 < r0 * v ∧ l0 * v < u * l1 := by
  have ha := den_pos a
  have hb := den_pos b
  obtain ⟨i1, i2⟩ := i
  have c1 := k.left
  have c2 := k.right
  have p1 := k.l1p
  have p2 := k.r1p
  constructor
  · have d1 := Int.mul_lt_mul_of_pos_right i2 (show 0 < r1 by omega)
    have d2 := Int.mul_le_mul_of_nonneg_right c2 (show 0 ≤ v by omega)
    refine Int.lt_of_mul_lt_mul_right (a := (b.den : Int)) ?_ (by omega)
    grind
  · have d1 := Int.mul_lt_mul_of_pos_right i1 (show 0 < l1 by omega)
    have d2 := Int.mul_le_mul_of_nonneg_right c1 (show 0 ≤ v by omega)
    refine Int.lt_of_mul_lt_mul_right (a := (a.den : Int)) ?_ (by omega)
    grind
theorem Wk.comb {a b : Rat} {w l0 l1 r0 r1 : Int} (k : Wk a b w l0 l1 r0 r1) (u v : Int) : v = (r0 * v - u * r1) * l1 + (u * l1 - l0 * v) * r1 ∧ u = (r0 * v - u * r1) * l0 + (u * l1 - l0 * v) * r0 := by
  have d := k.det
  have d2 := congrArg (fun z => z * v) d
  have d3 := congrArg (fun z => z * u) d
  constructor
  · grind
  · grind
theorem Wk.bound {a b : Rat} {w l0 l1 r0 r1 : Int} (k : Wk a b w l0 l1 r0 r1) {u v : Int} (hv : 0 < v) (i : In a b u v) : l1 + r1 ≤ v ∧ (l1 + r1 = v → l0 + r0 = u) := by
  obtain ⟨h1, h2⟩ := k.alpha hv i
  obtain ⟨e1, e2⟩ := k.comb u v
  have p1 := k.l1p
  have p2 := k.r1p
  generalize ha : r0 * v - u * r1 = x at e1 e2
  generalize hb : u * l1 - l0 * v = y at e1 e2
  have x1 : 1 ≤ x := by omega
  have y1 : 1 ≤ y := by omega
  have m1 : 1 * l1 ≤ x * l1 := Int.mul_le_mul_of_nonneg_right x1 (by omega)
  have m2 : 1 * r1 ≤ y * r1 := Int.mul_le_mul_of_nonneg_right y1 (by omega)
  refine ⟨by omega, fun e => ?_⟩
  have n1 : x * l1 = 1 * l1 := by omega
  have n2 : y * r1 = 1 * r1 := by omega
  have x2 : x = 1 := Int.eq_of_mul_eq_mul_right (by omega) n1
  have y2 : y = 1 := Int.eq_of_mul_eq_mul_right (by omega) n2
  rw [x2, y2] at e2
  omega
theorem Wk.found {a b : Rat} {w l0 l1 r0 r1 : Int} (k : Wk a b w l0 l1 r0 r1) (i : In a b (l0 + r0) (l1 + r1)) : Sm a b (l0 + r0) (l1 + r1) := by
  have p1 := k.l1p
  have p2 := k.r1p
  refine ⟨by omega, i, fun u v hv hi => ?_⟩
  obtain ⟨h1, h2⟩ := k.bound hv hi
  exact ⟨h1, fun e => by have := h2 e; omega⟩
theorem Wk.goL {a b : Rat} {w l0 l1 r0 r1 m : Int} (k : Wk a b w l0 l1 r0 r1) (lt : a.num * b.den < b.num * a.den) (h : ¬ a.num * (l1 + r1) < (l0 + r0) * a.den) (hm : m = (a.num * l1 - l0 * a.den) / (r0 * a.den - a.num * r1)) :
    0 < r0 * a.den - a.num * r1 ∧ 1 ≤ m ∧ Wk a b w (l0 + m * r0) (l1 + m * r1) r0 r1 ∧ a.num * (l1 + m * r1 + r1) < (l0 + m * r0 + r0) * a.den := by
  have ha := den_pos a
  have hb := den_pos b
  have p1 := k.l1p
  have p2 := k.r1p
  have c2 := k.right
  have s0 : 0 < r0 * a.den - a.num * r1 := by
    have d1 := Int.mul_lt_mul_of_pos_right lt (show 0 < r1 by omega)
    have d2 := Int.mul_le_mul_of_nonneg_right c2 (show 0 ≤ (a.den : Int) by omega)
    have : a.num * r1 < r0 * a.den := by
      refine Int.lt_of_mul_lt_mul_right (a := (b.den : Int)) ?_ (by omega)
      grind
    omega
  have sg : r0 * a.den - a.num * r1 ≤ a.num * l1 - l0 * a.den := by grind
  generalize hs : r0 * a.den - a.num * r1 = s at *
  generalize hg : a.num * l1 - l0 * a.den = g at *
  have f1 : m * s ≤ g := by rw [hm]; exact Int.ediv_mul_le g (by omega)
  have f2 : g < (m + 1) * s := by rw [hm]; exact Int.lt_ediv_add_one_mul_self g s0
  have m1 : 1 ≤ m := by
    rw [hm]
    exact Int.le_ediv_of_mul_le s0 (by omega)
  have det := k.det
  have x1 := k.lw
  have x2 := k.lw1
  have x3 := Int.mul_le_mul_of_nonneg_left k.rw0 (show 0 ≤ m by omega)
  have x4 := Int.mul_le_mul_of_nonneg_left k.rw1 (show 0 ≤ m by omega)
  have x5 : 0 ≤ m * r1 := Int.mul_nonneg (by omega) (by omega)
  refine ⟨s0, m1, ⟨by grind, by omega, p2, by subst hs hg; grind, c2, by grind, by grind, k.rw0, k.rw1⟩, by subst hs hg; grind⟩
theorem Wk.goR {a b : Rat} {w l0 l1 r0 r1 m : Int} (k : Wk a b w l0 l1 r0 r1) (lt : a.num * b.den < b.num * a.den) (h : ¬ (l0 + r0) * b.den < b.num * (l1 + r1)) (hm : m = (r0 * b.den - b.num * r1) / (b.num * l1 - l0 * b.den)) :
    0 < b.num * l1 - l0 * b.den ∧ 1 ≤ m ∧ Wk a b w l0 l1 (r0 + m * l0) (r1 + m * l1) ∧ (l0 + (r0 + m * l0)) * b.den < b.num * (l1 + (r1 + m * l1)) := by
  have ha := den_pos a
  have hb := den_pos b
  have p1 := k.l1p
  have p2 := k.r1p
  have c1 := k.left
  have s0 : 0 < b.num * l1 - l0 * b.den := by
    have d1 := Int.mul_lt_mul_of_pos_right lt (show 0 < l1 by omega)
    have d2 := Int.mul_le_mul_of_nonneg_right c1 (show 0 ≤ (b.den : Int) by omega)
    have : l0 * b.den < b.num * l1 := by
      refine Int.lt_of_mul_lt_mul_right (a := (a.den : Int)) ?_ (by omega)
      grind
    omega
  have sg : b.num * l1 - l0 * b.den ≤ r0 * b.den - b.num * r1 := by grind
  generalize hs : b.num * l1 - l0 * b.den = s at *
  generalize hg : r0 * b.den - b.num * r1 = g at *
  have f1 : m * s ≤ g := by rw [hm]; exact Int.ediv_mul_le g (by omega)
  have f2 : g < (m + 1) * s := by rw [hm]; exact Int.lt_ediv_add_one_mul_self g s0
  have m1 : 1 ≤ m := by
    rw [hm]
    exact Int.le_ediv_of_mul_le s0 (by omega)
  have det := k.det
  have x3 := Int.mul_le_mul_of_nonneg_left k.lw (show 0 ≤ m by omega)
  have x4 := Int.mul_le_mul_of_nonneg_left k.lw1 (show 0 ≤ m by omega)
  have x5 : 0 ≤ m * l1 := Int.mul_nonneg (by omega) (by omega)
  have x6 := k.rw0
  have x7 := k.rw1
  refine ⟨s0, m1, ⟨by grind, p1, by omega, c1, by subst hs hg; grind, k.lw, k.lw1, by grind, by grind⟩, by subst hs hg; grind⟩
/-- how many turns -/
def Tn (a b : Rat) (t : Nat) (l0 l1 r0 r1 : Int) : Prop := t = 0 ∨ (2 ^ t ≤ 2 * (l1 * r1) ∧ ((a.num * (l1 + r1) < (l0 + r0) * a.den ∧ r1 ≤ l1) ∨ ((l0 + r0) * b.den < b.num * (l1 + r1) ∧ l1 ≤ r1)))
theorem Tn.goL {a b : Rat} {t : Nat} {w l0 l1 r0 r1 m : Int} (h : Tn a b t l0 l1 r0 r1) (k : Wk a b w l0 l1 r0 r1) (n : ¬ a.num * (l1 + r1) < (l0 + r0) * a.den) (hm : 1 ≤ m) (q : a.num * (l1 + m * r1 + r1) < (l0 + m * r0 + r0) * a.den) : Tn a b (t + 1) (l0 + m * r0) (l1 + m * r1) r0 r1 := by
  have p1 := k.l1p
  have p2 := k.r1p
  have x1 : 1 * r1 ≤ m * r1 := Int.mul_le_mul_of_nonneg_right hm (by omega)
  have x2 := Int.mul_le_mul_of_nonneg_right (show l1 + r1 ≤ l1 + m * r1 by omega) (show 0 ≤ r1 by omega)
  have x3 : 0 < l1 * r1 := Int.mul_pos (by omega) (by omega)
  have x4 : 1 * r1 ≤ r1 * r1 := Int.mul_le_mul_of_nonneg_right p2 (by omega)
  refine .inr ⟨?_, .inl ⟨q, by omega⟩⟩
  rcases h with rfl | ⟨h1, ⟨h2, _⟩ | ⟨_, h3⟩⟩
  · have : (l1 + r1) * r1 = l1 * r1 + r1 * r1 := Int.add_mul ..
    show (2 : Int) ^ (0 + 1) ≤ _
    rw [Int.pow_succ, Int.pow_zero]
    omega
  · exact absurd h2 n
  · have x5 := Int.mul_le_mul_of_nonneg_right h3 (show 0 ≤ r1 by omega)
    have : (l1 + r1) * r1 = l1 * r1 + r1 * r1 := Int.add_mul ..
    rw [Int.pow_succ]
    omega
theorem Tn.goR {a b : Rat} {t : Nat} {w l0 l1 r0 r1 m : Int} (h : Tn a b t l0 l1 r0 r1) (k : Wk a b w l0 l1 r0 r1) (n : ¬ (l0 + r0) * b.den < b.num * (l1 + r1)) (hm : 1 ≤ m) (q : (l0 + (r0 + m * l0)) * b.den < b.num * (l1 + (r1 + m * l1))) : Tn a b (t + 1) l0 l1 (r0 + m * l0) (r1 + m * l1) := by
  have p1 := k.l1p
  have p2 := k.r1p
  have x1 : 1 * l1 ≤ m * l1 := Int.mul_le_mul_of_nonneg_right hm (by omega)
  have x2 := Int.mul_le_mul_of_nonneg_left (show r1 + l1 ≤ r1 + m * l1 by omega) (show 0 ≤ l1 by omega)
  have x3 : 0 < l1 * r1 := Int.mul_pos (by omega) (by omega)
  have x4 : 1 * l1 ≤ l1 * l1 := Int.mul_le_mul_of_nonneg_right p1 (by omega)
  refine .inr ⟨?_, .inr ⟨q, by omega⟩⟩
  rcases h with rfl | ⟨h1, ⟨_, h3⟩ | ⟨h2, _⟩⟩
  · have : l1 * (r1 + l1) = l1 * r1 + l1 * l1 := Int.mul_add ..
    show (2 : Int) ^ (0 + 1) ≤ _
    rw [Int.pow_succ, Int.pow_zero]
    omega
  · have x5 := Int.mul_le_mul_of_nonneg_left h3 (show 0 ≤ l1 by omega)
    have : l1 * (r1 + l1) = l1 * r1 + l1 * l1 := Int.mul_add ..
    rw [Int.pow_succ]
    omega
  · exact absurd h2 n
theorem Tn.few {a b : Rat} {t : Nat} {w l0 l1 r0 r1 : Int} (h : Tn a b t l0 l1 r0 r1) (k : Wk a b w l0 l1 r0 r1) (hl : l1 < 2 ^ 330) (hr : r1 < 2 ^ 330) : t < 2000 := by
  rcases h with rfl | ⟨h1, _⟩
  · decide
  have p1 := k.l1p
  have p2 := k.r1p
  have x1 : l1 * r1 ≤ 2 ^ 330 * 2 ^ 330 := Int.mul_le_mul (by omega) (by omega) (by omega) (Int.le_of_lt (Int.pow_pos (by decide)))
  rw [← Int.pow_add] at x1
  have x2 : (2 : Int) ^ t ≤ 2 ^ 661 := by
    have e : (2 : Int) ^ 661 = 2 ^ (330 + 330) * 2 := Int.pow_succ ..
    omega
  have h2 : (2 : Nat) ^ t ≤ 2 ^ 661 := by
    have e1 : ((2 ^ t : Nat) : Int) = 2 ^ t := by simp
    have e2 : ((2 ^ 661 : Nat) : Int) = 2 ^ 661 := by rw [Int.natCast_pow]; rfl
    rw [← e1, ← e2] at x2
    exact Int.ofNat_le.mp x2
  have := (Nat.pow_le_pow_iff_right (by decide : 1 < 2)).mp h2
  omega
end KSimp
end

-- part K04J
section
set_option Elab.async false
set_option linter.all false
set_option maxRecDepth 100000
set_option maxHeartbeats 1000000
namespace K04
open PySem PySem.Spec PyProof.Rows L2 L2.Lc KSimp
theorem wk_sz {a b : Rat} {l0 l1 r0 r1 : Int} (ha : Sz 320 a) (hb : Sz 320 b) (h : below a b) (k : Wk a b (a.num / a.den) l0 l1 r0 r1) : (l0.natAbs < 2 ^ 650 ∧ l1.natAbs < 2 ^ 321) ∧ r0.natAbs < 2 ^ 650 ∧ r1.natAbs < 2 ^ 321 := by
  have da := KSimp.den_pos a
  have db := KSimp.den_pos b
  have bd := (k.bound (by omega) (In.med h)).1
  have e1 : (2 : Nat) ^ 321 = 2 ^ 320 + 2 ^ 320 := by rw [Nat.pow_succ]; omega
  have p1 := k.l1p
  have p2 := k.r1p
  have h1 := ha.2
  have h2 := hb.2
  have s1 : l1.natAbs < 2 ^ 321 := by omega
  have s2 : r1.natAbs < 2 ^ 321 := by omega
  have w1 : (a.num / (a.den : Int)).natAbs < 2 ^ 320 := div_le ha.1
  have w2 : (a.num / (a.den : Int) + 1).natAbs < 2 ^ 321 := add_lt w1 (show (1 : Int).natAbs < 2 ^ 1 by decide) (by decide)
  have key : ∀ {x y : Int}, y.natAbs < 2 ^ 321 → a.num / (a.den : Int) * y ≤ x → x ≤ (a.num / (a.den : Int) + 1) * y → x.natAbs < 2 ^ 650 := fun {x y} hy c1 c2 => by
    have m1 := Nat.lt_of_lt_of_le (mul_lt w1 hy) (pow_lt (show 320 + 321 ≤ 650 by decide))
    have m2 := Nat.lt_of_lt_of_le (mul_lt w2 hy) (pow_lt (show 321 + 321 ≤ 650 by decide))
    omega
  exact ⟨⟨key s1 k.lw k.lw1, s1⟩, key s2 k.rw0 k.rw1, s2⟩
theorem lg {i : Int} {n : Nat} (h : i.natAbs < 2 ^ n) (l : n ≤ 4000 := by decide) : i.natAbs.log2 < 4000 := log_le (by decide) (Nat.lt_of_lt_of_le h (pow_lt l))
section
variable {P : Program} {w : World} {K : PySem.W.Frag} {mg : Str → Option Value} {base : Heap} {C : Addr}
abbrev spWalked (K : PySem.W.Frag) : Sp := spP (A2 (rPq K) (rPq K)) (fun p => (Sz 320 p.1 ∧ Sz 320 p.2) ∧ below p.1 p.2) (rP K) fun p y => Sm p.1 p.2 y.1 y.2
theorem c_law_walked (T : Tx K mg C) : Cal P w K mg base "_law_walked" 2 ["one", "other"] (spWalked K) :=
  T.d_law_walked.cal (fun _ _ _ _ _ _ us hl => match us, hl with | [_, _], _ => rfl) fun f fd F => fnP F sc_law_walked (fun _ => rfl) fun cdv A outer s H E hr => ⟨_, (pss_cons (ps_if (pt_cmpR op_notN (pe_cal (c_law_tried T) (hr.mono (by decide)) rfl (pa_cons (pv 0) (pa_cons (pv 1) (pa_cons pe_int pa_nil)))) pe_non (nomark _)) (pss_one (ps_ret (pe_cal (c_law_tried T) (hr.mono (by decide)) rfl (pa_cons (pv 0) (pa_cons (pv 1) (pa_cons pe_int pa_nil)))))) pss_nil)
  (pss_cons (ps_set (i := 2) sc_law_walked.nd rfl (by first | exact Or.inl rfl | exact Or.inr rfl) (pe_op op_fdivW (pe_ix (ix_tupK (K := K) rfl) (pv 0) pe_int (fun _ _ => rfl)) (pe_ix (ix_tupK (K := K) rfl) (pv 0) pe_int (fun _ _ => rfl))))
  (pss_cons (ps_par (i := 3) (j := 4) rfl sc_law_walked.nd rfl rfl (by decide) rfl rfl (pa_cons (pe_tup (pa_cons (pv 2) (pa_cons pe_int pa_nil))) (pa_cons (pe_tup (pa_cons (pe_op op_add (pv 2) pe_int) (pa_cons pe_int pa_nil))) pa_nil)) rfl)
  (pss_cons (ps_for PassesOwn.never rfl (pi_range1 rfl T.f_range (pa_cons pe_int pa_nil)) (pg_name (i := 5) sc_law_walked.nd rfl (by first | exact Or.inl rfl | exact Or.inr rfl)) (pss_cons (ps_set (i := 6) sc_law_walked.nd rfl (by first | exact Or.inl rfl | exact Or.inr rfl) (pe_tup (pa_cons (pe_op op_add (pe_ix (ix_tupK (K := K) rfl) (pv 3) pe_int (fun _ _ => rfl)) (pe_ix (ix_tupK (K := K) rfl) (pv 4) pe_int (fun _ _ => rfl))) (pa_cons (pe_op op_add (pe_ix (ix_tupK (K := K) rfl) (pv 3) pe_int (fun _ _ => rfl)) (pe_ix (ix_tupK (K := K) rfl) (pv 4) pe_int (fun _ _ => rfl))) pa_nil))))
  (pss_cons (ps_if (PW.pt (pw_and (pt_val (pe_cal (c_law_is_less T) (hr.mono (by decide)) rfl (pa_cons (pv 0) (pa_cons (pv 6) pa_nil)))) (pw_and1 (pt_val (pe_cal (c_law_is_less T) (hr.mono (by decide)) rfl (pa_cons (pv 6) (pa_cons (pv 1) pa_nil))))))) (pss_one (ps_ret (pv 6))) pss_nil)
  (pss_one (ps_if (pt_not (pt_val (pe_cal (c_law_is_less T) (hr.mono (by decide)) rfl (pa_cons (pv 0) (pa_cons (pv 6) pa_nil))))) (pss_cons (ps_par (i := 7) (j := 8) rfl sc_law_walked.nd rfl rfl (by decide) rfl rfl (pa_cons (pe_op op_sub (pe_op op_mulW (pe_ix (ix_tupK (K := K) rfl) (pv 0) pe_int (fun _ _ => rfl)) (pe_ix (ix_tupK (K := K) rfl) (pv 3) pe_int (fun _ _ => rfl))) (pe_op op_mulW (pe_ix (ix_tupK (K := K) rfl) (pv 3) pe_int (fun _ _ => rfl)) (pe_ix (ix_tupK (K := K) rfl) (pv 0) pe_int (fun _ _ => rfl)))) (pa_cons (pe_op op_sub (pe_op op_mulW (pe_ix (ix_tupK (K := K) rfl) (pv 4) pe_int (fun _ _ => rfl)) (pe_ix (ix_tupK (K := K) rfl) (pv 0) pe_int (fun _ _ => rfl))) (pe_op op_mulW (pe_ix (ix_tupK (K := K) rfl) (pv 0) pe_int (fun _ _ => rfl)) (pe_ix (ix_tupK (K := K) rfl) (pv 4) pe_int (fun _ _ => rfl)))) pa_nil)) rfl)
  (pss_cons (ps_set (i := 9) sc_law_walked.nd rfl (by first | exact Or.inl rfl | exact Or.inr rfl) (pe_op op_fdivW (pv 7) (pv 8)))
  (pss_one (ps_set (i := 3) sc_law_walked.nd rfl (by first | exact Or.inl rfl | exact Or.inr rfl) (pe_tup (pa_cons (pe_op op_add (pe_ix (ix_tupK (K := K) rfl) (pv 3) pe_int (fun _ _ => rfl)) (pe_op op_mulW (pv 9) (pe_ix (ix_tupK (K := K) rfl) (pv 4) pe_int (fun _ _ => rfl)))) (pa_cons (pe_op op_add (pe_ix (ix_tupK (K := K) rfl) (pv 3) pe_int (fun _ _ => rfl)) (pe_op op_mulW (pv 9) (pe_ix (ix_tupK (K := K) rfl) (pv 4) pe_int (fun _ _ => rfl)))) pa_nil))))))) (pss_cons (ps_par (i := 7) (j := 8) rfl sc_law_walked.nd rfl rfl (by decide) rfl rfl (pa_cons (pe_op op_sub (pe_op op_mulW (pe_ix (ix_tupK (K := K) rfl) (pv 4) pe_int (fun _ _ => rfl)) (pe_ix (ix_tupK (K := K) rfl) (pv 1) pe_int (fun _ _ => rfl))) (pe_op op_mulW (pe_ix (ix_tupK (K := K) rfl) (pv 1) pe_int (fun _ _ => rfl)) (pe_ix (ix_tupK (K := K) rfl) (pv 4) pe_int (fun _ _ => rfl)))) (pa_cons (pe_op op_sub (pe_op op_mulW (pe_ix (ix_tupK (K := K) rfl) (pv 1) pe_int (fun _ _ => rfl)) (pe_ix (ix_tupK (K := K) rfl) (pv 3) pe_int (fun _ _ => rfl))) (pe_op op_mulW (pe_ix (ix_tupK (K := K) rfl) (pv 3) pe_int (fun _ _ => rfl)) (pe_ix (ix_tupK (K := K) rfl) (pv 1) pe_int (fun _ _ => rfl)))) pa_nil)) rfl)
  (pss_cons (ps_set (i := 9) sc_law_walked.nd rfl (by first | exact Or.inl rfl | exact Or.inr rfl) (pe_op op_fdivW (pv 7) (pv 8)))
  (pss_one (ps_set (i := 4) sc_law_walked.nd rfl (by first | exact Or.inl rfl | exact Or.inr rfl) (pe_tup (pa_cons (pe_op op_add (pe_ix (ix_tupK (K := K) rfl) (pv 4) pe_int (fun _ _ => rfl)) (pe_op op_mulW (pv 9) (pe_ix (ix_tupK (K := K) rfl) (pv 3) pe_int (fun _ _ => rfl)))) (pa_cons (pe_op op_add (pe_ix (ix_tupK (K := K) rfl) (pv 4) pe_int (fun _ _ => rfl)) (pe_op op_mulW (pv 9) (pe_ix (ix_tupK (K := K) rfl) (pv 3) pe_int (fun _ _ => rfl)))) pa_nil))))))))))))
  (pss_one (ps_ret pe_non)))))),
    fun x hp => by
      obtain ⟨a, b⟩ := x
      obtain ⟨⟨ha, hb⟩, hlt⟩ := hp
      dsimp only at ha hb hlt
      have da := KSimp.den_pos a
      have db := KSimp.den_pos b
      have a1 := ha.1
      have a2 : (a.den : Int).natAbs < 2 ^ 320 := by rw [Int.natAbs_natCast]; exact ha.2
      have b1 := hb.1
      have b2 : (b.den : Int).natAbs < 2 ^ 320 := by rw [Int.natAbs_natCast]; exact hb.2
      have g1 : Sz 1000 a := ha.mono (by decide)
      have g2 : Sz 1000 b := hb.mono (by decide)
      have fl := floor_lo a.num da
      have fh := floor_hi a.num da
      refine s_seq <| s_if <| t_test <| w_op0 (o_notNO nn_pr) <| w_callP <| a_cons <| w_var rfl <| a_cons <| w_var rfl <| a_cons <| w_int <| a_nil ⟨(a, b, 1), rfl, ⟨g1, g2, (by decide : (0 : Int) ≤ 1), (by decide : (1 : Int) ≤ 1000)⟩, fun o ho => w_non ⟨fun e => ?_, fun e => s_next ?_⟩⟩
      · refine s_ret <| w_some <| w_callP <| a_cons <| w_var rfl <| a_cons <| w_var rfl <| a_cons <| w_int <| a_nil ⟨(a, b, 1), rfl, ⟨g1, g2, (by decide : (0 : Int) ≤ 1), (by decide : (1 : Int) ≤ 1000)⟩, fun o2 ho2 => ?_⟩
        match o, o2, ho, ho2, e with
        | some (p, q), some (p2, q2), _, h2, _ => exact ⟨_, rfl, h2.1⟩
        | some (p, q), none, h1, h2, _ => exact absurd h1.1.at_ (h2 q h1.1.pos h1.2 p)
      have hn : ∀ v, 0 < v → v ≤ 1 → ∀ u, ¬ In a b u v := by
        match o, ho, e with
        | none, h, _ => exact h
      have right : b.num ≤ (a.num / a.den + 1) * b.den := by
        by_cases z : b.num ≤ (a.num / a.den + 1) * b.den
        · exact z
        · exact absurd ⟨by omega, by omega⟩ (hn 1 (by decide) (by decide) (a.num / a.den + 1))
      have wk0 : Wk a b (a.num / a.den) (a.num / a.den) 1 (a.num / a.den + 1) 1 := ⟨by omega, by decide, by decide, by omega, by omega, by omega, by omega, by omega, by omega⟩
      refine s_seq <| s_set <| w_op o_intC <| w_pq0 <| w_var rfl <| w_pq1 <| w_var rfl ⟨⟨da, Nat.lt_trans (lg a2) (by decide)⟩, ?_⟩
      refine s_seq <| s_par <| a_cons (R := rP K) <| w_pr <| w_var rfl <| w_int <| a_cons (R := rP K) <| w_pr <| w_op0 o_int <| w_var rfl <| w_int <| w_int <| a_nil ⟨_, _, rfl, ?_⟩
      refine s_seq <| s_for (is := [5]) <| i_range <| a_cons <| w_int <| a_nil ⟨2000, rfl, by decide, by decide,
        fun pre Γ' _ => ∃ (l0 l1 r0 r1 : Int) (o5 o6 o7 o8 o9 : Option Ent), Γ' = [some (.mk (rPq K) a), some (.mk (rPq K) b), some (.mk rInt (a.num / a.den)), some (.mk (rP K) (l0, l1)), some (.mk (rP K) (r0, r1)), o5, o6, o7, o8, o9] ∧ Wk a b (a.num / a.den) l0 l1 r0 r1 ∧ Tn a b pre.length l0 l1 r0 r1,
        ⟨_, _, _, _, none, none, none, none, none, rfl, wk0, .inl rfl⟩, ?_, ?_⟩
      · rintro pre tn post Γ' n' hl ⟨l0, l1, r0, r1, o5, o6, o7, o8, o9, rfl, hk, ht⟩
        obtain ⟨⟨sl0, sl1⟩, sr0, sr1⟩ := wk_sz ha hb hlt hk
        have sm0 := add_lt sl0 sr0 (by decide)
        have sm1 := add_lt sl1 sr1 (by decide)
        have pl : (pre ++ [tn]).length = pre.length + 1 := by simp
        refine tg_name <| s_seq <| s_set (R := rP K) <| w_pr <| w_op0 o_int <| w_fst (R := rInt) (S := rInt) <| w_var rfl <| w_fst (R := rInt) (S := rInt) <| w_var rfl <| w_op0 o_int <| w_snd (R := rInt) (S := rInt) <| w_var rfl <| w_snd (R := rInt) (S := rInt) <| w_var rfl ?_
        have pre1 : preP (pq a, (l0 + r0, l1 + r1)) := ⟨⟨sz_1 (n := 320) a1 (by decide), sz_1 (n := 320) a2 (by decide)⟩, sz_1 (n := 651) sm0 (by decide), sz_1 (n := 322) sm1 (by decide)⟩
        have pre2 : preP ((l0 + r0, l1 + r1), pq b) := ⟨⟨sz_1 (n := 651) sm0 (by decide), sz_1 (n := 322) sm1 (by decide)⟩, sz_1 (n := 320) b1 (by decide), sz_1 (n := 320) b2 (by decide)⟩
        -- to the left end
        have goL : ∀ (h : ¬ a.num * (l1 + r1) < (l0 + r0) * a.den) (Γ2 : Gm), Γ2 = [some (.mk (rPq K) a), some (.mk (rPq K) b), some (.mk rInt (a.num / a.den)), some (.mk (rP K) (l0, l1)), some (.mk (rP K) (r0, r1)), some (.mk rInt tn), some (.mk (rP K) (l0 + r0, l1 + r1)), o7, o8, o9] → 0 < r0 * a.den - a.num * r1 ∧
            ∃ m, m = (a.num * l1 - l0 * a.den) / (r0 * a.den - a.num * r1) ∧ m.natAbs < 2 ^ 1000 ∧ Wk a b (a.num / a.den) (l0 + m * r0) (l1 + m * r1) r0 r1 ∧ Tn a b (pre.length + 1) (l0 + m * r0) (l1 + m * r1) r0 r1 := by
          intro h Γ2 _
          obtain ⟨k1, k2, k3, k4⟩ := hk.goL hlt h rfl
          refine ⟨k1, _, rfl, ?_, k3, ht.goL hk h k2 k4⟩
          refine div_le ?_
          exact Nat.lt_of_lt_of_le (sub_lt (m := 970) (n := 970) (Nat.lt_of_lt_of_le (mul_lt a1 sl1) (pow_lt (by decide))) (Nat.lt_of_lt_of_le (mul_lt sl0 a2) (pow_lt (by decide))) (by decide)) (pow_lt (by decide))
        refine s_mid (fun Γ2 _ => Γ2 = [some (.mk (rPq K) a), some (.mk (rPq K) b), some (.mk rInt (a.num / a.den)), some (.mk (rP K) (l0, l1)), some (.mk (rP K) (r0, r1)), some (.mk rInt tn), some (.mk (rP K) (l0 + r0, l1 + r1)), o7, o8, o9] ∧ ¬ In a b (l0 + r0) (l1 + r1)) ?first ?step
        case' first => refine s_if <| t_and <| t_test <| w_callP <| a_cons (R := rP K) <| w_qp <| w_var rfl <| a_cons <| w_var rfl <| a_nil ⟨(pq a, (l0 + r0, l1 + r1)), rfl, pre1, fun z hz => ⟨fun e1 => ?_, fun e1 => ⟨fun z => (by cases z), fun _ => s_next ?_⟩⟩⟩
        · subst hz
          have e1 : a.num * (l1 + r1) < (l0 + r0) * a.den := of_decide_eq_true e1
          refine t_test <| w_callP <| a_cons <| w_var rfl <| a_cons (R := rP K) <| w_qp <| w_var rfl <| a_nil ⟨((l0 + r0, l1 + r1), pq b), rfl, pre2, fun z hz => ⟨fun e2 => ?_, fun e2 => s_next ?_⟩⟩
          · subst hz
            exact s_ret <| w_var rfl <| hk.found ⟨e1, of_decide_eq_true e2⟩
          · subst hz
            have e2 : ¬ (l0 + r0) * b.den < b.num * (l1 + r1) := of_decide_eq_false e2
            exact ⟨rfl, fun h => e2 h.2⟩
        · subst hz
          have e1 : ¬ a.num * (l1 + r1) < (l0 + r0) * a.den := of_decide_eq_false e1
          exact ⟨rfl, fun h => e1 h.1⟩
        case step =>
          rintro Γ2 n2 ⟨rfl, hno⟩
          refine s_if <| t_not <| t_test <| w_callP <| a_cons (R := rP K) <| w_qp <| w_var rfl <| a_cons <| w_var rfl <| a_nil ⟨(pq a, (l0 + r0, l1 + r1)), rfl, pre1, fun z hz => ⟨fun e1 => ?_, fun e1 => ?_⟩⟩
          · subst hz
            have e1 : ¬ a.num * (l1 + r1) < (l0 + r0) * a.den := by
              have e1 : (!decide (a.num * (l1 + r1) < (l0 + r0) * a.den)) = true := e1
              simpa using e1
            obtain ⟨s0, m, hm, sm, hk', ht'⟩ := goL e1 _ rfl
            have q1 := mul_lt a1 sl1
            have q2 := mul_lt sl0 a2
            have q3 := mul_lt sr0 a2
            have q4 := mul_lt a1 sr1
            have st : (r0 * (a.den : Int) - a.num * r1).natAbs < 2 ^ 971 := sub_lt q3 (Nat.lt_of_lt_of_le q4 (pow_lt (show 320 + 321 ≤ 970 by decide))) (by decide)
            refine s_seq <| s_par <| a_cons <| w_op0 o_int <| w_op o_intC <| w_pq0 <| w_var rfl <| w_snd (R := rInt) (S := rInt) <| w_var rfl ⟨cm (lg a1) (lg sl1), w_op o_intC <| w_fst (R := rInt) (S := rInt) <| w_var rfl <| w_pq1 <| w_var rfl ⟨cm (lg sl0) (lg a2), ?_⟩⟩
            refine a_cons <| w_op0 o_int <| w_op o_intC <| w_fst (R := rInt) (S := rInt) <| w_var rfl <| w_pq1 <| w_var rfl ⟨cm (lg sr0) (lg a2), w_op o_intC <| w_pq0 <| w_var rfl <| w_snd (R := rInt) (S := rInt) <| w_var rfl ⟨cm (lg a1) (lg sr1), a_nil ⟨_, _, rfl, ?_⟩⟩⟩
            refine s_seq <| s_set <| w_op o_intC <| w_var rfl <| w_var rfl ⟨⟨s0, Nat.lt_trans (lg st) (by decide)⟩, ?_⟩
            dsimp only
            rw [← hm]
            refine s_set (R := rP K) <| w_pr <| w_op0 o_int <| w_fst (R := rInt) (S := rInt) <| w_var rfl <| w_op o_intC <| w_var rfl <| w_fst (R := rInt) (S := rInt) <| w_var rfl ⟨cm (lg sm) (lg sr0), ?_⟩
            refine w_op0 o_int <| w_snd (R := rInt) (S := rInt) <| w_var rfl <| w_op o_intC <| w_var rfl <| w_snd (R := rInt) (S := rInt) <| w_var rfl ⟨cm (lg sm) (lg sr1), ?_⟩
            exact ⟨_, _, _, _, _, _, _, _, _, rfl, hk', by rw [pl]; exact ht'⟩
          · subst hz
            have e1 : a.num * (l1 + r1) < (l0 + r0) * a.den := by
              have e1 : (!decide (a.num * (l1 + r1) < (l0 + r0) * a.den)) = false := e1
              simpa using e1
            have e2 : ¬ (l0 + r0) * b.den < b.num * (l1 + r1) := fun z => hno ⟨e1, z⟩
            obtain ⟨s0, k2, hk', k4⟩ := hk.goR hlt e2 rfl
            have ht' := ht.goR hk e2 k2 k4
            have q1 := mul_lt sr0 b2
            have q2 := mul_lt b1 sr1
            have q3 := mul_lt b1 sl1
            have q4 := mul_lt sl0 b2
            have st : (b.num * l1 - l0 * (b.den : Int)).natAbs < 2 ^ 971 := sub_lt (m := 970) (Nat.lt_of_lt_of_le q3 (pow_lt (show 320 + 321 ≤ 970 by decide))) q4 (by decide)
            have sm : ((r0 * (b.den : Int) - b.num * r1) / (b.num * l1 - l0 * (b.den : Int))).natAbs < 2 ^ 971 := div_le (sub_lt q1 (Nat.lt_of_lt_of_le q2 (pow_lt (show 320 + 321 ≤ 970 by decide))) (by decide))
            refine s_seq <| s_par <| a_cons <| w_op0 o_int <| w_op o_intC <| w_fst (R := rInt) (S := rInt) <| w_var rfl <| w_pq1 <| w_var rfl ⟨cm (lg sr0) (lg b2), w_op o_intC <| w_pq0 <| w_var rfl <| w_snd (R := rInt) (S := rInt) <| w_var rfl ⟨cm (lg b1) (lg sr1), ?_⟩⟩
            refine a_cons <| w_op0 o_int <| w_op o_intC <| w_pq0 <| w_var rfl <| w_snd (R := rInt) (S := rInt) <| w_var rfl ⟨cm (lg b1) (lg sl1), w_op o_intC <| w_fst (R := rInt) (S := rInt) <| w_var rfl <| w_pq1 <| w_var rfl ⟨cm (lg sl0) (lg b2), a_nil ⟨_, _, rfl, ?_⟩⟩⟩
            refine s_seq <| s_set <| w_op o_intC <| w_var rfl <| w_var rfl ⟨⟨s0, Nat.lt_trans (lg st) (by decide)⟩, ?_⟩
            dsimp only
            generalize (r0 * (b.den : Int) - b.num * r1) / (b.num * l1 - l0 * (b.den : Int)) = m at sm hk' ht' ⊢
            refine s_set (R := rP K) <| w_pr <| w_op0 o_int <| w_fst (R := rInt) (S := rInt) <| w_var rfl <| w_op o_intC <| w_var rfl <| w_fst (R := rInt) (S := rInt) <| w_var rfl ⟨cm (lg sm) (lg sl0), ?_⟩
            refine w_op0 o_int <| w_snd (R := rInt) (S := rInt) <| w_var rfl <| w_op o_intC <| w_var rfl <| w_snd (R := rInt) (S := rInt) <| w_var rfl ⟨cm (lg sm) (lg sl1), ?_⟩
            exact ⟨_, _, _, _, _, _, _, _, _, rfl, hk', by rw [pl]; exact ht'⟩
      · rintro Γ' n' ⟨l0, l1, r0, r1, o5, o6, o7, o8, o9, rfl, hk, ht⟩
        obtain ⟨⟨sl0, sl1⟩, sr0, sr1⟩ := wk_sz ha hb hlt hk
        exfalso
        have p1 := hk.l1p
        have p2 := hk.r1p
        have e : (2 : Int) ^ 330 = 2 ^ 321 * 512 := Int.pow_add (2 : Int) 321 9
        have i1 := int_lt sl1
        have i2 := int_lt sr1
        have := ht.few hk (by omega) (by omega)
        have hlen : (rangeL 0 (2000 : Int).toNat).length = 2000 := by unfold rangeL; simp
        rw [hlen] at this
        omega⟩
end
end K04
end

-- part LcHeard
section
set_option Elab.async false
set_option linter.all false
set_option maxRecDepth 100000
set_option maxHeartbeats 400000
/-! # LcHeard: what a law's try makes of a lambda; modes with tables of code objects -/
namespace L2.Lc
open PySem PySem.Spec PyProof.Rows L2
open Evl (Ex ex_l ex_t)
open LamX (Tabs TabS TabB CodeO lamEnv lamCx)
/-! ### tables beside what changes -/
def Keyed (T : List (Addr × Str)) (a : Addr) : Prop := ∃ p ∈ T, p.1 = a
theorem tabs_frame {T : List (Addr × Str)} {H H' : Hp} (t : Tabs T H) (f : ∀ a, Keyed T a → H' a = H a) (x : ∀ a φ, H a = some (.ext φ) → H' a = some (.ext φ)) : Tabs T H' := fun p hp => by
  obtain ⟨ps, h1, h2, h3⟩ := t p hp
  refine ⟨ps, (f _ ⟨p, hp, rfl⟩).trans h1, h2, fun pos cv hc => ?_⟩
  obtain ⟨c, e1, e2⟩ := h3 pos cv hc
  exact ⟨c, e1, x _ _ e2⟩
theorem tabs_ex {T : List (Addr × Str)} {H H' : Hp} (t : Tabs T H) (f : Ex H H') : Tabs T H' := t.ext f
theorem tabs_at {T : List (Addr × Str)} {H : Hp} (t : Tabs T H) {a : Addr} (k : Keyed T a) : ∃ ps, H a = some (.tbl ps) := by
  obtain ⟨p, hp, rfl⟩ := k
  obtain ⟨ps, h1, _⟩ := t p hp
  exact ⟨ps, h1⟩
/-- the mode m, and tables -/
def mT {S : Type} (T : List (Addr × Str)) (m : Md S) : Md S where
  inv := fun n H => m.inv n H ∧ Tabs T H
  foot := fun a => m.foot a ∨ Keyed T a
  chg := fun a => m.chg a ∨ Keyed T a
  sub := fun a h => h.imp (m.sub a) id
  live := fun {n H a} i f => by
    rcases f with f | f
    · exact m.live i.1 f
    · obtain ⟨ps, e⟩ := tabs_at i.2 f
      rw [e]; exact fun z => by cases z
  frame := fun {n H H'} i f x => ⟨m.frame i.1 (fun a fa => f a (.inl fa)) x, tabs_frame i.2 (fun a k => f a (.inr k)) x⟩
  nt := fun {n H a} i f xs => by
    rcases f with f | f
    · exact m.nt i.1 f xs
    · obtain ⟨ps, e⟩ := tabs_at i.2 f
      rw [e]; exact fun z => by cases z
  E := m.E
  XP := m.XP
/-- nothing of the mode is a table or a thing told by its object -/
def Pure {S : Type} (m : Md S) : Prop := ∀ n H a, m.inv n H → m.foot a → (∀ φ, H a ≠ some (.ext φ)) ∧ ∀ ps, H a ≠ some (.tbl ps)
theorem pure_pm : Pure pm := fun _ _ _ _ f => f.elim
theorem pure_pen {I : PenI} : Pure (mPen I) := fun n H a i f => by
  rcases f with rfl | rfl
  · exact ⟨fun φ z => (by rw [i.1] at z; cases z), fun ps z => (by rw [i.1] at z; cases z)⟩
  · exact ⟨fun φ z => (by rw [i.2.1] at z; cases z), fun ps z => (by rw [i.2.1] at z; cases z)⟩
section
variable {S α β : Type} {T : List (Addr × Str)} {m : Md S} {Γ : Gm} {n : S} {R : Rl α}
theorem Cond.outT {M : Addr → Prop} {H : Hp} (c : Cond (mT T m) M H n) (p : Pure m) : Cond m M H n := ⟨c.good, fun a z => c.mm a (.inl z), c.inv.1, fun e k H' cls d q x i o => by
  have x' : ExM (mT T m) H H' := fun a o nz h => x a o (fun z => nz (.inl z)) h
  refine c.exc e k H' cls d q x' ⟨i, ?_⟩ o
  refine tabs_frame c.inv.2 (fun a k => ?_) fun a φ h => ?_
  · obtain ⟨ps, e⟩ := tabs_at c.inv.2 k
    rw [e]
    exact x a _ (fun z => (p _ _ _ c.inv.1 (m.sub a z)).2 ps e) e
  · exact x a _ (fun z => (p _ _ _ c.inv.1 (m.sub a z)).1 φ h) h⟩
theorem outT_ex {M : Addr → Prop} {H H' : Hp} (c : Cond (mT T m) M H n) (p : Pure m) (x : ExM m H H') : ExM (mT T m) H H' ∧ Tabs T H' := by
  refine ⟨fun a o nz h => x a o (fun z => nz (.inl z)) h, ?_⟩
  refine tabs_frame c.inv.2 (fun a k => ?_) fun a φ h => ?_
  · obtain ⟨ps, e⟩ := tabs_at c.inv.2 k
    rw [e]
    exact x a _ (fun z => (p _ _ _ c.inv.1 (m.sub a z)).2 ps e) e
  · exact x a _ (fun z => (p _ _ _ c.inv.1 (m.sub a z)).1 φ h) h
/-- what goes without tables goes beside them -/
theorem w_inT {te : TE} {Post : α → S → Prop} (p : Pure m) (h : EvW m te Γ n R Post) : EvW (mT T m) te Γ n R Post := fun M σ H c e Q k =>
  h M σ H (c.outT p) e Q fun v x n1 H1 p1 e1 i1 r1 => by
    obtain ⟨x1, t1⟩ := outT_ex c p e1
    exact k v x n1 H1 p1 x1 ⟨i1, t1⟩ r1
theorem t_inT {t : TT} {Post : Bool → S → Prop} (p : Pure m) (h : TeW m t Γ n Post) : TeW (mT T m) t Γ n Post := fun M σ H c e Q k =>
  h M σ H (c.outT p) e Q fun b n1 H1 p1 e1 i1 => by
    obtain ⟨x1, t1⟩ := outT_ex c p e1
    exact k b n1 H1 p1 x1 ⟨i1, t1⟩
theorem s_inT {t : TS} {D : Dn S β} {R : Rl β} (p : Pure m) (h : StW m t Γ n R D) : StW (mT T m) t Γ n R D := fun M σ H c e E k =>
  h M σ H (c.outT p) e E ⟨fun Γ1 n1 σ1 H1 p1 e1 i1 en => by
    obtain ⟨x1, t1⟩ := outT_ex c p e1
    exact k.nx Γ1 n1 σ1 H1 p1 x1 ⟨i1, t1⟩ en, fun y n1 v H1 p1 e1 i1 r => by
    obtain ⟨x1, t1⟩ := outT_ex c p e1
    exact k.rt y n1 v H1 p1 x1 ⟨i1, t1⟩ r, fun Γ1 n1 σ1 H1 p1 e1 i1 en => by
    obtain ⟨x1, t1⟩ := outT_ex c p e1
    exact k.bk Γ1 n1 σ1 H1 p1 x1 ⟨i1, t1⟩ en, fun Γ1 n1 σ1 H1 p1 e1 i1 en => by
    obtain ⟨x1, t1⟩ := outT_ex c p e1
    exact k.ct Γ1 n1 σ1 H1 p1 x1 ⟨i1, t1⟩ en⟩
end
/-! ### heard -/
/-- what the def that hears makes of what it is given: a list of the value; of an error that is told, what RH says -/
def TTh (K : PySem.W.Frag) (Told : Er → Prop) (RH : Er → Rl Unit) : (XK → Hp → VK → Prop) → Hp → VK → Prop := fun tl H Q =>
  ∃ M, Good M H ∧ ∀ H2, Ex H H2 → ∀ (E' : XK) (Q' : VK),
    (∀ e cls d H', Told e → Good M H' → e.ok (hid M H') cls d → (∀ v H'', Ex H' H'' → (RH e).r (hid M H'') v () → Q v H'') → E' cls d H') →
    (∀ v H', Good M H' → (∀ u H'', Ex H' H'' → (rLst K rVal).r (hid M H'') u [v] → Q u H'') → Q' v H') → tl E' H2 Q'
section
variable {S α γ : Type} {T : List (Addr × Str)} {m : Md S} {Γ : Gm} {n : S} {R : Rl α} {U : Rl γ} {K : PySem.W.Frag} {Told : Er → Prop} {RH : Er → Rl Unit}
/-- what the call of the def that hears gives, in pure terms -/
theorem w_heard {t : XK → TE} {XP : Er → S → Prop} {Post1 : α → S → Prop} {Post : γ → S → Prop} (p : Pure m) (hx : ∀ e k, XP e k → Told e ∧ ∃ y, Post y k ∧ ∀ G v, (RH e).r G v () → U.r G v y)
    (h : ∀ E, EvW (m.wx E XP) (t E) Γ n R Post1) (hv : ∀ x k, Post1 x k → ∃ y, Post y k ∧ ∀ G v u, R.r G v x → (rLst K rVal).r G u [v] → U.r G u y) :
    EvW (mT T m) (tLamT T (TTh K Told RH) t) Γ n U Post := fun M σ H c e Q k => by
  refine ⟨c.inv.2, fun H1 x1 t1 => ⟨M, ?_, fun H2 x2 E' Q' hE hQ => ?_⟩⟩
  · intro a ma
    by_cases z : Keyed T a
    · obtain ⟨ps, q⟩ := tabs_at t1 z
      exact ⟨_, q, fun _ y => by cases y⟩
    · obtain ⟨o, q1, q2⟩ := c.good a ma
      exact ⟨o, x1 a o (fun p hp y => z ⟨p, hp, y⟩) q1, q2⟩
  have kM : ∀ a, Keyed T a → M a := fun a z => c.mm a (.inr z)
  have g2 : Good M H2 := fun a ma => by
    by_cases z : Keyed T a
    · obtain ⟨ps, q⟩ := tabs_at t1 z
      exact ⟨_, x2 _ _ q, fun _ y => by cases y⟩
    · obtain ⟨o, q1, q2⟩ := c.good a ma
      exact ⟨o, x2 _ _ (x1 a o (fun p hp y => z ⟨p, hp, y⟩) q1), q2⟩
  have x12 : ∀ a o, ¬ Keyed T a → H a = some o → H2 a = some o := fun a o z q => x2 _ _ (x1 a o (fun p hp y => z ⟨p, hp, y⟩) q)
  have eh : Ex (hid M H) (hid M H2) := fun a o q => by
    obtain ⟨na, q⟩ := hid_some q
    rw [hid_no na]
    exact x12 a o (fun z => na (kM a z)) q
  have i2 : m.inv n H2 := m.frame c.inv.1 (fun a f => by
    cases q : H a with
    | none => exact absurd q (m.live c.inv.1 f)
    | some o => exact x12 a o (fun z => by
        obtain ⟨ps, y⟩ := tabs_at c.inv.2 z
        exact (p _ _ _ c.inv.1 f).2 ps y) q) fun a φ q => x12 a _ (fun z => by
        obtain ⟨ps, y⟩ := tabs_at c.inv.2 z
        rw [q] at y; cases y) q
  have t2 : Tabs T H2 := tabs_ex t1 x2
  -- from H2 on, the tables stay
  have fin : ∀ {H' H'' : Hp} {n' : S}, ExM m H2 H' → m.inv n' H' → Ex H' H'' → ExM (mT T m) H H'' ∧ (mT T m).inv n' H'' := fun {H' H'' n'} x i y => by
    have keep : ∀ a o, ¬ m.chg a → H2 a = some o → H'' a = some o := fun a o z q => y _ _ (x a o z q)
    refine ⟨fun a o nz q => keep a o (fun z => nz (.inl z)) (x12 a o (fun z => nz (.inr z)) q), m.kept i y, ?_⟩
    refine tabs_frame t2 (fun a z => ?_) fun a φ q => ?_
    · obtain ⟨ps, q⟩ := tabs_at t2 z
      rw [q]
      exact keep a _ (fun z => (p _ _ _ i2 (m.sub a z)).2 ps q) q
    · exact keep a _ (fun z => (p _ _ _ i2 (m.sub a z)).1 φ q) q
  have good' : ∀ {H' : Hp} {n' : S}, ExM m H2 H' → m.inv n' H' → Good M H' := fun {H' n'} x i a ma => by
    by_cases z : m.chg a
    · exact Md.has i z
    · obtain ⟨o, q1, q2⟩ := g2 a ma
      exact ⟨o, x a o z q1, q2⟩
  refine h E' M σ H2 ⟨g2, fun a z => c.mm a (.inl z), i2, fun er k' H' cls d px x i o => ?_⟩ (e.mono eh) Q' fun v x n' H' p1 e1 i1 r1 => ?_
  · obtain ⟨told, y, py, hy⟩ := hx er k' px
    refine hE er cls d H' told (good' x i) o fun v H'' z rv => ?_
    obtain ⟨f1, f2⟩ := fin x i z
    exact k v y k' H'' py f1 f2 (hy _ v rv)
  · obtain ⟨y, py, hy⟩ := hv x n' p1
    refine hQ v H' (good' e1 i1) fun u H'' z rv => ?_
    obtain ⟨f1, f2⟩ := fin e1 i1 z
    exact k u y n' H'' py f1 f2 (hy _ v u (R.mono (hid_mono z) r1) rv)
end
section
variable {X : Cx} {K : PySem.W.Frag} {Told : Er → Prop} {RH : Er → Rl Unit}
/-- the reading of: try: found = ask() / except X as error: caught = error -/
def tTryH (K : PySem.W.Frag) (c : Value) (f c' : Addr) (q : Str) (tl : XK → Hp → VK → Prop) : TS := fun D σ H =>
  tAsg (fun σZ HZ Q => σZ[0]? = some (some (.ref f)) ∧ HZ c' = some (CodeO c' q) ∧ tl (WE (wKeep K c 3 (fun _ _ _ => tAsg (tVar 3) (gName 1)) (fun _ _ _ _ => False) D) σZ) HZ Q) (gName 2) D σ H
theorem heard_body {t0 tr : TS} {f c' OE : Addr} {q : Str} {H : Hp} {Q : VK} {tl : XK → Hp → VK → Prop}
    (h0 : StW pm t0 [some (.mk rVal (.ref f)), none, none, none] () rVal { nx := fun Γ _ => ∃ x, Γ = [some (.mk rVal (.ref f)), some (.mk rNon ()), some (.mk rNon ()), x], rt := fun _ _ => False })
    (hv : ∀ v, StW pm tr [some (.mk rVal (.ref f)), some (.mk rNon ()), some (.mk rVal v), none] () (rLst K rVal) { nx := fun _ _ => False, rt := fun y _ => y = [v] })
    (he : ∀ e, Told e → StW pm tr [some (.mk rVal (.ref f)), some (.mk (rErr e) ()), some (.mk rNon ()), none] () (RH e) { nx := fun _ _ => False, rt := fun _ _ => True })
    (hm : ∀ e, Told e → PySem.W.exmOne K (.ref e.C) (.ref OE) = some true)
    (hc : H c' = some (CodeO c' q)) (h : TTh K Told RH tl H Q) :
    tSeq t0 (tSeq (tTryH K (.ref OE) f c' q tl) tr) { nx := fun _ H' => Q .non H', rt := Q } [some (.ref f), none, none, none] H := by
  obtain ⟨M, g, h⟩ := h
  have cond : ∀ {H : Hp}, Good M H → Cond pm M H () := fun {H} g => ⟨g, fun _ z => z.elim, trivial, fun _ _ _ _ _ z => z.elim⟩
  have nch : ∀ b : Addr, ¬ pm.chg b := fun _ z => z.elim
  have toEx : ∀ {H H' : Hp}, ExM pm H H' → Ex H H' := fun {H H'} x a o q => x a o (nch a) q
  refine h0 M _ H (cond g) ⟨rfl, fun i e z => ?_⟩ _ ⟨fun Γ1 n σ1 H1 hΓ x1 _ en => ?_, fun _ _ _ _ z => z.elim, fun _ _ _ _ z => z.elim, fun _ _ _ _ z => z.elim⟩
  · match i, z with
    | 0, z => cases z; exact ⟨_, rfl, rfl⟩
    | 1, z => cases z
    | 2, z => cases z
    | 3, z => cases z
    | i + 4, z => simp at z
  obtain ⟨x, rfl⟩ := hΓ
  obtain ⟨u0, a0, rfl⟩ := en.2 0 _ rfl
  obtain ⟨u1, a1, rfl⟩ := en.2 1 _ rfl
  obtain ⟨u2, a2, rfl⟩ := en.2 2 _ rfl
  have len : σ1.length = 4 := en.1
  obtain ⟨z3, hσ⟩ : ∃ z3, σ1 = [some (.ref f), some .non, some .non, z3] := by
    match σ1, len, a0, a1, a2 with
    | [b0, b1, b2, b3], _, a0, a1, a2 =>
      simp at a0 a1 a2
      exact ⟨b3, by rw [a0, a1, a2]⟩
  subst hσ
  refine ⟨rfl, toEx x1 _ _ hc, h H1 (toEx x1) _ _ (fun e cls d H' told g' ok k => ?_) fun v H' g' k => ?_⟩
  · have ec : cls = .ref e.C := ok.1
    subst ec
    refine ⟨true, hm e told, fun _ a na => ?_, fun z => by cases z⟩
    refine ⟨.ref a, rfl, fun na' => ?_⟩
    have gx : Ex H' (upd H' a (ExK (.ref e.C) d a)) := Evl.Ex.new na'
    have fa : ¬ M a := g'.fresh na'
    have ha : hid M (upd H' a (ExK (.ref e.C) d a)) a = some (ExK (.ref e.C) d a) := by rw [hid_no fa, upd_same]
    refine he e told M _ _ (cond (g'.ex gx)) ⟨rfl, fun i en z => ?_⟩ _ ⟨fun _ _ _ _ z => z.elim, fun y n u H'' _ x2 _ r => k u H'' (fun b o w => toEx x2 b o (gx b o w)) r, fun _ _ _ _ z => z.elim, fun _ _ _ _ z => z.elim⟩
    match i, z with
    | 0, z => cases z; exact ⟨_, rfl, rfl⟩
    | 1, z => cases z; exact ⟨_, rfl, a, d, rfl, ha, Er.ok_mono (hid_mono gx) ok⟩
    | 2, z => cases z; exact ⟨_, rfl, rfl⟩
    | 3, z => cases z
    | i + 4, z => simp at z
  · show tr _ _ _
    have en2 : EnvOk (hid M H') [some (.ref f), some .non, some v, z3] [some (.mk rVal (.ref f)), some (.mk rNon ()), some (.mk rVal v), none] := ⟨rfl, fun i en z => by
      match i, z with
      | 0, z => cases z; exact ⟨_, rfl, rfl⟩
      | 1, z => cases z; exact ⟨_, rfl, rfl⟩
      | 2, z => cases z; exact ⟨_, rfl, rfl⟩
      | 3, z => cases z
      | i + 4, z => simp at z⟩
    exact hv v M _ H' (cond g') en2 _ ⟨fun _ _ _ _ z => z.elim, fun y n u H'' e x2 _ r => k u H'' (toEx x2) (by rw [← e]; exact r), fun _ _ _ _ z => z.elim, fun _ _ _ _ z => z.elim⟩
end
/-! ### a name: a text whose signs are signs -/
def rNm : Rl Str := ⟨fun _ v s => v = .str s ∧ (PyData.str s).canLay0 = true, fun _ h => h⟩
theorem w_nm {Z : Type} {m : Md Z} {Γ : Gm} {n : Z} {s : Str} {Post : Str → Z → Prop} (p : Post s n) (h : (PyData.str s).canLay0 = true := by decide +kernel) : EvW m (tC (.str s)) Γ n rNm Post := fun M σ H c e Q k => k _ s n H p .refl c.inv ⟨rfl, h⟩
theorem dat_nm {K : PySem.W.Frag} : DatW K rNm PyData.str 0 := ⟨fun {G v x} r => by
  obtain ⟨rfl, h⟩ := r
  exact ⟨.str x, h⟩, fun _ => Nat.le_refl _⟩
theorem eq_nm : DatE PyData.str (fun a b => decide (a = b)) := ⟨fun a b => by
  show (a == b) = _
  by_cases h : a = b
  · subst h; simp
  · simp [h]⟩
end L2.Lc
end

-- part K04K
section
set_option Elab.async false
set_option linter.all false
set_option maxRecDepth 100000
set_option maxHeartbeats 1000000
namespace K04
open PySem PySem.Spec PyProof.Rows L2 L2.Lc KSimp
open LamX (CodeO)
/-- what is heard of an error that is told here -/
abbrev Told (K : PySem.W.Frag) : Er → Prop := fun e => e = eNothing K
def rTold (K : PySem.W.Frag) : Er → Rl Unit := fun _ => ⟨fun G v _ => (rTup K rNm).r G v [("Nothing" : Str)], fun e h => (rTup K rNm).mono e h⟩
theorem w_told {Z : Type} {m : Md Z} {Γ : Gm} {n : Z} {K : PySem.W.Frag} {ta : TE} {e : Er} (h : EvW m ta Γ n (rTup K rNm) fun l _ => l = [("Nothing" : Str)]) : EvW m ta Γ n (rTold K e) fun _ _ => True := fun M σ H c en Q k =>
  h M σ H c en Q fun v l n1 H1 p e1 i1 r1 => k v () n1 H1 trivial e1 i1 (by have p : l = [("Nothing" : Str)] := p; subst p; exact r1)
section
variable {X : Cx} {C : Addr}
theorem heard {K : PySem.W.Frag} (hK : X.K = K) (T : Tx K X.mg C) {g : Addr} {cdg : Value} {q : Str} {j : Nat} : GivesW X ["ask", "caught", "found", "error"] "_law_heard" (defScope s_law_heard) g cdg (defBody s_law_heard) "ask" q (TTh K (Told K) (rTold K)) j := by
  subst hK
  intro f c' s H Q tl hr act hc h
  refine ⟨_, pss_cons (ps_asg (pe_tup (pa_cons pe_non (pa_cons pe_non pa_nil))) (kgtup (K := X.K) (n := 2) (by rfl) rfl (pgs_cons (pg_name (i := 1) sc_law_heard.nd rfl (by first | exact Or.inl rfl | exact Or.inr rfl)) (pgs_cons (pg_name (i := 2) sc_law_heard.nd rfl (by first | exact Or.inl rfl | exact Or.inr rfl)) pgs_nil))))
    (pss_cons (ps_try_keep (i := 3) (tb := fun W => tAsg (fun σZ HZ Q => σZ[0]? = some (some (.ref f)) ∧ HZ c' = some (CodeO c' q) ∧ tl (WE W σZ) HZ Q) (gName 2)) rfl rfl rfl sc_law_heard.nd rfl rfl ⟨rfl, by decide, .inl T.g_OddsError⟩ LamX.takes0
        (fun W pn xe tk _ => pss_one (ps_set (i := 2) sc_law_heard.nd rfl (by first | exact Or.inl rfl | exact Or.inr rfl) (act W pn xe _ _ tk)))
        (fun a oe cls d pn _ _ => pss_one (ps_set (i := 1) sc_law_heard.nd rfl (by first | exact Or.inl rfl | exact Or.inr rfl) (pv 3))))
      (pss_cons (ps_if (pt_cmpR op_isN (pv 1) pe_non (nomark _)) (pss_one (ps_ret (pe_lst (pa_cons (pv 2) pa_nil)))) pss_nil)
  (pss_cons (ps_if (pt_val (pe_callB (r := rIsET X.K) cr_isET (by rfl) T.f_isinstance boot_isinstance (pa_cons (pv 1) (pa_cons (pe_tup (pa_cons (pe_glob (v := .ref (He.ga X.K "BadText")) rfl T.g_BadText rfl) (pa_cons (pe_glob (v := .ref (He.ga X.K "TooMany")) rfl T.g_TooMany rfl) pa_nil))) pa_nil)))) (pss_one ps_never) pss_nil)
  (pss_cons (ps_if (pt_val (pe_callB (r := rIsET X.K) cr_isET (by rfl) T.f_isinstance boot_isinstance (pa_cons (pv 1) (pa_cons (pe_tup (pa_cons (pe_glob (v := .ref (He.ga X.K "BadAct")) rfl T.g_BadAct rfl) (pa_cons (pe_glob (v := .ref (He.ga X.K "BadCondition")) rfl T.g_BadCondition rfl) (pa_cons (pe_glob (v := .ref (He.ga X.K "BadWalk")) rfl T.g_BadWalk rfl) pa_nil)))) pa_nil)))) (pss_one ps_never) pss_nil)
  (pss_cons (ps_if (pt_val (pe_callB (r := rIsE X.K) cr_isE (by rfl) T.f_isinstance boot_isinstance (pa_cons (pv 1) (pa_cons (pe_glob (v := .ref (He.ga X.K "BadCommand")) rfl T.g_BadCommand rfl) pa_nil)))) (pss_one ps_never) pss_nil)
  (pss_cons (ps_if (pt_val (pe_callB (r := rIsET X.K) cr_isET (by rfl) T.f_isinstance boot_isinstance (pa_cons (pv 1) (pa_cons (pe_tup (pa_cons (pe_glob (v := .ref (He.ga X.K "Nothing")) rfl T.g_Nothing rfl) (pa_cons (pe_glob (v := .ref (He.ga X.K "NoCore")) rfl T.g_NoCore rfl) pa_nil))) pa_nil)))) (pss_one (ps_ret (pe_ifExp (pt_val (pe_callB (r := rIsE X.K) cr_isE (by rfl) T.f_isinstance boot_isinstance (pa_cons (pv 1) (pa_cons (pe_glob (v := .ref (He.ga X.K "Nothing")) rfl T.g_Nothing rfl) pa_nil)))) (pe_tup (pa_cons pe_str pa_nil)) (pe_tup (pa_cons pe_str pa_nil))))) pss_nil)
  (pss_one ps_never))))))), ?_⟩
  refine heard_body (OE := He.ga X.K "OddsError") (Told := Told X.K) (RH := rTold X.K) ?_ (fun v => ?_) (fun e told => ?_) (fun e told => ?_) hc h
  · exact s_asg (is := [1] ++ [2]) (R := rPr X.K rNon rNon) <| w_pr <| w_non <| w_non <| tg_pair <| tg_name <| tg_name ⟨none, rfl⟩
  · exact s_seq <| s_if <| t_test <| w_op0 o_isNN <| w_var rfl <| w_non ⟨fun _ => s_ret <| w_lst (R := rVal) <| a_cons <| w_var rfl <| a_nil ⟨[v], rfl, (by show 1 ≤ bigN; decide), rfl⟩, fun z => (by cases z)⟩
  · subst told
    refine s_seq <| s_if <| t_test <| w_op0 (o_isN nn_err) <| w_var rfl <| w_non ⟨fun z => (by cases z), fun _ => s_next ?_⟩
    refine s_seq <| s_if <| t_test <| w_cb <| a_cons <| w_var rfl <| a_cons (R := rTup X.K rCls) <| w_tup <| a_cons <| w_cls <| a_cons <| w_cls <| a_nil ⟨[_, _], rfl, by show 2 ≤ bigN; decide, a_nil ⟨false, c_isET T.ecN T.kN1, fun z => (by cases z), fun _ => s_next ?_⟩⟩
    refine s_seq <| s_if <| t_test <| w_cb <| a_cons <| w_var rfl <| a_cons (R := rTup X.K rCls) <| w_tup <| a_cons <| w_cls <| a_cons <| w_cls <| a_cons <| w_cls <| a_nil ⟨[_, _, _], rfl, by show 3 ≤ bigN; decide, a_nil ⟨false, c_isET T.ecN T.kN2, fun z => (by cases z), fun _ => s_next ?_⟩⟩
    refine s_seq <| s_if <| t_test <| w_cb <| a_cons <| w_var rfl <| a_cons <| w_at <| a_nil ⟨false, c_isE T.ecN T.kN3, fun z => (by cases z), fun _ => s_next ?_⟩
    refine s_seq <| s_if <| t_test <| w_cb <| a_cons <| w_var rfl <| a_cons (R := rTup X.K rCls) <| w_tup <| a_cons <| w_cls <| a_cons <| w_cls <| a_nil ⟨[_, _], rfl, by show 2 ≤ bigN; decide, a_nil ⟨true, c_isET T.ecN T.kN4, fun _ => ?_, fun z => (by cases z)⟩⟩
    exact s_ret <| w_told <| w_if <| t_test <| w_cb <| a_cons <| w_var rfl <| a_cons <| w_at <| a_nil ⟨true, c_isE T.ecN T.kN5, fun _ => w_tup <| a_cons <| w_nm <| a_nil ⟨[_], rfl, by show 1 ≤ bigN; decide, rfl⟩, fun z => (by cases z)⟩
  · subst told
    exact T.exmN
end
end K04
end

-- part LcEnd
section
set_option Elab.async false
set_option linter.all false
set_option maxRecDepth 100000
set_option maxHeartbeats 400000
/-! # a law's end, for a def that is run where no repr is under way -/
namespace L2.Lc
open PySem PySem.Spec PyProof.Rows L2
section
variable {P : Program} {w : World} {K : PySem.W.Frag} {mg mb : Str → Option Value} {k : Nat} {fa a : Addr} {fd : FuncData} {x : Str} {sp : Sp} {s₁ : Shared} {vs : List Value} {ns : List Int}
/-- what is wanted of the heap in which the script alone may be told -/
structure Alone (P : Program) (w : World) (K : PySem.W.Frag) (s₁ : Shared) (a : Addr) (ns : List Int) (H : Hp) : Prop where
  only : Only H
  scr : SqL K H a (ns.map V.int)
  ok : HOk P w H s₁.heap
  at_ : ∀ b, H b ≠ none → b = a
  own : H a ≠ none → K.lookup a = none
theorem alone_end (KX : K.In s₁.heap) (hns : s₁.heap.Ns mainGlobals mg) (hb : s₁.heap.Ns builtinsNs mb) (hbb : ∀ x : Str, x ≠ "__name__" → mb x = bootBuiltins x) (hlim : s₁.heap.NoLimit) (hg : s₁.gens = #[])
    (ha : s₁.heap.get? a = some { cls := .type "list", data := .seq vs.toArray }) (hr : Room k callerA)
    (F : ∀ base : Heap, K.In base → base.Ns mainGlobals mg → FnG P w K mg base k fa fd [x] sp) (hbind : ∀ (s : Shared) (u : Value), BindsTo s fd ⟨[u], []⟩ [(x, u)])
    {H : Hp} (Al : Alone P w K s₁ a ns H) (hsp : sp [.ref a] H (fun v _ => v = .bl true) fun _ _ _ => False) :
    codeAny (model P w) callerA (.call (.ref fa) ⟨[.ref a], []⟩) (fun r s' => r = .ok (.ret (.bool true)) ∧ OldK s₁.heap s'.heap ∧ s'.os = s₁.os ∧ AllBare s'.gens) s₁ := by
  have lone : ∀ {b : Addr} {o : Obj}, s₁.heap.get? b = some o → (b = a → False) → (hidT s₁.heap H).get? b = some o := by
    intro b o e no
    refine hidT_get e ?_
    cases q : H b with
    | none => rfl
    | some u => exact (no (Al.at_ b (by rw [q]; exact fun z => by cases z))).elim
  have dicts : ∀ {b : Addr} {m : Str → Option Value}, s₁.heap.Ns b m → (hidT s₁.heap H).Ns b m := by
    rintro b m ⟨o, es, ep, e, d, r⟩
    refine ⟨o, es, ep, lone e fun z => ?_, d, r⟩
    rw [z, ha] at e
    rw [← Option.some.inj e] at d
    cases d
  have inB : K.In (hidT s₁.heap H) := by
    intro b o e
    refine hidT_get (KX b o e) ?_
    cases q : H b with
    | none => rfl
    | some u =>
      have e' : b = a := Al.at_ b (by rw [q]; exact fun z => by cases z)
      rw [e'] at q e
      rw [Al.own (by rw [q]; exact fun z => by cases z)] at e
      cases e
  obtain ⟨mc, c1, c2⟩ := hlim
  have md : Mod K mg (hidT s₁.heap H) := ⟨inB, dicts hns, ⟨mb, dicts hb, hbb⟩, mc, dicts c1, c2⟩
  have start : Env0 P w K mg (hidT s₁.heap H) callerA [] s₁ H := ⟨rfl, md, (fun b o e => of_hidT e), Nat.le_of_eq (hidT_size _ _), trivial, (fun b hb => by cases hb), Al.ok, .of_eq hg⟩
  refine codeAny_mono ((F _ inB (dicts hns)).go (args := ⟨[.ref a], []⟩) (us := [.ref a]) (vs := [V.ref a]) hr rfl start (hbind s₁ (.ref a)) (.cons rfl .nil) hsp) fun out s' z => ?_
  rcases out with e | (_ | _ | _ | u)
  all_goals first
    | exact z.elim
    | skip
  obtain ⟨v, H', os, bare, un, hok', rel, rfl⟩ := z
  obtain rfl : u = Value.bool true := rel
  refine ⟨rfl, OldK.of_keep fun b o e => ?_, os, bare⟩
  cases q : H b with
  | none => exact un.keep b o e q (fun z => by cases z) (fun z => by cases z)
  | some u =>
    rcases Al.only b with z | ⟨ob, xs, z⟩
    · rw [q] at z; cases z
    · obtain ⟨e1, _⟩ := Al.ok b _ z
      obtain ⟨e2, _⟩ := hok' b _ (un.frzs b ob _ z)
      rw [e] at e1
      cases e1
      exact e2
theorem law_end (KX : K.In s₁.heap) (hns : s₁.heap.Ns mainGlobals mg) (hb : s₁.heap.Ns builtinsNs mb) (hbb : ∀ x : Str, x ≠ "__name__" → mb x = bootBuiltins x) (hlim : s₁.heap.NoLimit) (hg : s₁.gens = #[])
    (ha : s₁.heap.get? a = some { cls := .type "list", data := .seq vs.toArray }) (hi : IntsAre vs ns) (hl : ns.length ≤ sizeLine) (hr : Room k callerA)
    (F : ∀ base : Heap, K.In base → base.Ns mainGlobals mg → FnG P w K mg base k fa fd [x] sp) (hbind : ∀ (s : Shared) (u : Value), BindsTo s fd ⟨[u], []⟩ [(x, u)])
    (hsp : ∀ H : Hp, Only H → SqL K H a (ns.map V.int) → sp [.ref a] H (fun v _ => v = .bl true) fun _ _ _ => False) :
    codeAny (model P w) callerA (.call (.ref fa) ⟨[.ref a], []⟩) (fun r s' => r = .ok (.ret (.bool true)) ∧ OldK s₁.heap s'.heap ∧ s'.os = s₁.os ∧ AllBare s'.gens) s₁ := by
  have rv := vals_ints hi
  have fin : ∀ {H : Hp}, Alone P w K s₁ a ns H → _ := fun {H} Al => alone_end KX hns hb hbb hlim hg ha hr F hbind Al (hsp H Al.only Al.scr)
  cases hk : K.lookup a with
  | some o =>
    have e := KX a o hk
    rw [ha] at e
    cases e
    exact fin (H := fun _ => none) ⟨fun _ => .inl rfl, .inr ⟨_, vs.toArray, _, hk, rfl, rfl, rfl, by rw [List.size_toArray, hi.length]; exact hl, by simpa using rv⟩, (fun b u z => by cases z), fun b z => absurd rfl z, fun z => absurd rfl z⟩
  | none =>
    let scr : HO := .frz { cls := .type "list", data := .seq vs.toArray } (.lst (ns.map V.int))
    have yes : ∀ {b : Addr} {u : HO}, (if b = a then some scr else none) = some u → b = a ∧ u = scr := by
      intro b u z
      by_cases e : b = a
      · rw [if_pos e] at z; exact ⟨e, (Option.some.inj z).symm⟩
      · rw [if_neg e] at z; cases z
    refine fin (H := fun b => if b = a then some scr else none) ⟨fun b => ?_, .inl (.inr ⟨_, if_pos rfl⟩), fun b u z => ?_, fun b z => ?_, fun _ => hk⟩
    · by_cases e : b = a
      · exact .inr ⟨_, _, if_pos e⟩
      · exact .inl (if_neg e)
    · obtain ⟨rfl, rfl⟩ := yes z
      exact ⟨ha, by rw [List.length_map]; exact hl, vs, _, rv, ha⟩
    · cases q : (if b = a then some scr else none : Option HO) with
      | none => exact absurd q z
      | some u => exact (yes q).1
end
theorem walkG {l : PySem.W.OpenLaw} {n k : Nat} {q : Program} {loose : List Str} {XP : (Str → Option Value) → Heap → Prop} {YP : World → Heap → Prop} {d : DefRec} {x : Str}
    (hn : l.most = some n) (hn2 : n ≤ sizeLine) (hdf : d.params.defaults = []) (hr : Room k callerA)
    (F : ∀ (w : World) (mg : Str → Option Value) (fa : Addr) (h : Heap), YP w h → h.Ns mainGlobals mg → mg d.name = some (.ref fa) →
      ∃ (K : PySem.W.Frag) (fd : FuncData) (sp : Sp), K.In h ∧ (∀ (s : Shared) (u : Value), BindsTo s fd ⟨[u], []⟩ [(x, u)]) ∧
        (∀ (H : Hp) (a : Addr) (ns : List Int), ns.length ≤ n → Only H → SqL K H a (ns.map V.int) → sp [.ref a] H (fun v _ => v = .bl true) fun _ _ _ => False) ∧
        ∀ base : Heap, K.In base → base.Ns mainGlobals mg → FnG l.prog w K mg base k fa fd [x] sp) :
    PySem.W.WalkO q loose XP YP l.row.toRowW d [] (fun f vs => PySem.call f vs) := by
  refine Att.attach_call hn hdf fun w s₀ s₁ mg mb fa o pm cd doc a vs ns G Y ho hd hcd hmg hobj hints hlen hg => ?_
  obtain ⟨K, fd, sp, KX, hb, hsp, hF⟩ := F w mg fa _ Y G.T.g hmg
  exact law_end KX G.T.g G.T.b G.T.builtins G.T.nolimit hg hobj hints (Nat.le_trans hlen hn2) hr hF hb fun H hO hS => hsp H a ns hlen hO hS
end L2.Lc
end

-- part LcTab
section
set_option Elab.async false
set_option linter.all false
set_option maxRecDepth 100000
set_option maxHeartbeats 400000
/-! # LcTab: a law with lambdas: its pen, its def, its end -/
namespace L2.Lc
open PySem PySem.Spec PyProof.Rows L2
open Evl (Ex ex_l ex_t)
open LamX (Tabs TabS TabB CodeO lamEnv lamCx)
/-! ### heard -/
section
variable {X : Cx}
theorem pe_heardL {T : List (Addr × Str)} {TT : (XK → Hp → VK → Prop) → Hp → VK → Prop} {x a : Str} {st : Stmt} {c P : Addr} {k : Nat} {Ng : List Str} {params : Arguments} {body : Expr} {scope : Scope} {D : List Value → Prop} {ps : List Str} {t : XK → TE} {p lpos pos : Pos}
    (F : FG X.K X.mg x st) (hb : BindN x x st [a]) (Sg : FnScope Ng [a] (defScope st)) (hG : ∀ (g : Addr) (cdg : Value), GivesW X Ng x (defScope st) g cdg (defBody st) a (X.env.qual ++ "<lambda>") TT (k + 1))
    (TB : TabB X.base X.mg c P) (hcode : X.env.code = .ref c) (hmT : (P, X.env.qual ++ "<lambda>") ∈ T) (hu : ∀ p ∈ T, p.1 = P → p.2 = X.env.qual ++ "<lambda>") (hr : Room (k + 2) X.A) (L : LamN X.N X.env.scope scope ps)
    (hk0 : params.kw_defaults = []) (hdef : DefOk X params D) (hB : LamB params body scope D ps)
    (hbody : ∀ (A : Around) (outer : List Env) (s : Shared) (H : Hp) (E : XK) (f c' : Addr), Room k (A.deeper (lamEnv X scope s.heap.objs.size f c')) → PE (lamCx X A outer s H E scope f c') body (t E))
    (hg : Gl X x := by rfl) (hNg : Ng[0]? = some a := by rfl) (hva : Vis (defScope st) a := by exact .inl rfl)
    (hdb : (x == ("__debug__" : Str)) = false := by decide) (hd : (a == ("__debug__" : Str)) = false := by decide) (hcd : (a == ("__classdict__" : Str)) = false := by decide) :
    PE X (.Call (.Name x p) [.Lambda params body scope lpos] [] pos) (tLamT T TT t) := by
  obtain ⟨f, fd, F, gm⟩ := F.ex
  have kp := F.kp
  have bd := F.bindsN hb
  obtain ⟨oc, od, dV, kV, doc, pm, an, cdv, ct, osl, rfl, found, hcode', _, _⟩ := F.ex
  exact pe_lamD hg gm kp found hcode' bd Sg hNg hva (hG f cdv) TB hcode hmT hu hr L hk0 hdef hB hbody hdb hd hcd
end
section
variable {β : Type} {Γ : Gm} {S : Rl β} {K : PySem.W.Frag}
theorem s_penStartT {i b : Nat} {l : List Int} {E0' : XK} {rest : TS} {D : Dn Unit β} {T : List (Addr × Str)} (hb : Γ[b]? = some (some (.mk (rSql K rInt) l)))
    (h : ∀ I : PenI, I.cells = l.take 63 → StW (mT T (mPen I)) rest (Γ.set i (some (.mk (rPen K I) ()))) (0, 0) S { nx := fun _ _ => False, rt := fun y _ => D.rt y () }) :
    StW (mT T pm) (tSeq (tAsg (tCall (spPen K) [] E0' (tCons (tVar b) tNil)) (gName i)) rest) Γ () S D := fun M σ H c e E k => by
  obtain ⟨v, g1, g2⟩ := e.2 b _ hb
  obtain ⟨sa, vs, rfl, hs, hA, hl⟩ := g2
  have hv := Al.ints hA
  subst hv
  refine ⟨_, g1, ?_⟩
  show spPen K ([V.ref sa] ++ []) H _ E0'
  obtain ⟨N, gN, hsN, out⟩ : ∃ N : Addr → Prop, Good N H ∧ SqL K (hid N H) sa (l.map V.int) ∧ ∀ a, ¬ N a → H a = none ∨ (∃ xs, H a = some (.tup xs)) ∨ (¬ M a ∧ (H a = some (.lst (l.map V.int)) ∨ ∃ od, H a = some (.frz od (.lst (l.map V.int))))) := by
    have split : ∀ {a : Addr}, (¬ ∃ o, H a = some o ∧ NoT o) → H a = none ∨ ∃ xs, H a = some (.tup xs) := fun {a} na => by
      cases q : H a with
      | none => exact .inl rfl
      | some o =>
        right
        by_cases z : ∃ xs, o = .tup xs
        · obtain ⟨xs, rfl⟩ := z
          exact ⟨xs, rfl⟩
        · exact absurd ⟨o, q, fun xs e => z ⟨xs, e⟩⟩ na
    have dyn : ∀ o, hid M H sa = some o → (o = .lst (l.map V.int) ∨ ∃ od, o = .frz od (.lst (l.map V.int))) → ∃ N : Addr → Prop, Good N H ∧ hid N H sa = some o ∧ ∀ a, ¬ N a → H a = none ∨ (∃ xs, H a = some (.tup xs)) ∨ (¬ M a ∧ (H a = some (.lst (l.map V.int)) ∨ ∃ od, H a = some (.frz od (.lst (l.map V.int))))) := fun o q ho => by
      obtain ⟨nm, q⟩ := hid_some q
      refine ⟨fun a => (∃ o, H a = some o ∧ NoT o) ∧ a ≠ sa, fun a z => z.1, by rw [hid_no fun z => z.2 rfl]; exact q, fun a na => ?_⟩
      by_cases e : a = sa
      · subst e
        refine .inr (.inr ⟨nm, ?_⟩)
        rcases ho with rfl | ⟨od, rfl⟩
        · exact .inl q
        · exact .inr ⟨od, q⟩
      · exact (split fun z => na ⟨z, e⟩).elim .inl fun z => .inr (.inl z)
    rcases hs with (q | ⟨od, q⟩) | q
    · obtain ⟨N, n1, n2, n3⟩ := dyn _ q (.inl rfl)
      exact ⟨N, n1, .inl (.inl n2), n3⟩
    · obtain ⟨N, n1, n2, n3⟩ := dyn _ q (.inr ⟨od, rfl⟩)
      exact ⟨N, n1, .inl (.inr ⟨od, n2⟩), n3⟩
    · exact ⟨fun a => ∃ o, H a = some o ∧ NoT o, fun a z => z, .inr q, fun a na => (split na).elim .inl fun z => .inr (.inl z)⟩
  refine ⟨N, l, gN, ⟨⟨sa, _, rfl, hsN, hA.mono fun _ _ q => q, hl⟩, trivial⟩, trivial, fun v y H' po ex r => ?_⟩
  obtain rfl : y = l.take 63 := po
  obtain ⟨pa, ca, rfl, h2, h3, h4⟩ := r
  obtain ⟨np, h2⟩ := hid_some h2
  obtain ⟨nc, h3⟩ := hid_some h3
  have nInt : ∀ m : List Int, (HO.lst [V.ref ca, .int 0, .int 0] : HO) ≠ .lst (m.map V.int) := fun m z => by
    have z := HO.lst.inj z
    cases m with
    | nil => cases z
    | cons i m => cases (List.cons.inj z).1
  have free : H pa = none := by
    rcases out pa np with z | ⟨xs, z⟩ | ⟨_, z | ⟨od, z⟩⟩
    · exact z
    · have := ex _ _ z
      rw [h2] at this; cases this
    · have := ex _ _ z
      rw [h2] at this
      exact absurd (Option.some.inj this) (nInt l)
    · have := ex _ _ z
      rw [h2] at this; cases this
  have nMp : ¬ M pa := c.good.fresh free
  have nMc : ¬ M ca := by
    rcases out ca nc with z | ⟨xs, z⟩ | ⟨z, _⟩
    · exact c.good.fresh z
    · exact c.good.tup z
    · exact z
  have hne : pa ≠ ca := fun z => by
    rw [← z, h2] at h3
    exact nInt _ (Option.some.inj h3)
  have key := h ⟨pa, ca, l.take 63⟩ rfl
  refine key (fun a => M a ∨ a = pa) _ _ ⟨fun a ma => ?_, fun a z => z.elim (fun z => .inr z) fun z => .inl (c.mm a (.inr z)), ⟨⟨h2, h3, hne⟩, tabs_ex c.inv.2 ex⟩, fun _ _ _ _ _ z => z.elim⟩ ?_ E ⟨fun _ _ _ _ z => z.elim, ?_, fun _ _ _ _ z => z.elim, fun _ _ _ _ z => z.elim⟩
  · rcases ma with ma | rfl
    · obtain ⟨o, q1, q2⟩ := c.good a ma
      exact ⟨o, ex a o q1, q2⟩
    · exact ⟨_, h2, fun _ z => by cases z⟩
  · refine (e.mono fun a o q => ?_).set (e := .mk (rPen K ⟨pa, ca, l.take 63⟩) ()) ⟨rfl, ?_, h4⟩
    · obtain ⟨na, q⟩ := hid_some q
      rw [hid_no fun z => z.elim na fun z => by rw [z, free] at q; cases q]
      exact ex a o q
    · show hid _ _ ca = some (.lst ((l.take 63).map V.int))
      rw [hid_no fun z => z.elim nMc fun z => hne z.symm]
      exact h3
  · intro y n' v H2 p e1 i1 r1
    refine k.rt y () v H2 p (fun a o na q => e1 a o (fun z => z.elim (fun z => by rw [show a = pa from z, free] at q; cases q) fun z => na (.inr z)) (ex a o q)) ⟨trivial, i1.2⟩ ?_
    exact S.mono (fun a o q => by
      obtain ⟨na, q⟩ := hid_some q
      rw [hid_no fun z => na (.inl z)]; exact q) r1
end
/-! ### the law's def -/
abbrev spT (K : PySem.W.Frag) (T : List (Addr × Str)) : Sp := fun vs H Q _ => ∃ (M : Addr → Prop) (l : List Int), Cond (mT T pm) M H () ∧ ArgsOk (hid M H) vs [.mk (rSql K rInt) l] ∧ ∀ H', Q (.bl true) H'
section
variable {P : Program} {w : World} {K : PySem.W.Frag} {mg : Str → Option Value} {base : Heap} {k : Nat} {x qual : Str} {params : Arguments} {body : List Stmt} {scope : Scope} {f : Addr} {fd : FuncData} {N : List Str} {a : Str}
/-- what is known of the def's code object -/
def CdOf (K : PySem.W.Frag) (f : Addr) (cdv : Value) (q : Str) : Prop := (∃ oc od fd osl, K.lookup f = some ⟨oc, od, .func fd, osl⟩ ∧ fd.code = cdv) ∧ PySem.W.codeIn K cdv q = true
variable {dvs : List V} {kws : List (Str × V)} {ps : List Str} {sp : Sp}
theorem FnG.ofC (F : FunD K x qual params body scope dvs kws f fd) (S : FnScope N ps scope) (len : ∀ {vs H Q E}, sp vs H Q E → vs.length = ps.length)
    (hb : ∀ (cdv : Value), CdOf K f cdv qual → ∀ (A : Around) (outer : List Env) (s : Shared) (H : Hp) (vs : List V) (Q : VK) (E : XK), Room k (A.deeper (envOfC qual scope s.heap.objs.size f cdv)) → A.guards = some [] → sp vs H Q E →
      ∃ t, PSs (cxOf CX0 P w K mg base N qual scope f cdv A outer s H E) body t ∧ t { nx := fun _ H' => Q .non H', rt := Q } (start N vs) H) : FnG P w K mg base (k + 1) f fd ps sp := by
  obtain ⟨oc, od, dV, kV, doc, pm, an, cdv, ct, osl, rfl, found, hcode, _, _⟩ := F.ex
  refine ⟨len, fun {A outer s H args us vs Q E} room hg e0 bind rel want => ?_⟩
  have keep0 : ∀ b o, base.get? b = some o → s.heap.get? b = some o := fun b o e => (e0.bs b o e).1
  have inK : K.In s.heap := e0.mod.kin.keeps keep0
  have kinds : ∀ y ∈ ps.zip us, scope.names.lookup y.1 = some .local ∨ (scope.names.lookup y.1 = some .cell ∧ ((cellsFrom (s.heap.objs.size + 1) scope.names []).lookup y.1).isSome = true) := by
    intro y hy
    refine (S.par y.1 (List.of_mem_zip (a := y.1) (b := y.2) hy).1).elim .inl fun q => .inr ⟨q, ?_⟩
    exact PySem.W.cellsFrom_some _ _ _ (.inl q)
  refine codeAny_call_function room.depth (inK _ _ found) rfl S.co S.gen rfl (PySem.W.codeRec_of inK hcode) (bind _ _ _ _ (wpAny_newFunctionEnv_cells S.kind kinds ?_))
  rintro env rfl s1 inCall
  refine ⟨(e0.mod.nolimit.keeps keep0).keeps inCall.toInCall.keep, codeAny_func ?_⟩
  obtain ⟨t, run, ok⟩ := hb cdv ⟨⟨_, _, _, _, found, rfl⟩, hcode⟩ A outer s H vs Q E (room.deeper _) hg want
  have J0 : Inv (cxOf CX0 P w K mg base N qual scope f cdv A outer s H E) [] (start N vs) H s1 := inv_start S room.hd e0 (len want) rel inCall
  refine wpAny_mono (run.run [] s1 (start N vs) H _ J0 ok) (fun out s' done => ?_) (fun _ _ z => z)
  rcases out with _ | _ | _ | u
  all_goals first
    | (obtain ⟨σ', H', J, q⟩ := done
       exact ⟨V.non, H', J.os, J.bare, J.base, J.hok, rfl, q⟩)
    | (obtain ⟨v, σ', H', J, rv, q⟩ := done
       exact ⟨v, H', J.os, J.bare, J.base, J.hok, rv, q⟩)
    | (obtain ⟨_, _, _, q⟩ := done
       exact q.elim)
theorem fnTG {T : List (Addr × Str)} (F : FunD K x qual params body scope [] [] f fd) (S : FnScope N [a] scope)
    (hd : ∀ (cdv : Value) (B : Around) (outer : List Env) (s : Shared) (H : Hp) (E : XK), CdOf K f cdv qual → Room k (B.deeper (envOfC qual scope s.heap.objs.size f cdv)) → B.guards = some [] →
      ∃ t, PSs (cxOf CX0 P w K mg base N qual scope f cdv B outer s H E).nox body t ∧
      ∀ l, StW (mT T pm) t ([some (.mk (rSql K rInt) l)] ++ List.replicate (N.length - 1) none) () rBl { nx := fun _ _ => False, rt := fun y _ => y = true }) : FnG P w K mg base (k + 1) f fd [a] (spT K T) := by
  refine FnG.ofC F S (fun {vs H Q E} ⟨M, l, _, ao, _⟩ => ao.len) fun cdv hc A' outer s H vs Q E hr hg ⟨M, l, c, ao, q⟩ => ?_
  obtain ⟨t, d, h⟩ := hd cdv A' outer s H E hc hr hg
  refine ⟨t, d.nox, ?_⟩
  have hl : vs.length = 1 := ao.len
  unfold start
  rw [hl]
  exact h l M _ H c (start_ok ao _) _ ⟨fun _ _ _ _ z => z.elim, fun y n v H' po _ _ r => by
    have r : v = .bl y := r
    rw [r, po]
    exact q H', fun _ _ _ _ z => z.elim, fun _ _ _ _ z => z.elim⟩
end
/-! ### the end -/
section
variable {Pg : Program} {w : World} {K : PySem.W.Frag} {mg mb : Str → Option Value} {k : Nat} {fa a c P : Addr} {fd : FuncData} {x : Str} {sp : Sp} {s₁ : Shared} {vs : List Value} {ns : List Int}
abbrev emptyTb : Obj := { cls := .none, data := .fields #[] }
structure AloneT (Pg : Program) (w : World) (K : PySem.W.Frag) (s₁ : Shared) (a P : Addr) (ns : List Int) (H : Hp) : Prop where
  only : ∀ b, H b = none ∨ b = P ∨ ∃ o xs, H b = some (.frz o (.lst xs))
  tab : H P = some (.tbl #[])
  scr : SqL K H a (ns.map V.int)
  ok : HOk Pg w H s₁.heap
  at_ : ∀ b, H b ≠ none → b = a ∨ b = P
  own : H a ≠ none → K.lookup a = none
theorem alone_endT (KX : K.In s₁.heap) (hns : s₁.heap.Ns mainGlobals mg) (hb : s₁.heap.Ns builtinsNs mb) (hbb : ∀ x : Str, x ≠ "__name__" → mb x = bootBuiltins x) (hlim : s₁.heap.NoLimit) (hg : s₁.gens = #[])
    (eT : s₁.heap.get? P = some emptyTb) (nT : K.lookup P = none) (hC : PySem.W.CodeHd s₁.heap c P) (hbm : ∃ (bm : Addr) (ob : Obj), mg "__builtins__" = some (.ref bm) ∧ bm ≠ builtinsNs ∧ s₁.heap.get? bm = some ob ∧ ob.cls = .type "module" ∧ ob.dict = some builtinsNs ∧ ob.data = .plain)
    (ha : s₁.heap.get? a = some { cls := .type "list", data := .seq vs.toArray }) (hr : Room k callerA)
    (F : ∀ base : Heap, K.In base → base.Ns mainGlobals mg → TabB base mg c P → FnG Pg w K mg base k fa fd [x] sp) (hbind : ∀ (s : Shared) (u : Value), BindsTo s fd ⟨[u], []⟩ [(x, u)])
    {H : Hp} (Al : AloneT Pg w K s₁ a P ns H) (hsp : sp [.ref a] H (fun v _ => v = .bl true) fun _ _ _ => False) :
    codeAny (model Pg w) callerA (.call (.ref fa) ⟨[.ref a], []⟩) (fun r s' => r = .ok (.ret (.bool true)) ∧ OldK s₁.heap s'.heap ∧ s'.os = s₁.os ∧ AllBare s'.gens) s₁ := by
  have free : ∀ {b : Addr} {o : Obj}, s₁.heap.get? b = some o → (∀ vs n, o.data ≠ .seq vs n) → o.data ≠ .fields #[] → H b = none := by
    intro b o e n1 n2
    cases q : H b with
    | none => rfl
    | some u =>
      rcases Al.at_ b (by rw [q]; exact fun z => by cases z) with rfl | rfl
      · rw [ha] at e
        cases e
        exact (n1 _ _ rfl).elim
      · rw [eT] at e
        cases e
        exact (n2 rfl).elim
  have lone : ∀ {b : Addr} {o : Obj}, s₁.heap.get? b = some o → (∀ vs n, o.data ≠ .seq vs n) → o.data ≠ .fields #[] → (hidT s₁.heap H).get? b = some o := fun e n1 n2 => hidT_get e (free e n1 n2)
  have dicts : ∀ {b : Addr} {m : Str → Option Value}, s₁.heap.Ns b m → (hidT s₁.heap H).Ns b m := by
    rintro b m ⟨o, es, ep, e, d, r⟩
    exact ⟨o, es, ep, lone e (fun vs n z => by rw [d] at z; cases z) (fun z => by rw [d] at z; cases z), d, r⟩
  have inB : K.In (hidT s₁.heap H) := by
    intro b o e
    refine hidT_get (KX b o e) ?_
    cases q : H b with
    | none => rfl
    | some u =>
      rcases Al.at_ b (by rw [q]; exact fun z => by cases z) with rfl | rfl
      · rw [Al.own (by rw [q]; exact fun z => by cases z)] at e
        cases e
      · rw [nT] at e
        cases e
  obtain ⟨mc, c1, c2⟩ := hlim
  have md : Mod K mg (hidT s₁.heap H) := ⟨inB, dicts hns, ⟨mb, dicts hb, hbb⟩, mc, dicts c1, c2⟩
  have TB : TabB (hidT s₁.heap H) mg c P := by
    refine ⟨?_, ?_, fun z => ?_⟩
    · obtain ⟨o, us, file, tf, flags, tg, inF, text, tt, e1, r1, r2, r3, rest⟩ := hC
      refine ⟨o, us, file, tf, flags, tg, inF, text, tt, lone e1 (fun vs n z => by rw [r2] at z; cases z) (fun z => ?_), r1, r2, r3, rest⟩
      rw [r2] at z
      cases z
      simp at r3
    · obtain ⟨bm, ob, b1, b2, b3, b4, b5, b6⟩ := hbm
      refine ⟨bm, ob, b1, b2, fun q => ?_, fun q => ?_, lone b3 (fun vs n z => by rw [b6] at z; cases z) (fun z => by rw [b6] at z; cases z), b4, b5, b6⟩
      · obtain ⟨o, es, ep, e, hd, _⟩ := hns
        rw [q, e] at b3
        cases b3
        rw [hd] at b6
        cases b6
      · rw [q, eT] at b3
        cases b3
        cases b6
    · obtain ⟨o, es, ep, e, hd, _⟩ := hns
      rw [z, eT] at e
      cases e
      cases hd
  have start : Env0 Pg w K mg (hidT s₁.heap H) callerA [] s₁ H := ⟨rfl, md, (fun b o e => of_hidT e), Nat.le_of_eq (hidT_size _ _), trivial, (fun b hb => by cases hb), Al.ok, .of_eq hg⟩
  refine codeAny_mono ((F _ inB (dicts hns) TB).go (args := ⟨[.ref a], []⟩) (us := [.ref a]) (vs := [V.ref a]) hr rfl start (hbind s₁ (.ref a)) (.cons rfl .nil) hsp) fun out s' z => ?_
  rcases out with e | (_ | _ | _ | u)
  all_goals first
    | exact z.elim
    | skip
  obtain ⟨v, H', os, bare, un, hok', rel, rfl⟩ := z
  obtain rfl : u = Value.bool true := rel
  have key : ∀ {b : Addr} {o : Obj}, b ≠ P → s₁.heap.get? b = some o → s'.heap.get? b = some o := by
    intro b o nb e
    cases q : H b with
    | none => exact un.keep b o e q (fun z => by cases z) (fun z => by cases z)
    | some u =>
      rcases Al.only b with z | z | ⟨ob, xs, z⟩
      · rw [q] at z; cases z
      · exact (nb z).elim
      · obtain ⟨e1, _⟩ := Al.ok b _ z
        obtain ⟨e2, _⟩ := hok' b _ (un.frzs b ob _ z)
        rw [e] at e1
        cases e1
        exact e2
  obtain ⟨more, zt⟩ := un.tbls P #[] Al.tab
  have grown : s'.heap.get? P = some { cls := .none, data := .fields more } := by
    have := hok' P _ zt
    rwa [Array.empty_append] at this
  refine ⟨rfl, ⟨fun b o e => ?_, fun b o e => ?_⟩, os, bare⟩
  · by_cases hb : b = P
    · subst hb
      rw [eT] at e
      cases e
      exact .inr (.inl ⟨(hC.tab eT).isCodeTable, rfl, #[], more, rfl, by rw [Array.empty_append]; exact grown⟩)
    · exact .inl (key hb e)
  · by_cases hb : b = P
    · subst hb
      exact ⟨_, grown⟩
    · exact ⟨o, key hb e⟩
theorem law_endT (KX : K.In s₁.heap) (hns : s₁.heap.Ns mainGlobals mg) (hb : s₁.heap.Ns builtinsNs mb) (hbb : ∀ x : Str, x ≠ "__name__" → mb x = bootBuiltins x) (hlim : s₁.heap.NoLimit) (hg : s₁.gens = #[])
    (eT : s₁.heap.get? P = some emptyTb) (nT : K.lookup P = none) (hC : PySem.W.CodeHd s₁.heap c P) (hbm : ∃ (bm : Addr) (ob : Obj), mg "__builtins__" = some (.ref bm) ∧ bm ≠ builtinsNs ∧ s₁.heap.get? bm = some ob ∧ ob.cls = .type "module" ∧ ob.dict = some builtinsNs ∧ ob.data = .plain)
    (ha : s₁.heap.get? a = some { cls := .type "list", data := .seq vs.toArray }) (hi : IntsAre vs ns) (hl : ns.length ≤ sizeLine) (hr : Room k callerA)
    (F : ∀ base : Heap, K.In base → base.Ns mainGlobals mg → TabB base mg c P → FnG Pg w K mg base k fa fd [x] sp) (hbind : ∀ (s : Shared) (u : Value), BindsTo s fd ⟨[u], []⟩ [(x, u)])
    (hsp : ∀ H : Hp, H P = some (.tbl #[]) → a ≠ P → SqL K H a (ns.map V.int) → sp [.ref a] H (fun v _ => v = .bl true) fun _ _ _ => False) :
    codeAny (model Pg w) callerA (.call (.ref fa) ⟨[.ref a], []⟩) (fun r s' => r = .ok (.ret (.bool true)) ∧ OldK s₁.heap s'.heap ∧ s'.os = s₁.os ∧ AllBare s'.gens) s₁ := by
  have rv := vals_ints hi
  have naP : a ≠ P := fun z => by
    rw [z, eT] at ha
    cases ha
  have fin : ∀ {H : Hp}, AloneT Pg w K s₁ a P ns H → _ := fun {H} Al => alone_endT KX hns hb hbb hlim hg eT nT hC hbm ha hr F hbind Al (hsp H Al.tab naP Al.scr)
  cases hk : K.lookup a with
  | some o =>
    have e := KX a o hk
    rw [ha] at e
    cases e
    have yes : ∀ {b : Addr} {u : HO}, (if b = P then some (HO.tbl #[]) else none) = some u → b = P ∧ u = .tbl #[] := by
      intro b u z
      by_cases e : b = P
      · rw [if_pos e] at z; exact ⟨e, (Option.some.inj z).symm⟩
      · rw [if_neg e] at z; cases z
    refine fin (H := fun b => if b = P then some (.tbl #[]) else none) ⟨fun b => ?_, if_pos rfl, .inr ⟨_, vs.toArray, _, hk, rfl, rfl, rfl, by rw [List.size_toArray, hi.length]; exact hl, by simpa using rv⟩, fun b u z => ?_, fun b z => ?_, fun z => absurd (if_neg naP) z⟩
    · by_cases e : b = P
      · exact .inr (.inl e)
      · exact .inl (if_neg e)
    · obtain ⟨rfl, rfl⟩ := yes z
      exact eT
    · cases q : (if b = P then some (HO.tbl #[]) else none : Option HO) with
      | none => exact absurd q z
      | some u => exact .inr (yes q).1
  | none =>
    let scr : HO := .frz { cls := .type "list", data := .seq vs.toArray } (.lst (ns.map V.int))
    have yes : ∀ {b : Addr} {u : HO}, (if b = a then some scr else if b = P then some (HO.tbl #[]) else none) = some u → (b = a ∧ u = scr) ∨ (b = P ∧ u = .tbl #[]) := by
      intro b u z
      by_cases e : b = a
      · rw [if_pos e] at z; exact .inl ⟨e, (Option.some.inj z).symm⟩
      · rw [if_neg e] at z
        by_cases e2 : b = P
        · rw [if_pos e2] at z; exact .inr ⟨e2, (Option.some.inj z).symm⟩
        · rw [if_neg e2] at z; cases z
    refine fin (H := fun b => if b = a then some scr else if b = P then some (.tbl #[]) else none) ⟨fun b => ?_, by show (if P = a then _ else _) = _; rw [if_neg (Ne.symm naP), if_pos rfl], .inl (.inr ⟨_, if_pos rfl⟩), fun b u z => ?_, fun b z => ?_, fun _ => hk⟩
    · by_cases e : b = a
      · exact .inr (.inr ⟨_, _, if_pos e⟩)
      · by_cases e2 : b = P
        · exact .inr (.inl e2)
        · exact .inl ((if_neg e).trans (if_neg e2))
    · rcases yes z with ⟨rfl, rfl⟩ | ⟨rfl, rfl⟩
      · exact ⟨ha, by rw [List.length_map]; exact hl, vs, _, rv, ha⟩
      · exact eT
    · cases q : (if b = a then some scr else if b = P then some (HO.tbl #[]) else none : Option HO) with
      | none => exact absurd q z
      | some u => exact (yes q).imp (·.1) (·.1)
end
theorem walkGT {l : PySem.W.OpenLaw} {n k : Nat} {q : Program} {loose : List Str} {XP : (Str → Option Value) → Heap → Prop} {YP : World → Heap → Prop} {d : DefRec} {x : Str}
    (hn : l.most = some n) (hn2 : n ≤ sizeLine) (hdf : d.params.defaults = []) (hr : Room k callerA)
    (F : ∀ (w : World) (mg : Str → Option Value) (fa : Addr) (h : Heap), YP w h → h.Ns mainGlobals mg → mg d.name = some (.ref fa) →
      ∃ (K : PySem.W.Frag) (fd : FuncData) (sp : Sp) (c P : Addr), K.In h ∧ h.get? P = some emptyTb ∧ K.lookup P = none ∧ PySem.W.CodeHd h c P ∧ (∀ (s : Shared) (u : Value), BindsTo s fd ⟨[u], []⟩ [(x, u)]) ∧
        (∀ (H : Hp) (a : Addr) (ns : List Int), ns.length ≤ n → H P = some (.tbl #[]) → a ≠ P → SqL K H a (ns.map V.int) → sp [.ref a] H (fun v _ => v = .bl true) fun _ _ _ => False) ∧
        ∀ base : Heap, K.In base → base.Ns mainGlobals mg → TabB base mg c P → FnG l.prog w K mg base k fa fd [x] sp) :
    PySem.W.WalkO q loose XP YP l.row.toRowW d [] (fun f vs => PySem.call f vs) := by
  refine Att.attach_call hn hdf fun w s₀ s₁ mg mb fa o pm cd doc a vs ns G Y ho hd hcd hmg hobj hints hlen hg => ?_
  obtain ⟨K, fd, sp, c, P, KX, eT, nT, hC, hb, hsp, hF⟩ := F w mg fa _ Y G.T.g hmg
  exact law_endT KX G.T.g G.T.b G.T.builtins G.T.nolimit hg eT nT hC G.T.bmain hobj hints (Nat.le_trans hlen hn2) hr hF hb fun H hO na hS => hsp H a ns hlen hO na hS
theorem spT_of {K : PySem.W.Frag} {T : List (Addr × Str)} {P : Addr} {q : Str} (hT : T = [(P, q)]) {H : Hp} {a : Addr} {ns : List Int} (hl : ns.length ≤ 63) (eT : H P = some (.tbl #[])) (na : a ≠ P) (hS : SqL K H a (ns.map V.int)) : spT K T [.ref a] H (fun v _ => v = .bl true) fun _ _ _ => False := by
  subst hT
  have key : ∀ b, Keyed [(P, q)] b ↔ b = P := fun b => ⟨fun ⟨p, hp, e⟩ => by rw [← e, List.mem_singleton.mp hp], fun e => ⟨_, List.mem_singleton.mpr rfl, e.symm⟩⟩
  refine ⟨Keyed [(P, q)], ns, ⟨fun b hb => ?_, fun b z => z.elim False.elim id, ⟨trivial, fun p hp => ?_⟩, fun _ _ _ _ _ z => z.elim⟩, ⟨⟨a, _, rfl, ?_, Al.of_ints ns, by show _ ≤ bigN; unfold bigN; omega⟩, trivial⟩, fun _ => rfl⟩
  · rw [(key b).mp hb]
    exact ⟨_, eT, fun _ z => by cases z⟩
  · rw [List.mem_singleton.mp hp]
    exact TabS.nil eT
  · have hid1 : hid (Keyed [(P, q)]) H a = H a := hid_no fun z => na ((key a).mp z)
    rcases hS with (z | ⟨od, z⟩) | z
    · exact .inl (.inl (by rw [hid1]; exact z))
    · exact .inl (.inr ⟨od, by rw [hid1]; exact z⟩)
    · exact .inr z
end L2.Lc
end

-- part K04L
section
set_option Elab.async false
set_option linter.all false
set_option maxRecDepth 100000
set_option maxHeartbeats 1000000
namespace K04
open PySem PySem.Spec PyProof.Rows L2 L2.Lc KSimp
open LamX (Tabs TabS TabB CodeO lamEnv lamCx)
/-! ### plain -/
theorem low_sz {a b : Int} {n : Nat} (hb : 0 < b) (h1 : a.natAbs < 2 ^ n) (h2 : b.natAbs < 2 ^ n) : Sz n (Rat.divInt a b) := by
  obtain ⟨d, rfl⟩ := Int.eq_ofNat_of_zero_le (Int.le_of_lt hb)
  rw [Rat.divInt_ofNat]
  exact .mk h1 (by rwa [Int.natAbs_natCast] at h2) (by omega)
theorem plus_below (a : Rat) {g1 g2 : Int} (h1 : 0 < g1) (h2 : 0 < g2) : below a (a + Rat.divInt g1 g2) := by
  generalize hb : a + Rat.divInt g1 g2 = b
  have e : Rat.divInt (a.num * g2 + g1 * (a.den : Int)) ((a.den : Int) * g2) = b := by rw [plus_as _ _ _ h2, hb]
  have da := KSimp.den_pos a
  have db := KSimp.den_pos b
  have m := Int.mul_pos da h2
  have c : b.num * ((a.den : Int) * g2) = (a.num * g2 + g1 * (a.den : Int)) * b.den := by
    have h := Rat.num_divInt_den b
    exact (Rat.divInt_eq_divInt_iff (by omega) (by omega)).mp (h.trans e.symm)
  have k : 0 < g1 * ((a.den : Int) * b.den) := Int.mul_pos h1 (Int.mul_pos da db)
  show a.num * (b.den : Int) < b.num * (a.den : Int)
  refine Int.lt_of_mul_lt_mul_right (a := g2) ?_ (by omega)
  grind
theorem in14 {Γ : Gm} {s p : Option Ent} (h : Γ.length = 14) (h0 : Γ[0]? = some s) (h1 : Γ[1]? = some p) : ∃ g : Nat → Option Ent, Γ = [s, p, g 2, g 3, g 4, g 5, g 6, g 7, g 8, g 9, g 10, g 11, g 12, g 13] := by
  match Γ, h, h0, h1 with
  | [b0, b1, b2, b3, b4, b5, b6, b7, b8, b9, b10, b11, b12, b13], _, h0, h1 =>
    simp at h0 h1
    subst h0
    subst h1
    exact ⟨fun i => [b0, b1, b2, b3, b4, b5, b6, b7, b8, b9, b10, b11, b12, b13].getD i none, rfl⟩
theorem turn_lt {k : Nat} {pre post : List Int} {x : Int} (h : rangeL 0 k = pre ++ x :: post) : pre.length < k := by
  have := congrArg List.length h
  unfold rangeL at this
  rw [List.length_map, List.length_range, List.length_append, List.length_cons] at this
  omega
theorem bots : ∀ x ∈ [(1 : Int), 2, 7, 60, 997, 10 ^ (9 : Int).toNat + 7, 10 ^ (30 : Int).toNat + 57], 0 < x ∧ x ≤ 10 ^ 30 + 57 := by decide +kernel
theorem gaps {u1 u2 u3 u4 : Int} (h1 : 0 ≤ u1 ∧ u1 < 3) (h2 : 0 ≤ u2 ∧ u2 < 99) (h3 : 0 ≤ u3 ∧ u3 < 99) (h4 : 0 ≤ u4 ∧ u4 < 40) :
    ∀ x ∈ [((1 : Int), 1 + u1), (1, 10 + u2), (1, 10 ^ (12 : Int).toNat), (1, 10 ^ (30 : Int).toNat + u3), (1, 10 ^ (60 : Int).toNat), (1 + u4, 41)], (0 < x.1 ∧ x.1 ≤ 40) ∧ 0 < x.2 ∧ x.2 ≤ 10 ^ 60 := by
  have e1 : (10 : Int) ^ (12 : Int).toNat = 1000000000000 := by decide +kernel
  have e2 : (10 : Int) ^ (30 : Int).toNat = 1000000000000000000000000000000 := by decide +kernel
  have e3 : (10 : Int) ^ (60 : Int).toNat = 1000000000000000000000000000000000000000000000000000000000000 := by decide +kernel
  have e4 : (10 : Int) ^ 60 = 1000000000000000000000000000000000000000000000000000000000000 := by decide +kernel
  rw [e1, e2, e3, e4]
  intro x hx
  simp only [List.mem_cons, List.not_mem_nil, or_false] at hx
  rcases hx with rfl | rfl | rfl | rfl | rfl | rfl <;> dsimp only <;> omega
theorem turn_sz {bt d : Int} (h1 : 0 < bt) (h2 : bt ≤ 10 ^ 30 + 57) (h3 : 0 ≤ d) (h4 : d < 5 * bt + 9) : Sz 104 (Rat.divInt (d - 2 * bt) bt) := by
  have e : (10 : Int) ^ 30 = 1000000000000000000000000000000 := by decide +kernel
  have e2 : (2 : Nat) ^ 104 = 20282409603651670423947251286016 := by decide +kernel
  rw [e] at h2
  exact low_sz h1 (by rw [e2]; omega) (by rw [e2]; omega)
theorem gap_sz {g1 g2 : Int} (h1 : 0 < g1) (h2 : g1 ≤ 40) (h3 : 0 < g2) (h4 : g2 ≤ 10 ^ 60) : Sz 200 (Rat.divInt g1 g2) := by
  have e : (10 : Int) ^ 60 = 1000000000000000000000000000000000000000000000000000000000000 := by decide +kernel
  have e2 : (2 : Nat) ^ 200 = 1606938044258990275541962092341162602522202993782792835301376 := by decide +kernel
  rw [e] at h4
  exact low_sz h3 (by rw [e2]; omega) (by rw [e2]; omega)
theorem addI_sz {n : Nat} {q : Rat} {i : Int} (h : Sz n q) (h1 : -4 ≤ i) (h2 : i ≤ 4) : Sz (n + 3) (addI q i) := by
  have hd := KSimp.den_pos q
  have e : (2 : Nat) ^ (n + 3) = 2 ^ n * 8 := by rw [Nat.pow_add]
  refine ⟨?_, Nat.lt_of_lt_of_le h.2 (pow_lt (by omega))⟩
  rw [addI_num]
  have k1 : i * (q.den : Int) ≤ 4 * q.den := Int.mul_le_mul_of_nonneg_right h2 (by omega)
  have k2 : -4 * (q.den : Int) ≤ i * q.den := Int.mul_le_mul_of_nonneg_right h1 (by omega)
  have := h.1
  have := h.2
  rw [e]
  omega
theorem addI_below {a b : Rat} {i : Int} (h : below a b) : below (addI a i) (addI b i) := by
  have h : a.num * (b.den : Int) < b.num * (a.den : Int) := h
  show (addI a i).num * ((addI b i).den : Int) < (addI b i).num * ((addI a i).den : Int)
  rw [addI_num, addI_num, addI_den, addI_den]
  grind
theorem neg_sz {n : Nat} {q y : Rat} (h : Sz n q) (e : y.num = -q.num ∧ y.den = q.den) : Sz n y := ⟨by rw [e.1, Int.natAbs_neg]; exact h.1, by rw [e.2]; exact h.2⟩
theorem neg_below {a b x y : Rat} (h : below a b) (ex : x.num = -a.num ∧ x.den = a.den) (ey : y.num = -b.num ∧ y.den = b.den) : below y x := by
  have h : a.num * (b.den : Int) < b.num * (a.den : Int) := h
  show y.num * (x.den : Int) < x.num * (y.den : Int)
  rw [ex.1, ex.2, ey.1, ey.2]
  grind
theorem cross {p q : Int} (hq : 0 < q) : (Rat.divInt p q).num * q = p * ((Rat.divInt p q).den : Int) := by
  have hd := KSimp.den_pos (Rat.divInt p q)
  exact (Rat.divInt_eq_divInt_iff (by omega) (by omega)).mp (Rat.num_divInt_den (Rat.divInt p q))
abbrev third : Rat := Rat.divInt 1 3
theorem third_num : third.num = 1 := by decide +kernel
theorem third_den : third.den = 3 := by decide +kernel
theorem third_of {N : Int} (hN : 10 ≤ N) {a b : Rat} (ha : a.num * (3 * N) = (N - 1) * a.den) (hb : b.num * (3 * N) = (N + 1) * b.den) : below a b ∧ Simp a b third ∧ below third b := by
  have da := KSimp.den_pos a
  have db := KSimp.den_pos b
  have n3 : 0 < 3 * N := by omega
  have la : a.num * 3 < a.den := by
    refine Int.lt_of_mul_lt_mul_right (a := N) ?_ (by omega)
    grind
  have lb : (b.den : Int) < b.num * 3 := by
    refine Int.lt_of_mul_lt_mul_right (a := N) ?_ (by omega)
    grind
  refine ⟨?_, ⟨by rw [third_den]; decide, ⟨?_, ?_⟩, fun u v hv ⟨i1, i2⟩ => ?_⟩, ?_⟩
  · show a.num * (b.den : Int) < b.num * (a.den : Int)
    have k1 := Int.mul_lt_mul_of_pos_right la db
    have k2 := Int.mul_lt_mul_of_pos_right lb da
    grind
  · rw [third_num, third_den]; show a.num * 3 < 1 * (a.den : Int); omega
  · rw [third_num, third_den]; show 1 * (b.den : Int) < b.num * 3; omega
  · rw [third_num, third_den]
    have j1 : (N - 1) * v < 3 * N * u := by
      refine Int.lt_of_mul_lt_mul_right (a := (a.den : Int)) ?_ (by omega)
      have := Int.mul_lt_mul_of_pos_right i1 n3
      have e := congrArg (fun z => z * v) ha
      grind
    have j2 : 3 * N * u < (N + 1) * v := by
      refine Int.lt_of_mul_lt_mul_right (a := (b.den : Int)) ?_ (by omega)
      have := Int.mul_lt_mul_of_pos_right i2 n3
      have e := congrArg (fun z => z * v) hb
      grind
    have up : 0 < u := by
      by_cases z : 0 < u
      · exact z
      · have k1 : 3 * N * u ≤ 0 := Int.mul_nonpos_of_nonneg_of_nonpos (by omega) (by omega)
        have k2 : 0 ≤ (N - 1) * v := Int.mul_nonneg (by omega) (by omega)
        omega
    refine ⟨?_, fun _ => up⟩
    have k1 : 3 * N * 1 ≤ 3 * N * u := Int.mul_le_mul_of_nonneg_left up (by omega)
    by_cases z : 3 ≤ v
    · exact z
    · have : v = 1 ∨ v = 2 := by omega
      rcases this with rfl | rfl <;> omega
  · show third.num * (b.den : Int) < b.num * (third.den : Int)
    rw [third_num, third_den]; show 1 * (b.den : Int) < b.num * 3; omega
section
variable {P : Program} {w : World} {K : PySem.W.Frag} {mg : Str → Option Value} {base : Heap} {C : Addr}
abbrev tabs (K : PySem.W.Frag) : List (Addr × Str) := [((He.cT K ("law", none)).2, ("law" : Str) ++ ("." : Str) ++ "<locals>" ++ "." ++ "<lambda>")]
set_option maxHeartbeats 4000000 in
theorem c_law (T : Tx K mg C) (TB : TabB base mg (He.cT K ("law", none)).1 (He.cT K ("law", none)).2) {fd : FuncData} (F : FunD K "law" "law" (defArgs s_law) (defBody s_law) (defScope s_law) [] [] (He.ga K "law") fd) : FnG P w K mg base 9 (He.ga K "law") fd ["script"] (spT K (tabs K)) :=
  fnTG F sc_law fun cdv A outer s H E hc hr hgd => by
    have hcd : cdv = .ref (He.cT K ("law", none)).1 := by
      obtain ⟨⟨oc, od, fd, osl, lk, e⟩, hq⟩ := hc
      obtain ⟨c, rfl⟩ := He.codeIn_ref hq
      exact congrArg Value.ref (He.codeOf_eq (p := ("law", none)) lk e).symm
    subst hcd
    have hcode : Value.ref (He.cT K ("law", none)).1 = .ref (He.cT K ("law", none)).1 := rfl
    exact ⟨_, (pss_cons (ps_set (i := 1) sc_law.nd rfl (by first | exact Or.inl rfl | exact Or.inr rfl) (pe_cal (c_law_pen T) (hr.mono (by decide)) rfl (pa_cons (pv 0) pa_nil)))
  (pss_cons (ps_for PassesOwn.never rfl (pi_range1 rfl T.f_range (pa_cons pe_int pa_nil)) (pg_name (i := 2) sc_law.nd rfl (by first | exact Or.inl rfl | exact Or.inr rfl)) (pss_cons (ps_set (i := 3) sc_law.nd rfl (by first | exact Or.inl rfl | exact Or.inr rfl) (pe_cal (c_law_pick (R := rInt) T) (hr.mono (by decide)) rfl (pa_cons (pv 1) (pa_cons (pe_lst (pa_cons pe_int (pa_cons pe_int (pa_cons pe_int (pa_cons pe_int (pa_cons pe_int (pa_cons (pe_op op_add (pe_op op_pow pe_int pe_int) pe_int) (pa_cons (pe_op op_add (pe_op op_pow pe_int pe_int) pe_int) pa_nil)))))))) pa_nil))))
  (pss_cons (ps_set (i := 4) sc_law.nd rfl (by first | exact Or.inl rfl | exact Or.inr rfl) (pe_cal (c_law_low T) (hr.mono (by decide)) rfl (pa_cons (pe_op op_sub (pe_cal (c_law_draw T) (hr.mono (by decide)) rfl (pa_cons (pv 1) (pa_cons (pe_op op_add (pe_op op_mul pe_int (pv 3)) pe_int) pa_nil))) (pe_op op_mul pe_int (pv 3))) (pa_cons (pv 3) pa_nil))))
  (pss_cons (ps_set (i := 5) sc_law.nd rfl (by first | exact Or.inl rfl | exact Or.inr rfl) (pe_cal (c_law_pick (R := (rPr K rInt rInt)) T) (hr.mono (by decide)) rfl (pa_cons (pv 1) (pa_cons (pe_lst (pa_cons (pe_tup (pa_cons pe_int (pa_cons (pe_op op_add pe_int (pe_cal (c_law_draw T) (hr.mono (by decide)) rfl (pa_cons (pv 1) (pa_cons pe_int pa_nil)))) pa_nil))) (pa_cons (pe_tup (pa_cons pe_int (pa_cons (pe_op op_add pe_int (pe_cal (c_law_draw T) (hr.mono (by decide)) rfl (pa_cons (pv 1) (pa_cons pe_int pa_nil)))) pa_nil))) (pa_cons (pe_tup (pa_cons pe_int (pa_cons (pe_op op_pow pe_int pe_int) pa_nil))) (pa_cons (pe_tup (pa_cons pe_int (pa_cons (pe_op op_add (pe_op op_pow pe_int pe_int) (pe_cal (c_law_draw T) (hr.mono (by decide)) rfl (pa_cons (pv 1) (pa_cons pe_int pa_nil)))) pa_nil))) (pa_cons (pe_tup (pa_cons pe_int (pa_cons (pe_op op_pow pe_int pe_int) pa_nil))) (pa_cons (pe_tup (pa_cons (pe_op op_add pe_int (pe_cal (c_law_draw T) (hr.mono (by decide)) rfl (pa_cons (pv 1) (pa_cons pe_int pa_nil)))) (pa_cons pe_int pa_nil))) pa_nil))))))) pa_nil))))
  (pss_cons (ps_set (i := 6) sc_law.nd rfl (by first | exact Or.inl rfl | exact Or.inr rfl) (pe_cal (c_law_plus T) (hr.mono (by decide)) rfl (pa_cons (pv 4) (pa_cons (pv 5) pa_nil))))
  (pss_cons (ps_par (i := 7) (j := 8) rfl sc_law.nd rfl rfl (by decide) rfl rfl (pa_cons (pe_calX (c_between T) (hr.mono (by decide)) passE0 rfl (pa_cons (pe_cal (c_law_ratio T) (hr.mono (by decide)) rfl (pa_cons (pv 4) pa_nil)) (pa_cons (pe_cal (c_law_ratio T) (hr.mono (by decide)) rfl (pa_cons (pv 6) pa_nil)) pa_nil))) (pa_cons (pe_cal (c_law_walked T) (hr.mono (by decide)) rfl (pa_cons (pv 4) (pa_cons (pv 6) pa_nil))) pa_nil)) rfl)
  (pss_cons (ps_if (PW.pt (pw_or (pt_cmpR op_isN (pv 8) pe_non (nomark _)) (pw_or (pt_val (pe_calG (c_law_unlike T) (hr.mono (by decide)) hgd rfl (pa_cons (pe_cal (c_law_pair T) (hr.mono (by decide)) rfl (pa_cons (pv 7) pa_nil)) (pa_cons (pv 8) pa_nil)))) (pw_or1 (pt_cmpR (op_ownNe (o_eq T) (hr.mono (by decide)) T.ne T.obj) (pe_calKX (k_between T) (hr.mono (by decide)) passE0 rfl (pk_cons (pe_cal (c_law_ratio T) (hr.mono (by decide)) rfl (pa_cons (pv 6) pa_nil)) (pk_cons (pe_cal (c_law_ratio T) (hr.mono (by decide)) rfl (pa_cons (pv 4) pa_nil)) pk_nil))) (pv 7) (nomark _)))))) (pss_one (ps_ret pe_bl)) pss_nil)
  (pss_cons (ps_if (PW.pt (pw_or (pt_not (pt_val (pe_methM (o_below T) (hr.mono (by decide)) (pe_cal (c_law_ratio T) (hr.mono (by decide)) rfl (pa_cons (pv 4) pa_nil)) (pa_cons (pv 7) pa_nil)))) (pw_or1 (pt_not (pt_val (pe_methM (o_below T) (hr.mono (by decide)) (pv 7) (pa_cons (pe_cal (c_law_ratio T) (hr.mono (by decide)) rfl (pa_cons (pv 6) pa_nil)) pa_nil))))))) (pss_one (ps_ret pe_bl)) pss_nil)
  (pss_cons (ps_set (i := 9) sc_law.nd rfl (by first | exact Or.inl rfl | exact Or.inr rfl) (pe_cal (c_law_tried T) (hr.mono (by decide)) rfl (pa_cons (pv 4) (pa_cons (pv 6) (pa_cons pe_int pa_nil)))))
  (pss_cons (ps_if (PW.pt (pw_or (PW.pt (pw_and (pt_cmpR op_notN (pv 9) pe_non (nomark _)) (pw_and1 (pt_cmpR (op_neDK (K := K) rfl hr.units) (pv 9) (pv 8) (nomark _))))) (pw_or1 (PW.pt (pw_and (pt_cmpR op_isN (pv 9) pe_non (nomark _)) (pw_and1 (pt_cmpR op_le (pe_ix (ix_tupK (K := K) rfl) (pv 8) pe_int (fun _ _ => rfl)) pe_int (nomark _)))))))) (pss_one (ps_ret pe_bl)) pss_nil)
  (pss_cons (ps_set (i := 10) sc_law.nd rfl (by first | exact Or.inl rfl | exact Or.inr rfl) (pe_op op_sub (pe_cal (c_law_draw T) (hr.mono (by decide)) rfl (pa_cons (pv 1) (pa_cons pe_int pa_nil))) pe_int))
  (pss_cons (ps_if (pt_cmpR (op_neDK (K := K) rfl hr.units) (pe_cal (c_law_pair T) (hr.mono (by decide)) rfl (pa_cons (pe_calX (c_between T) (hr.mono (by decide)) passE0 rfl (pa_cons (pe_op (op_addI T (hr.mono (by decide))) (pe_cal (c_law_ratio T) (hr.mono (by decide)) rfl (pa_cons (pv 4) pa_nil)) (pv 10)) (pa_cons (pe_op (op_addI T (hr.mono (by decide))) (pe_cal (c_law_ratio T) (hr.mono (by decide)) rfl (pa_cons (pv 6) pa_nil)) (pv 10)) pa_nil))) pa_nil)) (pe_tup (pa_cons (pe_op op_add (pe_ix (ix_tupK (K := K) rfl) (pv 8) pe_int (fun _ _ => rfl)) (pe_op op_mulW (pv 10) (pe_ix (ix_tupK (K := K) rfl) (pv 8) pe_int (fun _ _ => rfl)))) (pa_cons (pe_ix (ix_tupK (K := K) rfl) (pv 8) pe_int (fun _ _ => rfl)) pa_nil))) (nomark _)) (pss_one (ps_ret pe_bl)) pss_nil)
  (pss_cons (ps_if (pt_cmpR op_ne (kfld (K := K) rfl (pe_calX (c_between T) (hr.mono (by decide)) passE0 rfl (pa_cons (pe_un (un_own (o_neg T) (hr.mono (by decide))) (pe_cal (c_law_ratio T) (hr.mono (by decide)) rfl (pa_cons (pv 6) pa_nil))) (pa_cons (pe_un (un_own (o_neg T) (hr.mono (by decide))) (pe_cal (c_law_ratio T) (hr.mono (by decide)) rfl (pa_cons (pv 4) pa_nil))) pa_nil))) rfl) (pe_ix (ix_tupK (K := K) rfl) (pv 8) pe_int (fun _ _ => rfl)) (nomark _)) (pss_one (ps_ret pe_bl)) pss_nil)
  (pss_one (ps_if (PW.pt (pw_or (pt_cmpR (op_neDK (K := K) rfl hr.units) (pe_heardL (ps := []) (k := 6) T.d_law_heard (fun _ _ _ _ _ _ us hl => match us, hl with | [_], _ => rfl) sc_law_heard (fun g cdg => heard rfl T) TB hcode (List.mem_singleton.mpr rfl) (fun p hp _ => by rw [List.mem_singleton.mp hp]) (hr.mono (by decide)) (lamN_by (by kernel_rfl)) rfl (def0 rfl) (lamB0 fun _ _ _ _ _ _ => rfl) (fun A outer s H E f cc hr => (pe_calX (c_between T) (hr.mono (by decide)) (passE (takes_of rfl rfl rfl rfl)) rfl (pa_cons (pe_cal (c_law_ratio T) (hr.mono (by decide)) rfl (pa_cons (pv 4) pa_nil)) (pa_cons (pe_cal (c_law_ratio T) (hr.mono (by decide)) rfl (pa_cons (pv 4) pa_nil)) pa_nil))))) (pe_tup (pa_cons pe_str pa_nil)) (nomark _)) (pw_or1 (pt_cmpR (op_neDK (K := K) rfl hr.units) (pe_heardL (ps := ["a1"]) (k := 6) T.d_law_heard (fun _ _ _ _ _ _ us hl => match us, hl with | [_], _ => rfl) sc_law_heard (fun g cdg => heard rfl T) TB hcode (List.mem_singleton.mpr rfl) (fun p hp _ => by rw [List.mem_singleton.mp hp]) (hr.mono (by decide)) (lamN_by (by kernel_rfl)) rfl (def1 rfl) (lamB1 fun _ _ _ _ _ _ _ => ⟨_, rfl, fun _ => rfl⟩) (fun A outer s H E f cc hr => (pe_calX (c_between T) (hr.mono (by decide)) (passE (takes_of rfl rfl rfl rfl)) rfl (pa_cons (pe_cal (c_law_ratio T) (hr.mono (by decide)) rfl (pa_cons (pv 6) pa_nil)) (pa_cons (pe_cal (c_law_ratio T) (hr.mono (by decide)) rfl (pa_cons (pv 4) pa_nil)) pa_nil))))) (pe_tup (pa_cons pe_str pa_nil)) (nomark _))))) (pss_one (ps_ret pe_bl)) pss_nil)))))))))))))))
  (pss_cons (ps_set (i := 11) sc_law.nd rfl (by first | exact Or.inl rfl | exact Or.inr rfl) (pe_op op_add pe_int (pe_cal (c_law_draw T) (hr.mono (by decide)) rfl (pa_cons (pv 1) (pa_cons pe_int pa_nil)))))
  (pss_cons (ps_set (i := 12) sc_law.nd rfl (by first | exact Or.inl rfl | exact Or.inr rfl) pe_int)
  (pss_cons (ps_for PassesOwn.never rfl (pi_range1 rfl T.f_range (pa_cons (pv 11) pa_nil)) (pg_name (i := 13) sc_law.nd rfl (by first | exact Or.inl rfl | exact Or.inr rfl)) (pss_one (ps_set (i := 12) sc_law.nd rfl (by first | exact Or.inl rfl | exact Or.inr rfl) (pe_op op_mul (pv 12) pe_int))))
  (pss_cons (ps_asg (pe_tup (pa_cons (pe_mkC (mk_Ratio T) (hr.mono (by decide)) rfl (pa_cons (pe_op op_sub (pv 12) pe_int) (pa_cons (pe_op op_mul pe_int (pv 12)) pa_nil))) (pa_cons (pe_mkC (mk_Ratio T) (hr.mono (by decide)) rfl (pa_cons (pe_op op_add (pv 12) pe_int) (pa_cons (pe_op op_mul pe_int (pv 12)) pa_nil))) pa_nil))) (kgtup (K := K) (n := 2) rfl rfl (pgs_cons (pg_name (i := 4) sc_law.nd rfl (by first | exact Or.inl rfl | exact Or.inr rfl)) (pgs_cons (pg_name (i := 6) sc_law.nd rfl (by first | exact Or.inl rfl | exact Or.inr rfl)) pgs_nil))))
  (pss_one (ps_ret (pe_and (pe_cmpR (op_ownEq (o_eq T) (hr.mono (by decide))) (pe_calX (c_between T) (hr.mono (by decide)) passE0 rfl (pa_cons (pv 4) (pa_cons (pv 6) pa_nil))) (pe_mkC (mk_Ratio T) (hr.mono (by decide)) rfl (pa_cons pe_int (pa_cons pe_int pa_nil))) (nomark _)) (pe_one (pe_cmpR (op_eqDK (K := K) rfl hr.units) (pe_cal (c_law_pair T) (hr.mono (by decide)) rfl (pa_cons (pe_calX (c_between T) (hr.mono (by decide)) passE0 rfl (pa_cons (pe_mkC (mk_Ratio T) (hr.mono (by decide)) rfl (pa_cons pe_int (pa_cons pe_int pa_nil))) (pa_cons (pv 6) pa_nil))) pa_nil)) (pe_cal (c_law_walked T) (hr.mono (by decide)) rfl (pa_cons (pe_tup (pa_cons pe_int (pa_cons pe_int pa_nil))) (pa_cons (pe_cal (c_law_pair T) (hr.mono (by decide)) rfl (pa_cons (pv 6) pa_nil)) pa_nil))) (nomark _)))))))))))), fun l => by
      refine s_penStartT rfl fun I hI => ?_
      have fit : ∀ {n : Int × Int}, 0 ≤ n.1 → n.1 ≤ 400 → ∀ {k : Int}, k ≤ 2 ^ 120 → preDraw k n := fun {n} h1 h2 {k} h3 => ⟨h1, by omega, Int.lt_of_le_of_lt h3 (by decide +kernel)⟩
      refine s_mid (fun Γ n => Γ.length = 14 ∧ Γ[0]? = some (some (.mk (rSql K rInt) l)) ∧ Γ[1]? = some (some (.mk (rPen K I) ())) ∧ 0 ≤ n.1 ∧ n.1 ≤ 240) ?_ ?_
      · refine s_for (is := [2]) <| i_range <| a_cons <| w_int <| a_nil ⟨24, rfl, by decide, by decide, fun pre Γ n => Γ.length = 14 ∧ Γ[0]? = some (some (.mk (rSql K rInt) l)) ∧ Γ[1]? = some (some (.mk (rPen K I) ())) ∧ 0 ≤ n.1 ∧ n.1 ≤ 10 * pre.length, ⟨rfl, rfl, rfl, by decide, by decide⟩, ?_, ?_⟩
        · rintro pre x post Γ' n0 hl ⟨e0, e1, e2, e3, e4⟩
          have hpre : pre.length < 24 := turn_lt (k := 24) hl
          have plen : (pre ++ [x]).length = pre.length + 1 := by simp
          obtain ⟨g, rfl⟩ := in14 e0 e1 e2
          have i30 : (10 : Int) ^ 30 = 1000000000000000000000000000000 := by decide +kernel
          have i120 : (2 : Int) ^ 120 = 1329227995784915872903807060280344576 := by decide +kernel
          -- bottom
          refine tg_name <| s_seq <| s_inT pure_pen <| s_set <| w_callS I <| a_cons <| w_var rfl <| a_cons <| w_lst (R := rInt) <| a_cons <| w_int <| a_cons <| w_int <| a_cons <| w_int <| a_cons <| w_int <| a_cons <| w_int <| a_cons <| w_op0 o_int <| w_op o_intC <| w_int <| w_int ⟨⟨by decide, by decide, by decide⟩, w_int <| a_cons <| w_op0 o_int <| w_op o_intC <| w_int <| w_int ⟨⟨by decide, by decide, by decide⟩, w_int <| a_nil ⟨[1, 2, 7, 60, 997, _, _], rfl, by show 7 ≤ bigN; decide, a_nil ⟨_, rfl, ⟨(fun z => by cases z), by show 7 ≤ 1000; decide, e3, by omega⟩, fun bt n1 hb => ?_⟩⟩⟩⟩
          obtain ⟨b1, b2, b3⟩ := hb
          obtain ⟨b4, b5⟩ := bots bt b1
          clear b1
          -- one
          refine s_seq <| s_inT pure_pen <| s_set <| w_callP <| a_cons <| w_op0 o_int <| w_callS I <| a_cons <| w_var rfl <| a_cons <| w_op0 o_int <| w_op o_intC <| w_int <| w_var rfl ⟨.inl ⟨by decide, by decide⟩, w_int <| a_nil ⟨_, rfl, fit (by omega) (by omega) (by omega), fun d n2 hd => w_op o_intC <| w_int <| w_var rfl ⟨.inl ⟨by decide, by decide⟩, a_cons <| w_var rfl <| a_nil ⟨(_, _), rfl, ⟨b4, log_le (k := 9000) (by decide) ?_⟩, fun a ha => ?_⟩⟩⟩⟩
          · have : (2 : Nat) ^ 120 ≤ 2 ^ 9000 := pow_lt (by decide)
            have : bt.natAbs < 2 ^ 120 := by rw [show (2 : Nat) ^ 120 = 1329227995784915872903807060280344576 by decide +kernel]; omega
            omega
          obtain ⟨d1, d2, d3, _⟩ := hd
          have d3 := d3 (by omega)
          have ha : a = Rat.divInt (d - 2 * bt) bt := ha
          have sa : Sz 104 a := by rw [ha]; exact turn_sz b4 b5 d2 d3
          clear ha
          -- gap
          have fin : ∀ (bt : Int) (a : Rat) {n : Int × Int}, n0.1 ≤ n.1 ∧ n.1 ≤ n0.1 + 10 → True := fun _ _ _ _ => trivial
          clear fin
          refine s_seq <| s_inT pure_pen <| s_set <| w_callS I <| a_cons <| w_var rfl <| a_cons <| w_lst (K := K) (R := rP K) <| a_cons (R := rP K) <| w_pr <| w_int <| w_op0 o_int <| w_int <| w_callS I <| a_cons <| w_var rfl <| a_cons <| w_int <| a_nil ⟨3, rfl, fit (by omega) (by omega) (by decide +kernel), fun u1 n3 ⟨⟨k1, k2⟩, k3, k4, _⟩ => ?_⟩
          have k4 := k4 (by decide)
          refine a_cons (R := rP K) <| w_pr <| w_int <| w_op0 o_int <| w_int <| w_callS I <| a_cons <| w_var rfl <| a_cons <| w_int <| a_nil ⟨99, rfl, fit (by omega) (by omega) (by decide +kernel), fun u2 n4 ⟨⟨k5, k6⟩, k7, k8, _⟩ => ?_⟩
          have k8 := k8 (by decide)
          refine a_cons (R := rP K) <| w_pr <| w_int <| w_op o_intC <| w_int <| w_int ⟨⟨by decide, by decide, by decide⟩, ?_⟩
          refine a_cons (R := rP K) <| w_pr <| w_int <| w_op0 o_int <| w_op o_intC <| w_int <| w_int ⟨⟨by decide, by decide, by decide⟩, w_callS I <| a_cons <| w_var rfl <| a_cons <| w_int <| a_nil ⟨99, rfl, fit (by omega) (by omega) (by decide +kernel), fun u3 n5 ⟨⟨k9, k10⟩, k11, k12, _⟩ => ?_⟩⟩
          have k12 := k12 (by decide)
          refine a_cons (R := rP K) <| w_pr <| w_int <| w_op o_intC <| w_int <| w_int ⟨⟨by decide, by decide, by decide⟩, ?_⟩
          refine a_cons (R := rP K) <| w_pr <| w_op0 o_int <| w_int <| w_callS I <| a_cons <| w_var rfl <| a_cons <| w_int <| a_nil ⟨40, rfl, fit (by omega) (by omega) (by decide +kernel), fun u4 n6 ⟨⟨k13, k14⟩, k15, k16, _⟩ => ?_⟩
          have k16 := k16 (by decide)
          refine w_int <| a_nil ⟨[(1, 1 + u1), (1, 10 + u2), (1, _), (1, 10 ^ (30 : Int).toNat + u3), (1, _), (1 + u4, 41)], rfl, by show 6 ≤ bigN; decide, a_nil ⟨_, rfl, ⟨(fun z => by cases z), by show 6 ≤ 1000; decide, by omega, by omega⟩, fun gp n7 hg => ?_⟩⟩
          obtain ⟨g1, g2⟩ := gp
          obtain ⟨c1, c2, c3⟩ := hg
          obtain ⟨⟨c4, c5⟩, c6, c7⟩ := gaps ⟨k3, k4⟩ ⟨k7, k8⟩ ⟨k11, k12⟩ ⟨k15, k16⟩ _ c1
          clear c1
          dsimp only at c4 c5 c6 c7
          have sg := gap_sz c4 c5 c6 c7
          have hlt := plus_below a c4 c6
          have sb : Sz 310 (a + Rat.divInt g1 g2) := (sa.add sg).mono (by decide)
          have sa : Sz 310 a := sa.mono (by decide)
          have n_lo : n0.1 ≤ n7.1 := by omega
          have n_hi : n7.1 ≤ n0.1 + 8 := by omega
          have l7 : n7.1 ≤ 238 := by omega
          -- other
          refine s_seq <| s_set <| w_callP <| a_cons <| w_var rfl <| a_cons <| w_var rfl <| a_nil ⟨(a, (g1, g2)), rfl, ⟨sa.mono (by decide), ?_, c6, ?_⟩, fun b hb => ?_⟩
          · have : (2 : Nat) ^ 200 ≤ 2 ^ 4000 := pow_lt (by decide)
            have : (40 : Nat) < 2 ^ 200 := by decide +kernel
            dsimp only
            omega
          · have : (2 : Nat) ^ 200 ≤ 2 ^ 4000 := pow_lt (by decide)
            have e : (10 : Int) ^ 60 = 1000000000000000000000000000000000000000000000000000000000000 := by decide +kernel
            have e2 : (2 : Nat) ^ 200 = 1606938044258990275541962092341162602522202993782792835301376 := by decide +kernel
            dsimp only
            omega
          have hb : b = a + Rat.divInt g1 g2 := hb
          rw [← hb] at hlt sb
          have sa0 := sa
          have sb0 := sb
          have sa : Sz 320 a := sa0.mono (by decide)
          have sb : Sz 320 b := sb0.mono (by decide)
          clear hb sg c4 c5 c6 c7 d1 d2 d3 b2 b3 b4 b5
          have a4 : Sz 4000 a := sa.mono (by decide)
          have b4 : Sz 4000 b := sb.mono (by decide)
          -- told, due
          refine s_seq <| s_par <| a_cons <| w_callX rfl <| a_cons <| w_callP <| a_cons <| w_var rfl <| a_nil ⟨a, rfl, a4, fun y1 hy1 => a_cons <| w_callP <| a_cons <| w_var rfl <| a_nil ⟨b, rfl, b4, fun y2 hy2 => a_nil ⟨(y1, y2), rfl, ?_, fun t ht => ?_, fun e he => ?_⟩⟩⟩
          · subst hy1; subst hy2; exact ⟨sa, sb⟩
          rotate_left
          · subst hy1; subst hy2; exact absurd hlt he.1
          have hy1 : y1 = a := hy1
          have hy2 : y2 = b := hy2
          subst y1
          subst y2
          have ht : Simp a b t := ht.2
          have st := simp_sz sa sb hlt ht
          refine a_cons <| w_callP <| a_cons <| w_var rfl <| a_cons <| w_var rfl <| a_nil ⟨(a, b), rfl, ⟨⟨sa, sb⟩, hlt⟩, fun du hd => a_nil ⟨_, _, rfl, ?_⟩⟩
          have hd : du = pq t := by
            obtain ⟨h1, h2⟩ := hd.uniq ht
            exact Prod.ext h1 h2
          subst hd
          have t4 : Sz 4000 t := st.mono (by decide)
          -- alike, whatever the order of the names
          refine s_seq <| s_if <| t_or <| t_test <| w_op0 (o_isN nn_pr) <| w_var rfl <| w_non ⟨fun _ => t_or <| t_test <| w_callP <| a_cons <| w_callP <| a_cons <| w_var rfl <| a_nil ⟨t, rfl, trivial, fun y hy => a_cons <| w_pq <| w_var rfl ⟨t, rfl, a_nil ⟨(t, t), by rw [show y = t from hy], ⟨rfl, st.mono (by decide)⟩, fun z hz => ⟨fun _ => ?_, fun e => ?_⟩⟩⟩⟩, fun z => (by cases z)⟩
          rotate_left
          · rw [show z = false from hz] at e; cases e
          refine t_test <| w_ownNe <| w_callKX rfl List.reverse argsRev <| a_cons <| w_callP <| a_cons <| w_var rfl <| a_nil ⟨b, rfl, b4, fun y1 hy1 => a_cons <| w_callP <| a_cons <| w_var rfl <| a_nil ⟨a, rfl, a4, fun y2 hy2 => a_nil ⟨rfl, (y2, y1), rfl, ?_, fun t2 ht2 => w_var rfl ⟨(t2, t), rfl, trivial, fun z hz => ⟨fun e => ?_, fun _ => s_next ?_⟩⟩, fun e he => ?_⟩⟩⟩
          · rw [show y1 = b from hy1, show y2 = a from hy2]; exact ⟨sa, sb⟩
          · rw [show y1 = b from hy1, show y2 = a from hy2] at ht2
            rw [show z = decide (t2 = t) from hz, decide_eq_true (ht2.2.uniq ht)] at e
            cases e
          rotate_left
          · rw [show y1 = b from hy1, show y2 = a from hy2] at he; exact absurd hlt he.1
          -- between the two
          obtain ⟨t1, t2⟩ := ht.at_
          refine s_seq <| s_if <| t_or <| t_not <| t_test <| w_methP (hmR (by decide) (by decide)) <| w_callP <| a_cons <| w_var rfl <| a_nil ⟨a, rfl, a4, fun y hy => a_cons <| w_var rfl <| a_nil ⟨(y, t), rfl, ?_, fun z hz => ⟨fun _ => ?_, fun e => ?_⟩⟩⟩
          · rw [show y = a from hy]; exact ⟨a4, t4⟩
          rotate_left
          · rw [show z = _ from hz, show y = a from hy, decide_eq_true (show a.num * (t.den : Int) < t.num * (a.den : Int) from t1)] at e; cases e
          refine t_not <| t_test <| w_methP (hmR (by decide) (by decide)) <| w_var rfl <| a_cons <| w_callP <| a_cons <| w_var rfl <| a_nil ⟨b, rfl, b4, fun y hy => a_nil ⟨(t, y), rfl, ?_, fun z hz => ⟨fun e => ?_, fun _ => s_next ?_⟩⟩⟩
          · rw [show y = b from hy]; exact ⟨t4, b4⟩
          · rw [show z = _ from hz, show y = b from hy, decide_eq_true (show t.num * (b.den : Int) < b.num * (t.den : Int) from t2)] at e; cases e
          -- small
          refine s_seq <| s_set <| w_callP <| a_cons <| w_var rfl <| a_cons <| w_var rfl <| a_cons <| w_int <| a_nil ⟨(a, b, 60), rfl, ⟨sa.mono (by decide), sb.mono (by decide), by show (0 : Int) ≤ 60; decide, by show (60 : Int) ≤ 1000; decide⟩, fun o ho => ?_⟩
          refine s_mid (fun Γ2 n2 => Γ2 = [some (.mk (rSql K rInt) l), some (.mk (rPen K I) ()), some (.mk rInt x), some (.mk rInt bt), some (.mk (rPq K) a), some (.mk (rP K) (g1, g2)), some (.mk (rPq K) b), some (.mk (rRat C) t), some (.mk (rP K) (pq t)), some (.mk (rOpt (rP K)) o), g 10, g 11, g 12, g 13] ∧ n2 = n7) ?_ ?_
          · cases o with
            | some pr =>
              obtain ⟨p1, p2⟩ := ho
              have e : pr = pq t := by
                obtain ⟨q1, q2⟩ := p1.uniq ht
                exact Prod.ext q1 q2
              subst e
              refine s_if <| t_or <| t_and <| t_test <| w_op0 (o_notNO nn_pr) <| w_var rfl <| w_non ⟨fun _ => t_test <| w_op0 (o_neD (dat_pr dat_int dat_int) (by decide) (eq_pr eq_int eq_int)) <| w_some <| w_var rfl ⟨pq t, rfl, w_var rfl ⟨fun _ => ?_, fun e => ?_⟩⟩, fun z => (by cases z)⟩
              · exact t_and <| t_test <| w_op0 (o_isNO nn_pr) <| w_var rfl <| w_non ⟨fun z => (by cases z), fun _ => ⟨fun z => (by cases z), fun _ => s_next ⟨rfl, rfl⟩⟩⟩
              · rw [decide_eq_true rfl] at e; cases e
            | none =>
              have ho : ∀ v, 0 < v → v ≤ 60 → ∀ u, ¬ In a b u v := ho
              refine s_if <| t_or <| t_and <| t_test <| w_op0 (o_notNO nn_pr) <| w_var rfl <| w_non ⟨fun z => (by cases z), fun _ => ⟨fun _ => ?_, fun z => (by cases z)⟩⟩
              refine t_and <| t_test <| w_op0 (o_isNO nn_pr) <| w_var rfl <| w_non ⟨fun _ => t_test <| w_op0 o_cmp <| w_snd (R := rInt) (S := rInt) <| w_var rfl <| w_int ⟨fun z => ?_, fun _ => s_next ⟨rfl, rfl⟩⟩, fun z => (by cases z)⟩
              exact absurd ht.at_ (ho _ ht.pos (of_decide_eq_true z) _)
          rintro Γ2 n2 ⟨rfl, rfl⟩
          -- moved
          refine s_seq <| s_inT pure_pen <| s_set <| w_op0 o_int <| w_callS I <| a_cons <| w_var rfl <| a_cons <| w_int <| a_nil ⟨9, rfl, fit (by omega) (by omega) (by decide +kernel), fun wd n8 hw => w_int ?_⟩
          obtain ⟨⟨w1, w2⟩, w3, w4, _⟩ := hw
          have w4 := w4 (by decide)
          generalize hws : wd - 4 = ws
          have ws1 : -4 ≤ ws := by omega
          have ws2 : ws ≤ 4 := by omega
          have wz : Sz1 4000 ws := by
            have : (2 : Nat) ^ 3 ≤ 2 ^ 4000 := pow_lt (by decide)
            show ws.natAbs < 2 ^ 4000
            omega
          refine s_seq <| s_if <| t_test <| w_op0 (o_neD (dat_pr dat_int dat_int) (by decide) (eq_pr eq_int eq_int)) <| w_qp <| w_callP <| a_cons <| w_callX rfl <| a_cons <| w_ownI <| w_callP <| a_cons <| w_var rfl <| a_nil ⟨a, rfl, a4, fun y1 hy1 => w_var rfl ⟨(y1, ws), rfl, ?_, fun z1 hz1 => ?_⟩⟩
          · rw [show y1 = a from hy1]; exact ⟨a4, wz⟩
          refine a_cons <| w_ownI <| w_callP <| a_cons <| w_var rfl <| a_nil ⟨b, rfl, b4, fun y2 hy2 => w_var rfl ⟨(y2, ws), rfl, ?_, fun z2 hz2 => ?_⟩⟩
          · rw [show y2 = b from hy2]; exact ⟨b4, wz⟩
          have hz1 : z1 = addI a ws := by rw [show z1 = addI y1 ws from hz1, show y1 = a from hy1]
          have hz2 : z2 = addI b ws := by rw [show z2 = addI y2 ws from hz2, show y2 = b from hy2]
          refine a_nil ⟨(addI a ws, addI b ws), by rw [hz1, hz2], ⟨(addI_sz sa0 ws1 ws2).mono (by decide), (addI_sz sb0 ws1 ws2).mono (by decide)⟩, fun t3 ht3 => a_nil ⟨t3, rfl, trivial, fun y hy => ?_⟩, fun e he => absurd (addI_below hlt) he.1⟩
          have ht3 : Simp (addI a ws) (addI b ws) t3 := ht3.2
          obtain ⟨m1, m2⟩ := KSimp.Sm.uniq ht3 (shiftS (w := ws) (addI_num a ws) (addI_den a ws) (addI_num b ws) (addI_den b ws) ht)
          refine w_pr <| w_op0 o_int <| w_fst (R := rInt) (S := rInt) <| w_var rfl <| w_op o_intC <| w_var rfl <| w_snd (R := rInt) (S := rInt) <| w_var rfl ⟨cm (wz.log (by decide)) (t4.den (by decide)), w_snd (R := rInt) (S := rInt) <| w_var rfl ⟨fun e => ?_, fun _ => s_next ?_⟩⟩
          · have e1 : pq y = ((pq t).1 + ws * (pq t).2, (pq t).2) := by
              rw [show y = t3 from hy]
              exact Prod.ext m1 m2
            rw [decide_eq_true e1] at e
            cases e
          -- turned about
          refine s_seq <| s_if <| t_test <| w_op0 o_neI <| w_fld T.cls T.no_bottom <| w_callX rfl <| a_cons <| w_ownU <| w_callP <| a_cons <| w_var rfl <| a_nil ⟨b, rfl, b4, fun y1 hy1 => ⟨y1, rfl, by rw [show y1 = b from hy1]; exact b4, fun v1 hv1 => a_cons <| w_ownU <| w_callP <| a_cons <| w_var rfl <| a_nil ⟨a, rfl, a4, fun y2 hy2 => ⟨y2, rfl, by rw [show y2 = a from hy2]; exact a4, fun v2 hv2 => ?_⟩⟩⟩⟩
          rw [show y1 = b from hy1] at hv1
          rw [show y2 = a from hy2] at hv2
          refine a_nil ⟨(v1, v2), rfl, ⟨neg_sz sb hv1, neg_sz sa hv2⟩, fun t5 ht5 => ⟨_, rfl, w_snd (R := rInt) (S := rInt) <| w_var rfl ⟨fun e => ?_, fun _ => s_next ?_⟩⟩, fun e he => absurd (neg_below hlt hv2 hv1) he.1⟩
          · have e1 : (t5.den : Int) = (pq t).2 := turned hv2.1 hv2.2 hv1.1 hv1.2 ht ht5.2
            rw [show (!decide ((t5.den : Int) = (pq t).2)) = false by rw [decide_eq_true e1]; rfl] at e
            cases e
          -- nothing between
          have nAA : ¬ below a a := fun z => Int.lt_irrefl _ z
          have nBA : ¬ below b a := fun z => Int.lt_irrefl _ (Int.lt_trans z hlt)
          refine s_if <| t_or <| t_test <| w_op0 (o_neD (dat_tup dat_nm) (by decide) (eq_tup eq_nm)) <| w_heard (XP := fun e k => e = eNothing K ∧ k = n8) (Post1 := fun _ _ => False) (U := rTup K rNm) pure_pen (fun e k he => ⟨he.1, [("Nothing" : Str)], ?_, fun G v h => h⟩) (fun E => w_callX rfl <| a_cons <| w_callP <| a_cons <| w_var rfl <| a_nil ⟨a, rfl, a4, fun y1 hy1 => a_cons <| w_callP <| a_cons <| w_var rfl <| a_nil ⟨a, rfl, a4, fun y2 hy2 => a_nil ⟨(y1, y2), rfl, ?_, fun t6 ht6 => ?_, fun e he => ⟨he.2, rfl⟩⟩⟩⟩) (fun _ _ z => z.elim)
          rotate_left
          · rw [show y1 = a from hy1, show y2 = a from hy2]; exact ⟨sa, sa⟩
          · rw [show y1 = a from hy1, show y2 = a from hy2] at ht6; exact nAA ht6.1
          obtain ⟨_, hk⟩ := he
          subst k
          refine w_tup <| a_cons <| w_nm <| a_nil ⟨[("Nothing" : Str)], rfl, by show 1 ≤ bigN; decide, fun _ => ?_, fun z => ?_⟩
          rotate_left
          · rw [decide_eq_true rfl] at z; cases z
          refine t_test <| w_op0 (o_neD (dat_tup dat_nm) (by decide) (eq_tup eq_nm)) <| w_heard (XP := fun e k => e = eNothing K ∧ k = n8) (Post1 := fun _ _ => False) (U := rTup K rNm) pure_pen (fun e k he => ⟨he.1, [("Nothing" : Str)], ?_, fun G v h => h⟩) (fun E => w_callX rfl <| a_cons <| w_callP <| a_cons <| w_var rfl <| a_nil ⟨b, rfl, b4, fun y1 hy1 => a_cons <| w_callP <| a_cons <| w_var rfl <| a_nil ⟨a, rfl, a4, fun y2 hy2 => a_nil ⟨(y1, y2), rfl, ?_, fun t6 ht6 => ?_, fun e he => ⟨he.2, rfl⟩⟩⟩⟩) (fun _ _ z => z.elim)
          rotate_left
          · rw [show y1 = b from hy1, show y2 = a from hy2]; exact ⟨sb, sa⟩
          · rw [show y1 = b from hy1, show y2 = a from hy2] at ht6; exact nBA ht6.1
          obtain ⟨_, hk⟩ := he
          subst k
          refine w_tup <| a_cons <| w_nm <| a_nil ⟨[("Nothing" : Str)], rfl, by show 1 ≤ bigN; decide, fun z => ?_, fun _ => s_next ⟨rfl, rfl, rfl, by omega, by omega⟩⟩
          rw [decide_eq_true rfl] at z; cases z
        · rintro Γ' n' ⟨h1, h2, h3, h4, h5⟩
          exact ⟨h1, h2, h3, h4, by have : (rangeL 0 (24 : Int).toNat).length = 24 := by decide
                                    omega⟩
      rintro Γ1 n1 ⟨e0, e1, e2, e3, e4⟩
      obtain ⟨g, rfl⟩ := in14 e0 e1 e2
      -- the two about a third
      refine s_seq <| s_inT pure_pen <| s_set <| w_op0 o_int <| w_int <| w_callS I <| a_cons <| w_var rfl <| a_cons <| w_int <| a_nil ⟨50, rfl, fit (by omega) (by omega) (by decide +kernel), fun v n2 hv => ?_⟩
      obtain ⟨_, v1, v2, _⟩ := hv
      have v2 := v2 (by decide)
      refine s_seq <| s_set <| w_int ?_
      refine s_mid (fun Γ2 n3 => ∃ (k : Nat) (o13 : Option Ent), 1 ≤ k ∧ k ≤ 50 ∧ Γ2 = [some (.mk (rSql K rInt) l), some (.mk (rPen K I) ()), g 2, g 3, g 4, g 5, g 6, g 7, g 8, g 9, g 10, some (.mk rInt (1 + v)), some (.mk rInt (10 ^ k)), o13]) ?_ ?_
      · refine s_for (is := [13]) <| i_range <| a_cons <| w_var rfl <| a_nil ⟨1 + v, rfl, by omega, by omega, fun pre Γ2 n3 => ∃ o13 : Option Ent, Γ2 = [some (.mk (rSql K rInt) l), some (.mk (rPen K I) ()), g 2, g 3, g 4, g 5, g 6, g 7, g 8, g 9, g 10, some (.mk rInt (1 + v)), some (.mk rInt (10 ^ pre.length)), o13], ⟨_, rfl⟩, ?_, ?_⟩
        · rintro pre x post Γ' n' hl ⟨o13, rfl⟩
          have hp : pre.length < (1 + v).toNat := turn_lt hl
          refine tg_name <| s_set <| w_op o_intC <| w_var rfl <| w_int ⟨.inr ⟨by decide, by decide⟩, ?_⟩
          exact ⟨_, by rw [show (pre ++ [x]).length = pre.length + 1 by simp, Int.pow_succ]; rfl⟩
        · rintro Γ' n' ⟨o13, rfl⟩
          refine ⟨(1 + v).toNat, o13, by omega, by omega, ?_⟩
          have : (rangeL 0 (1 + v).toNat).length = (1 + v).toNat := by unfold rangeL; rw [List.length_map, List.length_range]
          rw [this]
      rintro Γ2 n3 ⟨k, o13, k1, k2, rfl⟩
      generalize hN : (10 : Int) ^ k = N
      have N1 : 10 ≤ N := by
        obtain ⟨j, rfl⟩ : ∃ j, k = j + 1 := ⟨k - 1, by omega⟩
        rw [Int.pow_succ] at hN
        have : (0 : Int) < 10 ^ j := Int.pow_pos (by decide)
        omega
      have N2 : N ≤ 10 ^ 50 := by
        rw [← hN]
        have h := Nat.pow_le_pow_right (show 0 < 10 by decide) k2
        have e1 : ((10 ^ k : Nat) : Int) = 10 ^ k := by simp
        have e2 : ((10 ^ 50 : Nat) : Int) = 10 ^ 50 := by simp
        rw [← e1, ← e2]
        exact Int.ofNat_le.mpr h
      have i50 : (10 : Int) ^ 50 = 100000000000000000000000000000000000000000000000000 := by decide +kernel
      have i180 : (2 : Nat) ^ 180 = 1532495540865888858358347027150309183618739122183602176 := by decide +kernel
      rw [i50] at N2
      have lg3 : (3 * N).natAbs.log2 < 9000 := log_le (by decide) (Nat.lt_of_lt_of_le (show (3 * N).natAbs < 2 ^ 180 by rw [i180]; omega) (pow_lt (by decide)))
      refine s_seq <| s_asg (is := [4] ++ [6]) (R := rPr K (rRat C) (rRat C)) <| w_pr <| w_ratio <| a_cons <| w_op0 o_int <| w_var rfl <| w_int <| a_cons <| w_op o_intC <| w_int <| w_var rfl ⟨.inl ⟨by decide, by decide⟩, a_nil ⟨_, _, rfl, ⟨by omega, lg3⟩, w_ratio <| a_cons <| w_op0 o_int <| w_var rfl <| w_int <| a_cons <| w_op o_intC <| w_int <| w_var rfl ⟨.inl ⟨by decide, by decide⟩, a_nil ⟨_, _, rfl, ⟨by omega, lg3⟩, ?_⟩⟩⟩⟩
      obtain ⟨q1, q2, q3⟩ := third_of (a := Rat.divInt (N - 1) (3 * N)) (b := Rat.divInt (N + 1) (3 * N)) N1 (cross (by omega)) (cross (by omega))
      have sa : Sz 180 (Rat.divInt (N - 1) (3 * N)) := low_sz (by omega) (by rw [i180]; omega) (by rw [i180]; omega)
      have sb : Sz 180 (Rat.divInt (N + 1) (3 * N)) := low_sz (by omega) (by rw [i180]; omega) (by rw [i180]; omega)
      generalize Rat.divInt (N - 1) (3 * N) = a at *
      generalize Rat.divInt (N + 1) (3 * N) = b at *
      refine tg_pair (R := rRat C) (S := rRat C) <| tg_name <| tg_name ?_
      have s3 : Sz 320 third := ⟨by rw [third_num]; exact Nat.lt_of_lt_of_le (show (1 : Int).natAbs < 2 ^ 1 by decide) (pow_lt (by decide)), by rw [third_den]; exact Nat.lt_of_lt_of_le (show 3 < 2 ^ 2 by decide) (pow_lt (by decide))⟩
      have sb3 : Sz 320 b := sb.mono (by decide)
      refine s_ret <| w_andV <| w_ownB <| w_callX rfl <| a_cons <| w_var rfl <| a_cons <| w_var rfl <| a_nil ⟨(a, b), rfl, ⟨sa.mono (by decide), sb3⟩, fun t ht => w_ratio <| a_cons <| w_int <| a_cons <| w_int <| a_nil ⟨1, 3, rfl, ⟨by decide, by decide⟩, ⟨(t, third), rfl, trivial, fun z hz => ⟨fun _ => ?_, fun e => ?_⟩⟩⟩, fun e he => absurd q1 he.1⟩
      rotate_left
      · rw [show z = decide (t = third) from hz, decide_eq_true (ht.2.uniq q2)] at e
        cases e
      refine w_op0 (o_eqD (dat_pr dat_int dat_int) (by decide) (eq_pr eq_int eq_int)) <| w_qp <| w_callP <| a_cons <| w_callX rfl <| a_cons <| w_ratio <| a_cons <| w_int <| a_cons <| w_int <| a_nil ⟨1, 3, rfl, ⟨by decide, by decide⟩, a_cons <| w_var rfl <| a_nil ⟨(third, b), rfl, ⟨s3, sb3⟩, fun t2 ht2 => a_nil ⟨t2, rfl, trivial, fun y hy => ?_⟩, fun e he => absurd q3 he.1⟩⟩
      refine w_callP <| a_cons <| w_pq <| w_pr <| w_int <| w_int ⟨third, Prod.ext third_num.symm (by show (3 : Int) = (third.den : Int); rw [third_den]; rfl), a_cons <| w_callP <| a_cons <| w_var rfl <| a_nil ⟨b, rfl, trivial, fun y2 hy2 => a_nil ⟨(third, y2), rfl, ?_, fun r hr => ?_⟩⟩⟩
      · rw [show y2 = b from hy2]; exact ⟨⟨s3, sb3⟩, q3⟩
      · rw [show y2 = b from hy2] at hr
        obtain ⟨m1, m2⟩ := KSimp.Sm.uniq (show Sm third b t2.num (t2.den : Int) from ht2.2) (show Sm third b r.1 r.2 from hr)
        show decide (pq y = r) = true
        rw [show y = t2 from hy]
        exact decide_eq_true (Prod.ext m1 m2)⟩
end
end K04
end

-- part K04Z
section
set_option Elab.async false
set_option linter.all false
set_option maxRecDepth 100000
set_option maxHeartbeats 0
open PySem PySem.W PySem.Calls PyProof.Rows
theorem PySem.Challenge.cw_longchances_k04_f_whole_between_by_halvi_holds : PySem.Challenge.rw_longchances_k04_f_whole_between_by_halvi.Holds := by
  w_on; o_law
  refine HandSHeadRun.head_imp (r := OpenLaw.row PySem.Challenge.rw_longchances_k04_f_whole_between_by_halvi) (q := view (OpenLaw.row PySem.Challenge.rw_longchances_k04_f_whole_between_by_halvi).prog [0, 58]) (H := K04.hk) (ob := K04.ob) (M := 30000) (loose := K04.loose) (d := HandSHeadRun.topDef (OpenLaw.row PySem.Challenge.rw_longchances_k04_f_whole_between_by_halvi).prog 58) (kwd := []) K04.ob_eq K04.run
    (by kernel_rfl) (by kernel_rfl) (by kernel_rfl) (by rfl) (by first | assumption | decide +kernel) (by decide +kernel) ⟨rfl, rfl, rfl, rfl, rfl, by decide +kernel⟩ ?hw ?hc
  case hw => w_witness2
  case hc =>
    refine L2.Lc.walkGT (l := PySem.Challenge.rw_longchances_k04_f_whole_between_by_halvi) (n := 63) (k := 9) (x := "script") rfl (by decide) (by kernel_rfl) ⟨rfl, by decide, by decide⟩ ?F
    intro w mg fa h Y G hmg0
    obtain ⟨K, KX, c⟩ := Y
    have hmg : mg ("law" : PySem.Str) = some (.ref fa) := by
      have e : (HandSHeadRun.topDef (OpenLaw.row PySem.Challenge.rw_longchances_k04_f_whole_between_by_halvi).prog 58).name = ("law" : PySem.Str) := by kernel_rfl
      rw [← e]
      exact hmg0
    obtain ⟨fd, F⟩ := c.t.d.def_ 18 rfl
    have hga := He.glo_ok KX G (c.t.d.fact 18 (f := .glo "law") rfl)
    rw [hmg] at hga
    cases hga
    have hm : (("law", none) : He.Defn) ∈ K04.tf := List.mem_cons_self
    have b := L2.FunD.bindsA (ps := ["script"]) F fun _ _ _ _ _ _ us hl => match us, hl with | [_], _ => rfl
    exact ⟨K, fd, L2.Lc.spT K (K04.tabs K), (He.cT K ("law", none)).1, (He.cT K ("law", none)).2, KX, c.empty _ hm, c.out _ hm, PySem.W.codeHd_of_K KX (c.hd _ hm), fun s v => b s [v] rfl, fun H a ns hl hO na hS => L2.Lc.spT_of rfl hl hO na hS, fun base X2 G2 TB => K04.c_law (K04.tx X2 G2 c) TB F⟩
end
