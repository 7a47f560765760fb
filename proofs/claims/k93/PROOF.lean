import PyProof.Rows.All
import Wide.All
import OpenK.AllK
import Wide.FinOn
import HandS.Base
import HandS.Call
import HandS.List
import HandS.Comp
import HandS.Ends
import HandS.Dict
import HandS.Iter
import HandS.Text
import HandS.More
import HandS.Exc
import HandS.Evl
import HandS.TupAny
import HandS.TupMul
import HandS.Conv
import HandS.IsInst
import HandS.FStr
import HandS.Style
import HandS.StrMore
import HandS.StrSplit
import HandS.Wide
import HandS.Deep
import PyProof.ReprReads
import KE.SortData
import PyProof.ReprRoads
import KE.IntTextLaws
import HandS.Walk
import HandS.Defaults
import HandS.HeadEnd
import PyProof.FString3
import PyProof.Rows.StrIntSpec
import HandS.Words
import HandS.WordsExc
import HandS.Head0
import HandS.Head1
import HandS.Head2
import HandS.HeadHook1
import HandS.HeadHook2
import PyProof.SliceSyntax
import PyProof.P3Eq
import KE.KStateDown
import Lean
import PySem.Challenge.RW_marchhouse_k93_any_device_as_a_store
set_option Elab.async false
set_option linter.all false
set_option maxRecDepth 100000
set_option maxHeartbeats 2000000
namespace Pd
open PySem L2
open Evl (Ex Ex.refl Ex.trans ex_rd ex_l ex_t)

/-! ### data and how the heap bears it -/
abbrev D := PyData
section
variable (K : PySem.W.Frag)
mutual
def Rep (H : Hp) : D → V → Prop
  | .none, v => v = .non
  | .bool b, v => v = .bl b
  | .int i, v => v = .int i
  | .str s, v => v = .str s
  | .list ds, v => ∃ a xs, v = .ref a ∧ H a = some (.lst xs) ∧ Reps H ds xs
  | .tuple ds, v => ∃ a xs, v = .ref a ∧ SqT K H a xs ∧ Reps H ds xs
  | .dict kvs, v => ∃ a xs, v = .ref a ∧ H a = some (.dK xs) ∧ RepK H kvs xs
def Reps (H : Hp) : List D → List V → Prop
  | [], xs => xs = []
  | d :: ds, xs => ∃ x r, xs = x :: r ∧ Rep H d x ∧ Reps H ds r
def RepK (H : Hp) : List (D × D) → List (Key × V) → Prop
  | [], xs => xs = []
  | (k, d) :: r, xs => ∃ s x t, xs = (.inr s, x) :: t ∧ k = .str s ∧ Rep H d x ∧ RepK H r t
end
end
section
variable {K : PySem.W.Frag} {H H' : Hp}
mutual
theorem Rep.ex (e : Ex H H') : ∀ (d : D) (v : V), Rep K H d v → Rep K H' d v
  | .none, v, h => h
  | .bool b, v, h => h
  | .int i, v, h => h
  | .str s, v, h => h
  | .list ds, v, h => by
    obtain ⟨a, xs, h1, h2, h3⟩ := h
    exact ⟨a, xs, h1, e a _ h2, Reps.ex e ds xs h3⟩
  | .tuple ds, v, h => by
    obtain ⟨a, xs, h1, h2, h3⟩ := h
    exact ⟨a, xs, h1, ex_t e h2, Reps.ex e ds xs h3⟩
  | .dict kvs, v, h => by
    obtain ⟨a, xs, h1, h2, h3⟩ := h
    exact ⟨a, xs, h1, e a _ h2, RepK.ex e kvs xs h3⟩
theorem Reps.ex (e : Ex H H') : ∀ (ds : List D) (xs : List V), Reps K H ds xs → Reps K H' ds xs
  | [], xs, h => h
  | d :: ds, xs, h => by
    obtain ⟨x, r, h1, h2, h3⟩ := h
    exact ⟨x, r, h1, Rep.ex e d x h2, Reps.ex e ds r h3⟩
theorem RepK.ex (e : Ex H H') : ∀ (ds : List (D × D)) (xs : List (Key × V)), RepK K H ds xs → RepK K H' ds xs
  | [], xs, h => h
  | (k, d) :: ds, xs, h => by
    obtain ⟨s, x, r, h1, h2, h3, h4⟩ := h
    exact ⟨s, x, r, h1, h2, Rep.ex e d x h3, RepK.ex e ds r h4⟩
end
theorem Reps.len : ∀ {ds : List D} {xs : List V}, Reps K H ds xs → ds.length = xs.length
  | [], _, h => by rw [show _ = [] from h]; rfl
  | d :: ds, _, h => by
    obtain ⟨x, r, rfl, _, h3⟩ := h
    rw [List.length_cons, List.length_cons, Reps.len h3]
theorem Reps.get : ∀ {ds : List D} {xs : List V} {i : Nat} {d : D}, Reps K H ds xs → ds[i]? = some d → ∃ x, xs[i]? = some x ∧ Rep K H d x
  | [], _, _, _, _, e => by simp at e
  | d :: ds, _, 0, _, h, e => by
    obtain ⟨x, r, rfl, h2, _⟩ := h
    simp at e
    subst e
    exact ⟨x, rfl, h2⟩
  | d :: ds, _, i + 1, _, h, e => by
    obtain ⟨x, r, rfl, _, h3⟩ := h
    obtain ⟨y, h4, h5⟩ := Reps.get (i := i) h3 (by simpa using e)
    exact ⟨y, by simpa using h4, h5⟩
theorem Reps.append : ∀ {ds es : List D} {xs ys : List V}, Reps K H ds xs → Reps K H es ys → Reps K H (ds ++ es) (xs ++ ys)
  | [], _, _, _, h, g => by rw [show _ = [] from h]; exact g
  | d :: ds, _, _, _, h, g => by
    obtain ⟨x, r, rfl, h2, h3⟩ := h
    exact ⟨x, _, rfl, h2, Reps.append h3 g⟩
theorem Reps.take : ∀ {ds : List D} {xs : List V} (n : Nat), Reps K H ds xs → Reps K H (ds.take n) (xs.take n)
  | _, _, 0, _ => by rw [List.take_zero, List.take_zero]; rfl
  | [], _, n + 1, h => by rw [show _ = [] from h]; rfl
  | d :: ds, _, n + 1, h => by
    obtain ⟨x, r, rfl, h2, h3⟩ := h
    exact ⟨x, _, rfl, h2, Reps.take n h3⟩
theorem Reps.drop : ∀ {ds : List D} {xs : List V} (n : Nat), Reps K H ds xs → Reps K H (ds.drop n) (xs.drop n)
  | _, _, 0, h => h
  | [], _, n + 1, h => by rw [show _ = [] from h]; rfl
  | d :: ds, _, n + 1, h => by
    obtain ⟨x, r, rfl, h2, h3⟩ := h
    exact Reps.drop n h3
theorem Reps.set {d : D} {x : V} (hd : Rep K H d x) : ∀ {ds : List D} {xs : List V} (i : Nat), Reps K H ds xs → Reps K H (ds.set i d) (xs.set i x)
  | [], _, _, h => by rw [show _ = [] from h]; rfl
  | e :: ds, _, 0, h => by
    obtain ⟨y, r, rfl, h2, h3⟩ := h
    exact ⟨x, _, rfl, hd, h3⟩
  | e :: ds, _, i + 1, h => by
    obtain ⟨y, r, rfl, h2, h3⟩ := h
    exact ⟨y, _, rfl, h2, Reps.set hd i h3⟩
theorem Reps.rev : ∀ {ds : List D} {xs : List V}, Reps K H ds xs → Reps K H ds.reverse xs.reverse
  | [], _, h => by rw [show _ = [] from h]; rfl
  | d :: ds, _, h => by
    obtain ⟨x, r, rfl, h2, h3⟩ := h
    rw [List.reverse_cons, List.reverse_cons]
    exact Reps.append (Reps.rev h3) ⟨x, [], rfl, h2, rfl⟩
theorem Reps.one {d : D} {x : V} (h : Rep K H d x) : Reps K H [d] [x] := ⟨x, [], rfl, h, rfl⟩
theorem Reps.cons {d : D} {x : V} {ds : List D} {xs : List V} (h : Rep K H d x) (g : Reps K H ds xs) : Reps K H (d :: ds) (x :: xs) := ⟨x, xs, rfl, h, g⟩

/-! ### results, slots, environments -/
inductive Ar where
  | d (x : D)
  | o (x : D)
def Ar.x : Ar → D
  | .d x => x
  | .o x => x
inductive Sl where
  | u
  | d (x : D)
  | o (x : D)
  | s (ns : List Int)
abbrev Env := List Sl
structure Xc where
  cls : Str
  fs : List (Str × D)
inductive Rs (α : Type) where
  | ok (a : α) (e : Env)
  | ex (x : Xc) (e : Env)
  | bad
def Rs.bind {α β : Type} (r : Rs α) (f : α → Env → Rs β) : Rs β := match r with
  | .ok a e => f a e
  | .ex x e => .ex x e
  | .bad => .bad
/-- a list or dict of its own at a: its items are known to G -/
def ORep (K : PySem.W.Frag) (G H : Hp) (x : D) (a : Addr) : Prop := match x with
  | .list ds => ∃ xs, H a = some (.lst xs) ∧ Reps K G ds xs
  | .dict kvs => ∃ xs, H a = some (.dK xs) ∧ RepK K G kvs xs
  | _ => False
theorem ORep.ex {G G' H : Hp} {x : D} {a : Addr} (e : Ex G G') (h : ORep K G H x a) : ORep K G' H x a := by
  cases x with
  | list ds => obtain ⟨xs, h1, h2⟩ := h; exact ⟨xs, h1, Reps.ex e _ _ h2⟩
  | dict ds => obtain ⟨xs, h1, h2⟩ := h; exact ⟨xs, h1, RepK.ex e _ _ h2⟩
  | _ => exact h.elim
theorem ORep.at {G H H' : Hp} {x : D} {a : Addr} (e : H' a = H a) (h : ORep K G H x a) : ORep K G H' x a := by
  cases x with
  | list ds => obtain ⟨xs, h1, h2⟩ := h; exact ⟨xs, e.trans h1, h2⟩
  | dict ds => obtain ⟨xs, h1, h2⟩ := h; exact ⟨xs, e.trans h1, h2⟩
  | _ => exact h.elim
theorem ORep.some {G H : Hp} {x : D} {a : Addr} (h : ORep K G H x a) : ∃ o, H a = some o := by
  cases x with
  | list ds => obtain ⟨xs, h1, h2⟩ := h; exact ⟨_, h1⟩
  | dict ds => obtain ⟨xs, h1, h2⟩ := h; exact ⟨_, h1⟩
  | _ => exact h.elim
/-- the object at a becomes known -/
def frz (G H : Hp) (a : Addr) : Hp := fun b => if b = a then H a else G b
theorem frz_same {G H : Hp} {a : Addr} : frz G H a a = H a := by unfold frz; rw [if_pos rfl]
theorem frz_ne {G H : Hp} {a b : Addr} (h : b ≠ a) : frz G H a b = G b := by unfold frz; rw [if_neg h]
theorem frz_ex {G H : Hp} {a : Addr} (h : G a = none) : Ex G (frz G H a) := fun b o e => by
  rw [frz_ne (ne_of_none e h)]
  exact e
theorem frz_in {G H : Hp} {a : Addr} (e : Ex G H) : Ex (frz G H a) H := fun b o h => by
  by_cases hb : b = a
  · subst hb; rw [frz_same] at h; exact h
  · rw [frz_ne hb] at h; exact e b o h
theorem ORep.frz {G H : Hp} {x : D} {a : Addr} (hn : G a = none) (h : ORep K G H x a) : Rep K (frz G H a) x (.ref a) := by
  cases x with
  | list ds =>
    obtain ⟨xs, h1, h2⟩ := h
    exact ⟨a, xs, rfl, frz_same.trans h1, Reps.ex (frz_ex hn) _ _ h2⟩
  | dict ds =>
    obtain ⟨xs, h1, h2⟩ := h
    exact ⟨a, xs, rfl, frz_same.trans h1, RepK.ex (frz_ex hn) _ _ h2⟩
  | _ => exact h.elim
end

/-! ### the state -/
/-- a slot with the script: a list of ints that is read alone -/
def ScrOk (K : PySem.W.Frag) (G : Hp) (env : Env) (σ : L2.St) : Prop := ∀ (i : Nat) ns, env[i]? = some (.s ns) → ∃ a, σ[i]? = some (some (V.ref a)) ∧ SqL K G a (ns.map V.int)
def Sl.plain : Sl → Bool
  | .s _ => false
  | _ => true
section
variable {K : PySem.W.Frag} {G G' : Hp} {env : Env} {σ : L2.St} {i : Nat} {z : Sl} {w : Option V}
theorem ScrOk.ex (e : Ex G G') (h : ScrOk K G env σ) : ScrOk K G' env σ := fun i ns q => by
  obtain ⟨a, h1, h2⟩ := h i ns q
  exact ⟨a, h1, Evl.ex_l e h2⟩
theorem ScrOk.set (hz : z.plain = true) (h : ScrOk K G env σ) : ScrOk K G (env.set i z) (σ.set i w) := fun j ns q => by
  by_cases e : i = j
  · subst e
    by_cases hi : i < env.length
    · rw [List.getElem?_set_self hi] at q; cases q; cases hz
    · rw [List.getElem?_eq_none (by simpa using hi)] at q; cases q
  · rw [List.getElem?_set_ne e] at q ⊢
    exact h j ns q
theorem ScrOk.setE (hz : z.plain = true) (h : ScrOk K G env σ) : ScrOk K G (env.set i z) σ := fun j ns q => by
  by_cases e : i = j
  · subst e
    by_cases hi : i < env.length
    · rw [List.getElem?_set_self hi] at q; cases q; cases hz
    · rw [List.getElem?_eq_none (by simpa using hi)] at q; cases q
  · rw [List.getElem?_set_ne e] at q
    exact h j ns q
end
structure SI (K : PySem.W.Frag) (Bn G H : Hp) (env : Env) (σ : L2.St) : Prop where
  ex : Ex G H
  bx : Ex Bn H
  dj : ∀ a, Bn a ≠ none → G a = none
  len : env.length = σ.length
  dat : ∀ (i : Nat) x, env[i]? = some (.d x) → ∃ v, σ[i]? = some (some v) ∧ Rep K G x v
  own : ∀ (i : Nat) x, env[i]? = some (.o x) → ∃ a, σ[i]? = some (some (V.ref a)) ∧ G a = none ∧ Bn a = none ∧ ORep K G H x a
  sep : ∀ (i j : Nat) x y a, i ≠ j → env[i]? = some (.o x) → env[j]? = some (.o y) → σ[i]? = some (some (V.ref a)) → σ[j]? ≠ some (some (V.ref a))
  scr : ScrOk K G env σ
/-- a fresh list or dict at a, none of the slots' -/
structure Own (K : PySem.W.Frag) (Bn G H : Hp) (env : Env) (σ : L2.St) (x : D) (a : Addr) : Prop where
  g : G a = none
  b : Bn a = none
  r : ORep K G H x a
  s : ∀ (i : Nat) y, env[i]? = some (.o y) → σ[i]? ≠ some (some (V.ref a))
def Res (K : PySem.W.Frag) (Bn G H : Hp) (env : Env) (σ : L2.St) : Ar → V → Prop
  | .d x, v => Rep K G x v
  | .o x, v => ∃ a, v = .ref a ∧ Own K Bn G H env σ x a
section
variable {K : PySem.W.Frag} {Bn G G' H H' : Hp} {env env' : Env} {σ σ' : L2.St}
theorem SI.setD {i : Nat} {x : D} {v : V} (S : SI K Bn G H env σ) (hr : Rep K G x v) (hi : i < env.length) : SI K Bn G H (env.set i (.d x)) (σ.set i (some v)) := by
  have hi2 : i < σ.length := by rw [← S.len]; exact hi
  refine ⟨S.ex, S.bx, S.dj, by simpa using S.len, fun j y h => ?_, fun j y h => ?_, fun j k y z a hn h1 h2 h3 => ?_, S.scr.set rfl⟩
  · by_cases hj : i = j
    · subst hj
      rw [List.getElem?_set_self hi] at h
      cases h
      exact ⟨v, List.getElem?_set_self hi2, hr⟩
    · rw [List.getElem?_set_ne hj] at h ⊢
      exact S.dat j y h
  · by_cases hj : i = j
    · subst hj
      rw [List.getElem?_set_self hi] at h
      cases h
    · rw [List.getElem?_set_ne hj] at h ⊢
      exact S.own j y h
  · have n1 : i ≠ j := fun e => by subst e; rw [List.getElem?_set_self hi] at h1; cases h1
    have n2 : i ≠ k := fun e => by subst e; rw [List.getElem?_set_self hi] at h2; cases h2
    rw [List.getElem?_set_ne n1] at h1 h3
    rw [List.getElem?_set_ne n2] at h2 ⊢
    exact S.sep j k y z a hn h1 h2 h3
theorem SI.setU {i : Nat} {w : Option V} (S : SI K Bn G H env σ) : SI K Bn G H (env.set i .u) (σ.set i w) := by
  by_cases hi : i < env.length
  · refine ⟨S.ex, S.bx, S.dj, by simpa using S.len, fun j y h => ?_, fun j y h => ?_, fun j k y z a hn h1 h2 h3 => ?_, S.scr.set rfl⟩
    · by_cases hj : i = j
      · subst hj; rw [List.getElem?_set_self hi] at h; cases h
      · rw [List.getElem?_set_ne hj] at h ⊢; exact S.dat j y h
    · by_cases hj : i = j
      · subst hj; rw [List.getElem?_set_self hi] at h; cases h
      · rw [List.getElem?_set_ne hj] at h ⊢; exact S.own j y h
    · have n1 : i ≠ j := fun e => by subst e; rw [List.getElem?_set_self hi] at h1; cases h1
      have n2 : i ≠ k := fun e => by subst e; rw [List.getElem?_set_self hi] at h2; cases h2
      rw [List.getElem?_set_ne n1] at h1 h3
      rw [List.getElem?_set_ne n2] at h2 ⊢
      exact S.sep j k y z a hn h1 h2 h3
  · have e1 : env.set i .u = env := List.set_eq_of_length_le (by omega)
    have e2 : σ.set i w = σ := List.set_eq_of_length_le (by have := S.len; omega)
    rw [e1, e2]; exact S
theorem SI.setO {i : Nat} {x : D} {a : Addr} (S : SI K Bn G H env σ) (ho : Own K Bn G H env σ x a) (hi : i < env.length) : SI K Bn G H (env.set i (.o x)) (σ.set i (some (.ref a))) := by
  have hi2 : i < σ.length := by rw [← S.len]; exact hi
  refine ⟨S.ex, S.bx, S.dj, by simpa using S.len, fun j y h => ?_, fun j y h => ?_, fun j k y z b hn h1 h2 h3 => ?_, S.scr.set rfl⟩
  · by_cases hj : i = j
    · subst hj; rw [List.getElem?_set_self hi] at h; cases h
    · rw [List.getElem?_set_ne hj] at h ⊢; exact S.dat j y h
  · by_cases hj : i = j
    · subst hj
      rw [List.getElem?_set_self hi] at h
      cases h
      exact ⟨a, List.getElem?_set_self hi2, ho.g, ho.b, ho.r⟩
    · rw [List.getElem?_set_ne hj] at h ⊢; exact S.own j y h
  · by_cases n1 : i = j
    · subst n1
      rw [List.getElem?_set_self hi2] at h3
      cases h3
      rw [List.getElem?_set_ne hn] at h2 ⊢
      exact ho.s k z h2
    · by_cases n2 : i = k
      · subst n2
        rw [List.getElem?_set_ne n1] at h1 h3
        rw [List.getElem?_set_self hi2]
        intro e
        cases e
        exact ho.s j y h1 h3
      · rw [List.getElem?_set_ne n1] at h1 h3
        rw [List.getElem?_set_ne n2] at h2 ⊢
        exact S.sep j k y z b hn h1 h2 h3
/-- an own object becomes known: a fresh one -/
theorem SI.frzA {x : D} {a : Addr} (S : SI K Bn G H env σ) (ho : Own K Bn G H env σ x a) : SI K Bn (frz G H a) H env σ := by
  refine ⟨frz_in S.ex, S.bx, fun b hb => ?_, S.len, fun j y h => ?_, fun j y h => ?_, S.sep, S.scr.ex (frz_ex ho.g)⟩
  · rw [frz_ne (fun e => hb (by rw [e]; exact ho.b))]
    exact S.dj b hb
  · obtain ⟨v, h1, h2⟩ := S.dat j y h
    exact ⟨v, h1, Rep.ex (frz_ex ho.g) _ _ h2⟩
  · obtain ⟨b, h1, h2, h3, h4⟩ := S.own j y h
    have hne : b ≠ a := fun e => ho.s j y h (by rw [← e]; exact h1)
    exact ⟨b, h1, by rw [frz_ne hne]; exact h2, h3, ORep.ex (frz_ex ho.g) h4⟩
/-- an own slot's object becomes known -/
theorem SI.frzS {i : Nat} {x : D} {a : Addr} (S : SI K Bn G H env σ) (h : env[i]? = some (.o x)) (ha : σ[i]? = some (some (V.ref a))) : SI K Bn (frz G H a) H (env.set i (.d x)) σ ∧ Rep K (frz G H a) x (.ref a) ∧ Ex G (frz G H a) := by
  obtain ⟨a', h1, h2, h3, h4⟩ := S.own i x h
  rw [ha] at h1
  cases h1
  have hi : i < env.length := (List.getElem?_eq_some_iff.mp h).1
  have hr := ORep.frz h2 h4
  refine ⟨⟨frz_in S.ex, S.bx, fun b hb => ?_, by simpa using S.len, fun j y hj => ?_, fun j y hj => ?_, fun j k y z b hn e1 e2 e3 => ?_, (S.scr.ex (frz_ex h2)).setE rfl⟩, hr, frz_ex h2⟩
  · rw [frz_ne (fun e => hb (by rw [e]; exact h3))]
    exact S.dj b hb
  · by_cases hij : i = j
    · subst hij
      rw [List.getElem?_set_self hi] at hj
      cases hj
      exact ⟨_, ha, hr⟩
    · rw [List.getElem?_set_ne hij] at hj
      obtain ⟨v, q1, q2⟩ := S.dat j y hj
      exact ⟨v, q1, Rep.ex (frz_ex h2) _ _ q2⟩
  · by_cases hij : i = j
    · subst hij
      rw [List.getElem?_set_self hi] at hj
      cases hj
    · rw [List.getElem?_set_ne hij] at hj
      obtain ⟨b, q1, q2, q3, q4⟩ := S.own j y hj
      have hne : b ≠ a := fun e => S.sep i j x y a hij h hj ha (by rw [← e]; exact q1)
      exact ⟨b, q1, by rw [frz_ne hne]; exact q2, q3, ORep.ex (frz_ex h2) q4⟩
  · have n1 : i ≠ j := fun e => by subst e; rw [List.getElem?_set_self hi] at e1; cases e1
    have n2 : i ≠ k := fun e => by subst e; rw [List.getElem?_set_self hi] at e2; cases e2
    rw [List.getElem?_set_ne n1] at e1
    rw [List.getElem?_set_ne n2] at e2
    exact S.sep j k y z b hn e1 e2 e3
/-- what an operation on values leaves: all objects stay; what is new is known, or one new list or dict -/
structure Post (K : PySem.W.Frag) (G H : Hp) (r : Ar) (v : V) (G1 H1 : Hp) : Prop where
  gx : Ex G G1
  hx : Ex H H1
  ex : Ex G1 H1
  nw : ∀ a, G1 a ≠ none → G a ≠ none ∨ H a = none
  rs : match r with
    | .d x => Rep K G1 x v
    | .o x => ∃ a, v = .ref a ∧ H a = none ∧ G1 a = none ∧ ORep K G1 H1 x a
theorem SI.post {r : Ar} {v : V} {G1 H1 : Hp} (S : SI K Bn G H env σ) (P : Post K G H r v G1 H1) : SI K Bn G1 H1 env σ ∧ Res K Bn G1 H1 env σ r v := by
  have bn : ∀ a, Bn a ≠ none → H a ≠ none := fun a ha hn => by
    cases e : Bn a with
    | none => exact ha e
    | some o => rw [S.bx a o e] at hn; cases hn
  have fresh : ∀ a, H a ≠ none → G a = none → G1 a = none := fun a h1 h2 => by
    cases e : G1 a with
    | none => rfl
    | some o => rcases P.nw a (by rw [e]; exact fun z => by cases z) with h | h
                · exact absurd h2 h
                · exact absurd h h1
  have S1 : SI K Bn G1 H1 env σ := by
    refine ⟨P.ex, S.bx.trans P.hx, fun a ha => fresh a (bn a ha) (S.dj a ha), S.len, fun j y h => ?_, fun j y h => ?_, S.sep, S.scr.ex P.gx⟩
    · obtain ⟨v, q1, q2⟩ := S.dat j y h
      exact ⟨v, q1, Rep.ex P.gx _ _ q2⟩
    · obtain ⟨a, q1, q2, q3, q4⟩ := S.own j y h
      obtain ⟨o, ho⟩ := q4.some
      have hH : H a ≠ none := by rw [ho]; exact fun z => by cases z
      exact ⟨a, q1, fresh a hH q2, q3, ORep.at (by rw [ho]; exact P.hx a o ho) (ORep.ex P.gx q4)⟩
  refine ⟨S1, ?_⟩
  have rs := P.rs
  cases r with
  | d x => exact rs
  | o x =>
    obtain ⟨a, e, hn, hg, ho⟩ := rs
    refine ⟨a, e, hg, ?_, ho, fun i y hi hs => ?_⟩
    · cases hb : Bn a with
      | none => rfl
      | some o => exact absurd hn (bn a (by rw [hb]; exact fun z => by cases z))
    · obtain ⟨b, q1, q2, q3, q4⟩ := S.own i y hi
      rw [q1] at hs
      cases hs
      obtain ⟨o, ho⟩ := q4.some
      rw [hn] at ho
      cases ho
theorem Post.same {x : D} {v : V} (e : Ex G H) (h : Rep K G x v) : Post K G H (.d x) v G H := ⟨Ex.refl G, Ex.refl H, e, fun _ h => .inl h, h⟩
theorem Post.tup {ds : List D} {xs : List V} {p : Addr} (e : Ex G H) (hp : H p = none) (h : Reps K G ds xs) : Post K G H (.d (.tuple ds)) (.ref p) (upd G p (.tup xs)) (upd H p (.tup xs)) := by
  have gp : G p = none := Evl.fresh_back e hp
  refine ⟨Ex.new gp, Ex.new hp, fun a o ha => ?_, fun a ha => ?_, p, xs, rfl, SqT.of upd_same, Reps.ex (Ex.new gp) _ _ h⟩
  · by_cases hb : a = p
    · subst hb; rw [upd_same] at ha ⊢; exact ha
    · rw [upd_ne hb] at ha ⊢; exact e a o ha
  · by_cases hb : a = p
    · subst hb; exact .inr hp
    · rw [upd_ne hb] at ha; exact .inl ha
theorem Post.lst {ds : List D} {xs : List V} {p : Addr} (e : Ex G H) (hp : H p = none) (h : Reps K G ds xs) : Post K G H (.o (.list ds)) (.ref p) G (upd H p (.lst xs)) :=
  ⟨Ex.refl G, Ex.new hp, e.trans (Ex.new hp), fun a ha => .inl ha, p, rfl, hp, Evl.fresh_back e hp, xs, upd_same, h⟩
theorem Post.dct {ds : List (D × D)} {xs : List (Key × V)} {p : Addr} (e : Ex G H) (hp : H p = none) (h : RepK K G ds xs) : Post K G H (.o (.dict ds)) (.ref p) G (upd H p (.dK xs)) :=
  ⟨Ex.refl G, Ex.new hp, e.trans (Ex.new hp), fun a ha => .inl ha, p, rfl, hp, Evl.fresh_back e hp, xs, upd_same, h⟩
end
end Pd
set_option Elab.async false
set_option linter.all false
set_option maxRecDepth 100000
set_option maxHeartbeats 2000000
namespace Pd
open PySem PySem.Spec PyProof.Rows L2
open Evl (Ex Ex.refl Ex.trans ex_rd ex_l ex_t)

/-! ### operations on values, by data -/
def sz (n : Nat) : Bool := Nat.ble n 1000000
theorem sz_ok {n : Nat} (h : sz n = true) : n ≤ 1000000 := Nat.le_of_ble_eq_true h
theorem sz_line {n : Nat} (h : sz n = true) : n ≤ sizeLine := Nat.le_trans (sz_ok h) (by rw [sizeLine_eq]; decide)
def inR (lo hi i : Int) : Bool := decide (lo ≤ i) && decide (i ≤ hi)
theorem inR_ok {lo hi i : Int} (h : inR lo hi i = true) : lo ≤ i ∧ i ≤ hi := by
  simpa [inR] using h
abbrev two64 : Int := 18446744073709551615
def mkS (l : List Nat) : Str := ⟨l.toArray⟩
def tl (s : Str) : List Nat := s.cps.toList
theorem mkS_tl (s : Str) : mkS (tl s) = s := rfl
theorem tl_mkS (l : List Nat) : tl (mkS l) = l := rfl
theorem len_tl (s : Str) : (tl s).length = s.length := by simp [tl, Str.length]
theorem mkS_app (a b : Str) : mkS (tl a ++ tl b) = a ++ b := by
  refine TL.ext_tl ?_
  rw [TL.tl_append]
  rfl
def binD : Operator → D → D → Option Ar
  | .Add, .int i, .int j => some (.d (.int (i + j)))
  | .Add, .str a, .str b => if sz ((tl a).length + (tl b).length) then some (.d (.str (mkS (tl a ++ tl b)))) else none
  | .Add, .list a, .list b => if sz (a.length + b.length) then some (.o (.list (a ++ b))) else none
  | .Add, .tuple a, .tuple b => if sz (a.length + b.length) then some (.d (.tuple (a ++ b))) else none
  | .Sub, .int i, .int j => some (.d (.int (i - j)))
  | .Mult, .int i, .int j => if inR (-two64) two64 i || inR (-two64) two64 j then some (.d (.int (i * j))) else none
  | .Mult, .str a, .int k => if inR 0 1000000 k && sz ((tl a).length * k.toNat) then some (.d (.str (mkS (List.replicate k.toNat (tl a)).flatten))) else none
  | .Mult, .list a, .int k => if inR 0 1000000 k && sz (a.length * k.toNat) then some (.o (.list (List.replicate k.toNat a).flatten)) else none
  | .Mult, .tuple a, .int k => if inR 2 1000 k && (Nat.ble 1 a.length && Nat.ble a.length 1000) then some (.d (.tuple (List.replicate k.toNat a).flatten)) else none
  | .FloorDiv, .int i, .int j => if inR 1 1073741823 j then some (.d (.int (i / j))) else none
  | .Mod, .int i, .int j => if decide (0 < j) then some (.d (.int (i % j))) else none
  | .Pow, .int i, .int j => if inR 0 1000 j && inR (-two64) two64 i then some (.d (.int (i ^ j.toNat))) else none
  | _, _, _ => none
/-- the reading of a two-place operation by data -/
def rBin (K : PySem.W.Frag) (f : D → D → Option Ar) : R2 := fun x y H Q => ∃ G dx dy r, Ex G H ∧ Rep K G dx x ∧ Rep K G dy y ∧ f dx dy = some r ∧ ∀ v G1 H1, Post K G H r v G1 H1 → Q v H1
section
variable {K : PySem.W.Frag}
theorem Reps.flat {G : Hp} {ds : List D} {xs : List V} (h : Reps K G ds xs) : ∀ n : Nat, Reps K G (List.replicate n ds).flatten (List.replicate n xs).flatten
  | 0 => rfl
  | n + 1 => by
    rw [List.replicate_succ, List.replicate_succ, List.flatten_cons, List.flatten_cons]
    exact Reps.append h (Reps.flat h n)
theorem flat_len {α : Type} (l : List α) : ∀ n : Nat, (List.replicate n l).flatten.length = l.length * n
  | 0 => rfl
  | n + 1 => by rw [List.replicate_succ, List.flatten_cons, List.length_append, flat_len l n, Nat.mul_succ, Nat.add_comm]
end
theorem rep_fold (x : Array Nat) : ∀ (n : Nat) (acc : Array Nat), ((List.replicate n x).foldl (· ++ ·) acc).toList = acc.toList ++ (List.replicate n x.toList).flatten
  | 0, acc => by simp
  | n + 1, acc => by
    rw [List.replicate_succ, List.foldl_cons, rep_fold x n, List.replicate_succ, List.flatten_cons, Array.toList_append, List.append_assoc]
theorem mul_str_ok {prog : Program} {w : World} {A : Around} {E : Value → Shared → Prop} {s : Shared} {x : Str} {k : Int} {t u : Tok} {Q : Value → Shared → Prop} (h0 : 0 ≤ k) (h1 : k ≤ 1000000) (hz : (tl x).length * k.toNat ≤ 1000000)
    (h : ∀ t' tk, Q (.str (mkS (List.replicate k.toNat (tl x)).flatten) t') { s with toks := tk }) : wpAny (model prog w) A (binaryOp .Mult (.str x t) (.int k u)) Q E s := by
  have hl : x.length = (tl x).length := (len_tl x).symm
  have hsl : sizeLine = 16777216 := sizeLine_eq
  have big : ∀ n : Int, 1 ≤ n → n ≤ 1000000 → (9223372036854 : Int) ≤ (2 ^ 63 - 1) / n := fun n a b => by
    rw [Int.le_ediv_iff_mul_le (by omega)]
    have : (9223372036854 : Int) * n ≤ 9223372036854 * 1000000 := Int.mul_le_mul_of_nonneg_left b (by decide)
    omega
  have lenx : 1 ≤ k → (tl x).length ≤ 1000000 := fun hk => by
    have h2 : (tl x).length * 1 ≤ (tl x).length * k.toNat := Nat.mul_le_mul_left _ (by omega)
    omega
  refine PySem.P.mul_str ?_ (fun hk _ => ?_) (fun hk _ => ?_) ?_
  · have e1 : decide (k < -(2 ^ 63 : Int)) = false := decide_eq_false (by omega)
    have e2 : decide (k ≥ 2 ^ 63) = false := decide_eq_false (by omega)
    rw [e1, e2]; rfl
  · have h3 := big k (by omega) h1
    have h4 := lenx (by omega)
    rw [hl]
    omega
  · rw [hl]
    show decide (_ > sizeLine) = false
    exact decide_eq_false (by omega)
  · by_cases hk : k < 1
    · have e : k = 0 := by omega
      subst e
      rw [if_pos hk]
      exact ⟨by decide, h _ _⟩
    · rw [if_neg hk]
      by_cases hv : (k == 1 || x.length == 0) = true
      · rw [if_pos hv]
        have e : mkS (List.replicate k.toNat (tl x)).flatten = x := by
          refine TL.ext_tl ?_
          show (List.replicate k.toNat (tl x)).flatten = tl x
          rcases Bool.or_eq_true_iff.mp hv with q | q
          · have : k = 1 := by simpa using q
            subst this
            simp
          · have h0 : (tl x).length = 0 := by rw [len_tl]; simpa using q
            have : tl x = [] := List.eq_nil_of_length_eq_zero h0
            rw [this]
            simp
        have h' := h t s.toks
        rw [e] at h'
        exact h'
      · rw [if_neg hv]
        have e : (⟨(List.replicate k.toNat x.cps).foldl (· ++ ·) #[]⟩ : Str) = mkS (List.replicate k.toNat (tl x)).flatten := by
          refine TL.ext_tl ?_
          show ((List.replicate k.toNat x.cps).foldl (· ++ ·) #[]).toList = _
          rw [rep_fold]
          rfl
        rw [e]
        refine ⟨?_, h _ _⟩
        show (mkS (List.replicate k.toNat (tl x)).flatten).length ≤ sizeLine
        rw [← len_tl, tl_mkS, flat_len]
        omega
section
variable {X : Cx}
theorem op_bin (op : Operator) : OpR X (binaryOp op) (rBin X.K (binD op)) := by
  intro pins s σ H x y v u Q I rx ry h
  obtain ⟨G, dx, dy, r, e, hx, hy, hf, q⟩ := h
  unfold binD at hf
  split at hf
  · cases hf; cases hx; cases hy
    exact op_add pins s σ H _ _ v u Q I rx ry ⟨_, _, rfl, rfl, q _ _ _ (Post.same e rfl)⟩
  · rename_i a b
    split at hf
    · rename_i hz
      cases hf; cases hx; cases hy
      refine op_add_str pins s σ H _ _ v u Q I rx ry ⟨_, _, rfl, rfl, ?_, ?_⟩
      · have := sz_line hz
        rw [len_tl, len_tl] at this
        exact this
      · rw [← mkS_app]
        exact q _ _ _ (Post.same e rfl)
    · cases hf
  · rename_i a b
    split at hf
    · rename_i hz
      cases hf
      obtain ⟨p, xs, rfl, hp, rp⟩ := hx
      obtain ⟨p2, ys, rfl, hp2, rp2⟩ := hy
      refine op_cat pins s σ H _ _ v u Q I rx ry ⟨p, p2, xs, ys, rfl, rfl, e _ _ hp, e _ _ hp2, ?_, fun k hk => q _ _ _ (Post.lst e hk (Reps.append rp rp2))⟩
      rw [← rp.len, ← rp2.len]
      exact sz_line hz
    · cases hf
  · rename_i a b
    split at hf
    · rename_i hz
      cases hf
      obtain ⟨p, xs, rfl, hp, rp⟩ := hx
      obtain ⟨p2, ys, rfl, hp2, rp2⟩ := hy
      refine op_catA pins s σ H _ _ v u Q I rx ry ⟨p, p2, xs, ys, rfl, rfl, ex_t e hp, ex_t e hp2, ?_, fun h0 => ?_, fun h0 h1 => ?_, fun h0 h1 k hk => q _ _ _ (Post.tup e hk (Reps.append rp rp2))⟩
      · rw [← rp.len, ← rp2.len]
        exact sz_line hz
      · have ha : a = [] := List.eq_nil_of_length_eq_zero (by rw [rp.len, h0]; rfl)
        subst ha
        exact q _ _ _ (Post.same e ⟨p2, ys, rfl, hp2, rp2⟩)
      · have hb : b = [] := List.eq_nil_of_length_eq_zero (by rw [rp2.len, h1]; rfl)
        subst hb
        rw [List.append_nil] at q
        exact q _ _ _ (Post.same e ⟨p, xs, rfl, hp, rp⟩)
    · cases hf
  · cases hf; cases hx; cases hy
    exact op_sub pins s σ H _ _ v u Q I rx ry ⟨_, _, rfl, rfl, q _ _ _ (Post.same e rfl)⟩
  · split at hf
    · rename_i hc
      cases hf; cases hx; cases hy
      refine op_mul pins s σ H _ _ v u Q I rx ry ⟨_, _, rfl, rfl, ?_, q _ _ _ (Post.same e rfl)⟩
      rcases Bool.or_eq_true_iff.mp hc with h | h
      · have h2 := inR_ok h
        simp only [two64] at h2
        exact .inl ⟨by omega, by omega⟩
      · have h2 := inR_ok h
        simp only [two64] at h2
        exact .inr ⟨by omega, by omega⟩
    · cases hf
  · split at hf
    · rename_i hc
      cases hf; cases hx; cases hy
      obtain ⟨c1, c2⟩ := Bool.and_eq_true_iff.mp hc
      have h2 := inR_ok c1
      obtain ⟨t, rfl⟩ := rx
      obtain ⟨t', rfl⟩ := ry
      exact mul_str_ok h2.1 h2.2 (sz_ok c2) fun t' tk => ⟨.str _, H, I.tok _, ⟨_, rfl⟩, q _ _ _ (Post.same e rfl)⟩
    · cases hf
  · split at hf
    · rename_i hc
      cases hf; cases hy
      obtain ⟨c1, c2⟩ := Bool.and_eq_true_iff.mp hc
      have h2 := inR_ok c1
      obtain ⟨p, xs, rfl, hp, rp⟩ := hx
      refine op_rep pins s σ H _ _ v u Q I rx ry ⟨p, _, xs, rfl, rfl, e _ _ hp, by omega, by omega, ?_, fun k hk => q _ _ _ (Post.lst e hk (Reps.flat rp _))⟩
      rw [← rp.len]
      exact sz_line c2
    · cases hf
  · split at hf
    · rename_i hc
      cases hf; cases hy
      obtain ⟨c1, c2⟩ := Bool.and_eq_true_iff.mp hc
      obtain ⟨c3, c4⟩ := Bool.and_eq_true_iff.mp c2
      have h2 := inR_ok c1
      have h3 := Nat.le_of_ble_eq_true c3
      have h4 := Nat.le_of_ble_eq_true c4
      obtain ⟨p, xs, rfl, hp, rp⟩ := hx
      have hl := rp.len
      refine op_repT pins s σ H _ _ v u Q I rx ry ⟨p, _, xs, rfl, rfl, ex_t e hp, fun z => ?_, by omega, by omega, by omega, fun k hk => q _ _ _ (Post.tup e hk (Reps.flat rp _))⟩
      rw [z] at hl
      simp only [List.length_nil] at hl
      omega
    · cases hf
  · split at hf
    · rename_i hc
      cases hf; cases hx; cases hy
      have h2 := inR_ok hc
      exact op_fdiv pins s σ H _ _ v u Q I rx ry ⟨_, _, rfl, rfl, ⟨by omega, by omega⟩, q _ _ _ (Post.same e rfl)⟩
    · cases hf
  · split at hf
    · rename_i hc
      cases hf; cases hx; cases hy
      exact op_mod pins s σ H _ _ v u Q I rx ry ⟨_, _, rfl, rfl, of_decide_eq_true hc, q _ _ _ (Post.same e rfl)⟩
    · cases hf
  · split at hf
    · rename_i hc
      cases hf; cases hx; cases hy
      obtain ⟨c1, c2⟩ := Bool.and_eq_true_iff.mp hc
      have h2 := inR_ok c1
      have h3 := inR_ok c2
      simp only [two64] at h3
      exact op_pow pins s σ H _ _ v u Q I rx ry ⟨_, _, rfl, rfl, ⟨by omega, by omega, by omega⟩, q _ _ _ (Post.same e rfl)⟩
    · cases hf
  · cases hf
end
end Pd
set_option Elab.async false
set_option linter.all false
set_option maxRecDepth 100000
set_option maxHeartbeats 2000000
namespace Pd
open PySem PySem.Spec PyProof.Rows L2
open Evl (Ex Ex.refl Ex.trans ex_rd ex_l ex_t)

/-! ### comparisons -/
def flatD : D → Bool
  | .none | .bool _ | .int _ | .str _ => true
  | _ => false
def lookD (kvs : List (D × D)) (k : Str) : Option D := match kvs with
  | [] => none
  | (.str s, d) :: r => if s = k then some d else lookD r k
  | _ :: r => lookD r k
def isNoneD : D → Bool
  | .none => true
  | _ => false
def inD (x : D) (ds : List D) : Bool := ds.any fun z => PyData.eqv z x
def cmpD : CmpOp → D → D → Option Bool
  | .Eq, x, y => if SeqAt.shaped x && SeqAt.shaped y then some (PyData.eqv x y) else none
  | .NotEq, x, y => if SeqAt.shaped x && SeqAt.shaped y then some (!PyData.eqv x y) else none
  | .Lt, .int i, .int j => some (decide (i < j))
  | .LtE, .int i, .int j => some (decide (i ≤ j))
  | .Gt, .int i, .int j => some (decide (j < i))
  | .GtE, .int i, .int j => some (decide (j ≤ i))
  | .Lt, .str a, .str b => some (decide (tl a < tl b))
  | .LtE, .str a, .str b => some (!decide (tl b < tl a))
  | .GtE, .str a, .str b => some (!decide (tl a < tl b))
  | .In, .str a, .str b => match tl a with
    | [c] => some ((tl b).contains c)
    | _ => none
  | .NotIn, .str a, .str b => match tl a with
    | [c] => some (!(tl b).contains c)
    | _ => none
  | .In, .str a, .dict kvs => some (lookD kvs a).isSome
  | .NotIn, .str a, .dict kvs => some (!(lookD kvs a).isSome)
  | .In, x, .tuple ds => if flatD x && ds.all flatD then some (inD x ds) else none
  | .NotIn, x, .tuple ds => if flatD x && ds.all flatD then some (!inD x ds) else none
  | .In, x, .list ds => if SeqAt.shaped x && SeqAt.shaped (.list ds) then some (inD x ds) else none
  | .NotIn, x, .list ds => if SeqAt.shaped x && SeqAt.shaped (.list ds) then some (!inD x ds) else none
  | .Is, x, .none => some (isNoneD x)
  | .IsNot, x, .none => some (!isNoneD x)
  | _, _, _ => none
def rCmp (K : PySem.W.Frag) (f : D → D → Option Bool) : R2 := fun x y H Q => ∃ dx dy b, Rep K H dx x ∧ Rep K H dy y ∧ f dx dy = some b ∧ Q (.bl b) H
section
variable {K : PySem.W.Frag} {H : Hp}
mutual
theorem Rep.dp0 : ∀ (d : D) (v : V), d.hasDict = false → Rep K H d v → Dp K H v d
  | .none, v, _, h => by rw [show v = .non from h]; exact .non
  | .bool b, v, _, h => by rw [show v = .bl b from h]; exact .bl b
  | .int i, v, _, h => by rw [show v = .int i from h]; exact .int i
  | .str s, v, _, h => by rw [show v = .str s from h]; exact .str s
  | .list ds, v, c, h => by
    obtain ⟨a, xs, rfl, h2, h3⟩ := h
    exact .lst (SqL.of h2) (Reps.dp0 ds xs (by simpa [PyData.hasDict] using c) h3)
  | .tuple ds, v, c, h => by
    obtain ⟨a, xs, rfl, h2, h3⟩ := h
    exact .tup h2 (Reps.dp0 ds xs (by simpa [PyData.hasDict] using c) h3)
  | .dict kvs, v, c, h => by simp [PyData.hasDict] at c
theorem Reps.dp0 : ∀ (ds : List D) (xs : List V), PyData.hasDictAll ds = false → Reps K H ds xs → DpAll K H xs ds
  | [], xs, _, h => by rw [show xs = [] from h]; exact .nil
  | d :: ds, xs, c, h => by
    obtain ⟨x, r, rfl, h2, h3⟩ := h
    have c' : d.hasDict = false ∧ PyData.hasDictAll ds = false := by simpa [PyData.hasDictAll] using c
    exact .cons (Rep.dp0 d x c'.1 h2) (Reps.dp0 ds r c'.2 h3)
end
theorem Rep.dp (d : D) (v : V) (c : d.canLay0 = true) (h : Rep K H d v) : Dp K H v d := Rep.dp0 d v (PyData.hasDict_of_canLay d c) h
theorem shaped_lay {d : D} (h : SeqAt.shaped d = true) : d.canLay0 = true := SeqAt.canLay_of_shaped h
theorem Rep.flat {d : D} {v : V} (f : flatD d = true) (h : Rep K H d v) : flatV v = true := by
  cases d with
  | none => rw [show v = .non from h]; rfl
  | bool b => rw [show v = .bl b from h]; rfl
  | int i => rw [show v = .int i from h]; rfl
  | str s => rw [show v = .str s from h]; rfl
  | _ => exact absurd (show false = true from f) Bool.false_ne_true
theorem Rep.eqV {d e : D} {v u : V} (f : flatD d = true) (g : flatD e = true) (h : Rep K H d v) (h' : Rep K H e u) : eqV v u = PyData.eqv d e := by
  cases d with
  | none => rw [show v = .non from h]; cases e with
    | none => rw [show u = .non from h']; simp [L2.eqV, PyData.eqv]
    | bool b => rw [show u = .bl b from h']; simp [L2.eqV, PyData.eqv]
    | int b => rw [show u = .int b from h']; simp [L2.eqV, PyData.eqv]
    | str b => rw [show u = .str b from h']; simp [L2.eqV, PyData.eqv]
    | _ => exact absurd (show false = true from g) Bool.false_ne_true
  | bool a => rw [show v = .bl a from h]; cases e with
    | none => rw [show u = .non from h']; simp [L2.eqV, PyData.eqv]
    | bool b => rw [show u = .bl b from h']; simp [L2.eqV, PyData.eqv]
    | int b => rw [show u = .int b from h']; simp [L2.eqV, PyData.eqv]
    | str b => rw [show u = .str b from h']; simp [L2.eqV, PyData.eqv]
    | _ => exact absurd (show false = true from g) Bool.false_ne_true
  | int a => rw [show v = .int a from h]; cases e with
    | none => rw [show u = .non from h']; simp [L2.eqV, PyData.eqv]
    | bool b => rw [show u = .bl b from h']; simp [L2.eqV, PyData.eqv]
    | int b => rw [show u = .int b from h']; simp [L2.eqV, PyData.eqv]
    | str b => rw [show u = .str b from h']; simp [L2.eqV, PyData.eqv]
    | _ => exact absurd (show false = true from g) Bool.false_ne_true
  | str a => rw [show v = .str a from h]; cases e with
    | none => rw [show u = .non from h']; simp [L2.eqV, PyData.eqv]
    | bool b => rw [show u = .bl b from h']; simp [L2.eqV, PyData.eqv]
    | int b => rw [show u = .int b from h']; simp [L2.eqV, PyData.eqv]
    | str b => rw [show u = .str b from h']; simp [L2.eqV, PyData.eqv]
    | _ => exact absurd (show false = true from g) Bool.false_ne_true
  | _ => exact absurd (show false = true from f) Bool.false_ne_true
theorem Reps.allFlat : ∀ {ds : List D} {xs : List V}, ds.all flatD = true → Reps K H ds xs → xs.all flatV = true
  | [], _, _, h => by rw [show _ = [] from h]; rfl
  | d :: ds, _, c, h => by
    obtain ⟨x, r, rfl, h2, h3⟩ := h
    rw [List.all_cons, Bool.and_eq_true] at c
    rw [List.all_cons, Rep.flat c.1 h2, Reps.allFlat c.2 h3]
    rfl
theorem Reps.inV {d : D} {v : V} (f : flatD d = true) (h : Rep K H d v) : ∀ {ds : List D} {xs : List V}, ds.all flatD = true → Reps K H ds xs → L2.inV v xs = inD d ds
  | [], _, _, g => by rw [show _ = [] from g]; rfl
  | e :: ds, _, c, g => by
    obtain ⟨x, r, rfl, h2, h3⟩ := g
    rw [List.all_cons, Bool.and_eq_true] at c
    show (L2.eqV x v || L2.inV v r) = (PyData.eqv e d || inD d ds)
    rw [Rep.eqV c.1 f h2 h, Reps.inV f h c.2 h3]
theorem RepK.look {k : Str} : ∀ {kvs : List (D × D)} {xs : List (Key × V)}, RepK K H kvs xs → match lookD kvs k with
    | none => valV xs (.inr k) = none
    | some d => ∃ v, valV xs (.inr k) = some v ∧ Rep K H d v
  | [], _, h => by rw [show _ = [] from h]; rfl
  | (q, d) :: kvs, _, h => by
    obtain ⟨s, x, t, rfl, rfl, h3, h4⟩ := h
    unfold lookD
    by_cases e : s = k
    · subst e
      rw [if_pos rfl]
      exact ⟨x, valV_pos (p := (Sum.inr s, x)) rfl, h3⟩
    · rw [if_neg e]
      have e2 : ¬ (Sum.inr s : Key) = Sum.inr k := fun z => e (Sum.inr.inj z)
      have ih := RepK.look (k := k) h4
      rw [valV_neg (p := ((Sum.inr s : Key), x)) e2]
      exact ih
theorem Rep.isNone {d : D} {v : V} (h : Rep K H d v) : decide (v = .non) = isNoneD d := by
  cases d with
  | none => rw [show v = .non from h]; rfl
  | bool b => rw [show v = .bl b from h]; rfl
  | int i => rw [show v = .int i from h]; rfl
  | str s => rw [show v = .str s from h]; rfl
  | list ds => obtain ⟨a, xs, rfl, _⟩ := h; rfl
  | tuple ds => obtain ⟨a, xs, rfl, _⟩ := h; rfl
  | dict ds => obtain ⟨a, xs, rfl, _⟩ := h; rfl
end
section
variable {X : Cx}
theorem one_sign {a : Str} {c : Nat} (h : tl a = [c]) : a = ⟨#[c]⟩ := TL.ext_tl h
theorem mem_contains (c : Nat) (l : List Nat) : decide (c ∈ l) = l.contains c := by
  by_cases h : c ∈ l
  · rw [decide_eq_true h, List.contains_iff_mem.mpr h]
  · rw [decide_eq_false h]
    cases e : l.contains c with
    | false => rfl
    | true => exact absurd (List.contains_iff_mem.mp e) h
theorem look_get {G : Hp} {kvs : List (D × D)} {p : Addr} {xs : List (Key × V)} {k : Str} {H : Hp} (hp : Rd H p (.dK xs)) (hr : RepK X.K G kvs xs) : ∃ o, DGet H p (.str k) o ∧ o.isSome = (lookD kvs k).isSome ∧ ∀ d, lookD kvs k = some d → ∃ v, o = some v ∧ Rep X.K G d v := by
  refine ⟨valV xs (.inr k), .inl ⟨xs, .inr k, hp, rfl, rfl⟩, ?_, fun d hd => ?_⟩
  · have h := RepK.look (k := k) hr
    cases e : lookD kvs k with
    | none => rw [e] at h; rw [show valV xs (.inr k) = none from h]; rfl
    | some d => rw [e] at h; obtain ⟨v, h1, _⟩ := (show ∃ v, valV xs (.inr k) = some v ∧ Rep X.K G d v from h); rw [h1]; rfl
  · have h := RepK.look (k := k) hr
    rw [hd] at h
    exact h
theorem op_cmp (hu : X.A.units + 65 < cLine) (op : CmpOp) : OpR X (compareOp op) (rCmp X.K (cmpD op)) := by
  intro pins s σ H x y v u Q I rx ry h
  obtain ⟨dx, dy, b, hx, hy, hf, q⟩ := h
  unfold cmpD at hf
  split at hf
  · split at hf
    · rename_i c
      cases hf
      obtain ⟨c1, c2⟩ := Bool.and_eq_true_iff.mp c
      exact op_eqD (by omega) pins s σ H x y v u Q I rx ry ⟨_, _, Rep.dp _ _ (shaped_lay c1) hx, Rep.dp _ _ (shaped_lay c2) hy, c1, c2, q⟩
    · cases hf
  · split at hf
    · rename_i c
      cases hf
      obtain ⟨c1, c2⟩ := Bool.and_eq_true_iff.mp c
      exact op_neD (by omega) pins s σ H x y v u Q I rx ry ⟨_, _, Rep.dp _ _ (shaped_lay c1) hx, Rep.dp _ _ (shaped_lay c2) hy, c1, c2, q⟩
    · cases hf
  · cases hf; cases hx; cases hy
    exact op_lt pins s σ H _ _ v u Q I rx ry ⟨_, _, rfl, rfl, q⟩
  · cases hf; cases hx; cases hy
    exact op_le pins s σ H _ _ v u Q I rx ry ⟨_, _, rfl, rfl, q⟩
  · cases hf; cases hx; cases hy
    exact op_gt pins s σ H _ _ v u Q I rx ry ⟨_, _, rfl, rfl, q⟩
  · cases hf; cases hx; cases hy
    exact op_ge pins s σ H _ _ v u Q I rx ry ⟨_, _, rfl, rfl, q⟩
  · cases hf; cases hx; cases hy
    exact op_lt_str pins s σ H _ _ v u Q I rx ry ⟨_, _, rfl, rfl, q⟩
  · cases hf; cases hx; cases hy
    exact op_le_str pins s σ H _ _ v u Q I rx ry ⟨_, _, rfl, rfl, q⟩
  · cases hf; cases hx; cases hy
    exact op_ge_str pins s σ H _ _ v u Q I rx ry ⟨_, _, rfl, rfl, q⟩
  · split at hf
    · rename_i c hc
      cases hf; cases hx; cases hy
      refine op_in_sign pins s σ H _ _ v u Q I rx ry ⟨c, _, by rw [one_sign hc], rfl, ?_⟩
      rw [mem_contains]
      exact q
    · cases hf
  · split at hf
    · rename_i c hc
      cases hf; cases hx; cases hy
      refine op_notIn_sign pins s σ H _ _ v u Q I rx ry ⟨c, _, by rw [one_sign hc], rfl, ?_⟩
      rw [mem_contains]
      exact q
    · cases hf
  · cases hf; cases hx
    obtain ⟨p, xs, rfl, hp, hr⟩ := hy
    obtain ⟨o, g, e, _⟩ := look_get (Rd.of hp) hr
    cases ry
    exact d_in (by omega) I g rx fun s' I' => ⟨.bl _, H, I', rfl, by rw [e]; exact q⟩
  · cases hf; cases hx
    obtain ⟨p, xs, rfl, hp, hr⟩ := hy
    obtain ⟨o, g, e, _⟩ := look_get (Rd.of hp) hr
    cases ry
    exact d_notIn (by omega) I g rx fun s' I' => ⟨.bl _, H, I', rfl, by rw [e]; exact q⟩
  · split at hf
    · rename_i c
      cases hf
      obtain ⟨c1, c2⟩ := Bool.and_eq_true_iff.mp c
      obtain ⟨p, xs, rfl, hp, hr⟩ := hy
      refine op_in_seq pins s σ H _ _ v u Q I rx ry ⟨p, xs, rfl, .inr hp, Rep.flat c1 hx, Reps.allFlat c2 hr, ?_⟩
      rw [if_neg Bool.false_ne_true, Reps.inV c1 hx c2 hr]
      exact q
    · cases hf
  · split at hf
    · rename_i c
      cases hf
      obtain ⟨c1, c2⟩ := Bool.and_eq_true_iff.mp c
      obtain ⟨p, xs, rfl, hp, hr⟩ := hy
      refine op_notIn_seq pins s σ H _ _ v u Q I rx ry ⟨p, xs, rfl, .inr hp, Rep.flat c1 hx, Reps.allFlat c2 hr, ?_⟩
      rw [if_pos rfl, Reps.inV c1 hx c2 hr]
      exact q
    · cases hf
  · split at hf
    · rename_i c
      cases hf
      obtain ⟨c1, c2⟩ := Bool.and_eq_true_iff.mp c
      exact op_inD hu pins s σ H _ _ v u Q I rx ry ⟨_, _, Rep.dp _ _ (shaped_lay c1) hx, Rep.dp _ _ (shaped_lay c2) hy, c1, c2, q⟩
    · cases hf
  · split at hf
    · rename_i c
      cases hf
      obtain ⟨c1, c2⟩ := Bool.and_eq_true_iff.mp c
      exact op_notInD hu pins s σ H _ _ v u Q I rx ry ⟨_, _, Rep.dp _ _ (shaped_lay c1) hx, Rep.dp _ _ (shaped_lay c2) hy, c1, c2, q⟩
    · cases hf
  · cases hf; cases hy
    exact op_isN pins s σ H _ _ v u Q I rx ry ⟨rfl, by rw [Rep.isNone hx]; exact q⟩
  · cases hf; cases hy
    exact op_notN pins s σ H _ _ v u Q I rx ry ⟨rfl, by rw [Rep.isNone hx]; exact q⟩
  · cases hf

/-! ### items, slices -/
def idxD : D → D → Option D
  | .list ds, .int i => atI ds i
  | .tuple ds, .int i => atI ds i
  | .str s, .int i => if sz (tl s).length then (atI (tl s) i).map fun c => .str (mkS [c]) else none
  | .dict kvs, .str k => lookD kvs k
  | _, _ => none
theorem Reps.atI {K : PySem.W.Frag} {G : Hp} {ds : List D} {xs : List V} {i : Int} {d : D} (h : Reps K G ds xs) (e : L2.atI ds i = some d) : ∃ v, L2.atI xs i = some v ∧ Rep K G d v := by
  unfold L2.atI at e ⊢
  rw [← h.len]
  cases q : ixN ds.length i with
  | none => rw [q] at e; cases e
  | some j =>
    rw [q] at e
    exact Reps.get h e
/-- what stands under a read base: known data, or an own slot's whose items are known -/
def BRep (K : PySem.W.Frag) (G H : Hp) (d : D) (v : V) : Prop := match d with
  | .list ds => ∃ a xs, v = .ref a ∧ H a = some (.lst xs) ∧ Reps K G ds xs
  | .dict kvs => ∃ a xs, v = .ref a ∧ H a = some (.dK xs) ∧ RepK K G kvs xs
  | d => Rep K G d v
theorem BRep.of {K : PySem.W.Frag} {G H : Hp} (e : Ex G H) {d : D} {v : V} (h : Rep K G d v) : BRep K G H d v := by
  cases d with
  | list ds => obtain ⟨a, xs, h1, h2, h3⟩ := h; exact ⟨a, xs, h1, e _ _ h2, h3⟩
  | dict ds => obtain ⟨a, xs, h1, h2, h3⟩ := h; exact ⟨a, xs, h1, e a _ h2, h3⟩
  | _ => exact h
theorem BRep.own {K : PySem.W.Frag} {G H : Hp} {d : D} {a : Addr} (h : ORep K G H d a) : BRep K G H d (.ref a) := by
  cases d with
  | list ds => obtain ⟨xs, h1, h2⟩ := h; exact ⟨a, xs, rfl, h1, h2⟩
  | dict ds => obtain ⟨xs, h1, h2⟩ := h; exact ⟨a, xs, rfl, h1, h2⟩
  | _ => exact h.elim
theorem BRep.rep {K : PySem.W.Frag} {G H : Hp} (e : Ex G H) {d : D} {v : V} (h : BRep K G H d v) : Rep K H d v := by
  cases d with
  | list ds => obtain ⟨a, xs, h1, h2, h3⟩ := h; exact ⟨a, xs, h1, h2, Reps.ex e _ _ h3⟩
  | dict ds => obtain ⟨a, xs, h1, h2, h3⟩ := h; exact ⟨a, xs, h1, h2, RepK.ex e _ _ h3⟩
  | none => exact Rep.ex e _ _ h
  | bool _ => exact Rep.ex e _ _ h
  | int _ => exact Rep.ex e _ _ h
  | str _ => exact Rep.ex e _ _ h
  | tuple _ => exact Rep.ex e _ _ h
def rIdx (K : PySem.W.Frag) : R2 := fun x y H Q => ∃ G dx dy r, Ex G H ∧ BRep K G H dx x ∧ Rep K H dy y ∧ idxD dx dy = some r ∧ ∀ v, Rep K G r v → Q v H
theorem dict_ix : typeLookup (.type "dict") "__getitem__" = pure (some (.builtin "dict.__getitem__")) := PySem.F.slot_dict_getitem.lookup
theorem ix_idx (hu : X.A.units + 1 < cLine) : IxR X (rIdx X.K) := by
  intro value slice pins s σ H x y v u Q I rx ry h hs
  obtain ⟨G, dx, dy, r, e, hx, hy, hf, q⟩ := h
  unfold idxD at hf
  split at hf
  · cases hy
    obtain ⟨p, xs, rfl, hp, hr⟩ := hx
    obtain ⟨w, h1, h2⟩ := Reps.atI hr hf
    exact ix_list value slice pins s σ H _ _ v u Q I rx ry ⟨p, xs, _, w, rfl, rfl, SqL.of hp, h1, q w h2⟩ hs
  · cases hy
    obtain ⟨p, xs, rfl, hp, hr⟩ := hx
    obtain ⟨w, h1, h2⟩ := Reps.atI hr hf
    exact ix_tup value slice pins s σ H _ _ v u Q I rx ry ⟨p, xs, _, w, rfl, rfl, ex_t e hp, h1, q w h2⟩ hs
  · split at hf
    · rename_i hz
      cases hy
      obtain rfl : x = _ := hx
      obtain ⟨c, h1, h2⟩ := Option.map_eq_some_iff.mp hf
      refine ix_str value slice pins s σ H _ _ v u Q I rx ry ⟨_, _, c, rfl, rfl, ?_, h1, q _ ?_⟩ hs
      · have := sz_line hz
        rw [len_tl] at this
        exact this
      · rw [← h2]
        rfl
    · cases hf
  · cases hy
    obtain ⟨p, xs, rfl, hp, hr⟩ := hx
    obtain ⟨o, g, e1, e2⟩ := look_get (Rd.of hp) hr
    obtain ⟨w, rfl, h2⟩ := e2 _ hf
    cases rx
    exact tail_any (dict_typeIs I g) dict_ix (d_getItem hu I g ry fun w' s' I' r' => ⟨w, H, I', r', q w h2⟩) hs
  · cases hf
def cutL {α : Type} (xs : List α) (lo hi : Option Int) : List α := (xs.drop (HT.sIx xs.length 0 lo)).take (HT.sIx xs.length xs.length hi - HT.sIx xs.length 0 lo)
def slcD (d : D) (lo hi : Option Int) : Option Ar := match d with
  | .list ds => some (.o (.list (cutL ds lo hi)))
  | .tuple ds => some (.d (.tuple (cutL ds lo hi)))
  | .str s => if sz (tl s).length then some (.d (.str (mkS (cutL (tl s) lo hi)))) else none
  | _ => none
theorem Reps.cut {K : PySem.W.Frag} {G : Hp} {ds : List D} {xs : List V} {lo hi : Option Int} (h : Reps K G ds xs) : Reps K G (cutL ds lo hi) (cutV xs lo hi) := by
  unfold cutL cutV
  rw [← h.len]
  exact (h.drop _).take _
def rSlc (K : PySem.W.Frag) : V → Option Int → Option Int → Hp → VK → Prop := fun x lo hi H Q => ∃ G dx r, Ex G H ∧ Rep K G dx x ∧ slcD dx lo hi = some r ∧ ∀ v G1 H1, Post K G H r v G1 H1 → Q v H1
theorem sl_slc : SlR X (rSlc X.K) := by
  intro pins s σ H x v vl vu lo hi sl Q I rx hs pl pu h
  obtain ⟨G, dx, r, e, hx, hf, q⟩ := h
  unfold slcD at hf
  split at hf
  · cases hf
    obtain ⟨p, xs, rfl, hp, hr⟩ := hx
    exact sl_list pins s σ H _ v vl vu lo hi sl Q I rx hs pl pu ⟨p, xs, rfl, SqL.of (e _ _ hp), fun k hk => q _ _ _ (Post.lst e hk (Reps.cut hr))⟩
  · rename_i ds
    cases hf
    obtain ⟨p, xs, rfl, hp, hr⟩ := hx
    refine sl_tupA pins s σ H _ v vl vu lo hi sl Q I rx hs pl pu ⟨p, xs, rfl, ex_t e hp, fun hw => ?_, fun _ k hk => q _ _ _ (Post.tup e hk (Reps.cut hr))⟩
    have hc : cutL ds lo hi = ds := by
      unfold cutL
      rw [hr.len, hw.1, hw.2, List.drop_zero, Nat.sub_zero, ← hr.len, List.take_length]
    rw [hc] at q
    exact q _ _ _ (Post.same e ⟨p, xs, rfl, hp, hr⟩)
  · rename_i z
    split at hf
    · rename_i hz
      cases hf
      obtain rfl : x = _ := hx
      refine sl_str pins s σ H _ v vl vu lo hi sl Q I rx hs pl pu ⟨_, rfl, ?_, ?_⟩
      · have := sz_line hz
        rw [len_tl] at this
        exact this
      · have e2 : cutS z lo hi = mkS (cutL (tl z) lo hi) := by
          unfold cutS cutL mkS
          rw [len_tl]
          rfl
        rw [e2]
        exact q _ _ _ (Post.same e rfl)
    · cases hf
  · cases hf
end
end Pd
set_option Elab.async false
set_option linter.all false
set_option maxRecDepth 100000
set_option maxHeartbeats 2000000
namespace Pd
open PySem PySem.Spec PyProof.Rows L2
open Evl (Ex Ex.refl Ex.trans ex_rd ex_l ex_t)

/-! ### calls of built-in functions and types with values -/
inductive Bf where
  | len | all | any | sum | max2 | min2 | abs | int | str | list | tuple | dict | sorted | divmod | repr
  deriving DecidableEq
def Bf.name : Bf → Str
  | .len => "len" | .all => "all" | .any => "any" | .sum => "sum" | .max2 => "max" | .min2 => "min" | .abs => "abs" | .int => "int" | .str => "str"
  | .list => "list" | .tuple => "tuple" | .dict => "dict" | .sorted => "sorted" | .divmod => "divmod" | .repr => "repr"
def Bf.val : Bf → Value
  | .len => .builtin "len" | .all => .builtin "all" | .any => .builtin "any" | .sum => .builtin "sum" | .max2 => .builtin "max" | .min2 => .builtin "min" | .abs => .builtin "abs"
  | .int => .type "int" | .str => .type "str" | .list => .type "list" | .tuple => .type "tuple" | .dict => .type "dict" | .sorted => .builtin "sorted" | .divmod => .builtin "divmod" | .repr => .builtin "repr"
def Bf.many : Bf → Nat
  | .max2 | .min2 | .divmod => 2
  | _ => 1
def asBools : List D → Option (List Bool)
  | [] => some []
  | .bool b :: r => (asBools r).map (b :: ·)
  | _ :: _ => none
def asInts : List D → Option (List Int)
  | [] => some []
  | .int b :: r => (asInts r).map (b :: ·)
  | _ :: _ => none
def asStrs : List D → Option (List Str)
  | [] => some []
  | .str b :: r => (asStrs r).map (b :: ·)
  | _ :: _ => none
def keyStrs : List (D × D) → Option (List Str)
  | [] => some []
  | (.str b, _) :: r => (keyStrs r).map (b :: ·)
  | _ :: _ => none
def strLe (a b : Str) : Bool := !decide (tl b < tl a)
def isDigits (l : List Nat) : Bool := l.all fun c => Nat.ble 48 c && Nat.ble c 57
def lenD : D → Option Int
  | .str s => if sz (tl s).length then some ((tl s).length : Nat) else none
  | .list ds => some (ds.length : Nat)
  | .tuple ds => some (ds.length : Nat)
  | _ => none
def alikeB (ds : List D) : Bool := ds.all fun d => ds.all fun e => PySem.W.alike d e
def sortableB (ds : List D) : Bool := (ds.all fun d => match d with | .tuple (_ :: _) => true | _ => false) || ds.all fun d => match d with | .none => false | .tuple _ => false | _ => true
def sortD (ds : List D) : List D := ds.mergeSort (PySem.W.dataLe false id)
def callD : Bf → List D → Option Ar
  | .len, [d] => (lenD d).map fun n => .d (.int n)
  | .all, [.list ds] => (asBools ds).map fun bs => .d (.bool (bs.all id))
  | .any, [.list ds] => (asBools ds).map fun bs => .d (.bool (bs.any id))
  | .sum, [.list ds] => (asInts ds).map fun bs => .d (.int bs.sum)
  | .max2, [.int i, .int j] => some (.d (.int (if j > i then j else i)))
  | .min2, [.int i, .int j] => some (.d (.int (if j < i then j else i)))
  | .abs, [.int i] => some (.d (.int (if i < 0 then -i else i)))
  | .int, [.int i] => some (.d (.int i))
  | .int, [.str s] => if isDigits (tl s) && (Nat.ble 1 (tl s).length && Nat.ble (tl s).length 600) then some (.d (.int (NumText.digitsVal (tl s) : Nat))) else none
  | .str, [.int i] => if inR 0 1000000000000 i then some (.d (.str (mkS (TL.numL i.toNat)))) else none
  | .list, [.list ds] => some (.o (.list ds))
  | .list, [.tuple ds] => some (.o (.list ds))
  | .tuple, [.list ds] => some (.d (.tuple ds))
  | .tuple, [.tuple ds] => some (.d (.tuple ds))
  | .dict, [.dict kvs] => some (.o (.dict kvs))
  | .sorted, [.list ds] => if alikeB ds && (sortableB ds && (sz ds.length && ds.all fun d => !d.hasDict && Nat.ble d.depth 60)) then some (.o (.list (sortD ds))) else none
  | .sorted, [.dict kvs] => match keyStrs kvs with
    | some ks => if Nat.ble ks.length 63 then some (.o (.list ((ks.mergeSort strLe).map .str))) else none
    | none => none
  | .divmod, [.int i, .int j] => if inR 1 1073741823 j then some (.d (.tuple [.int (i / j), .int (i % j)])) else none
  | .repr, [.list ds] => if SeqAt.shaped (.list ds) && ((PyData.list ds).showable && sz (PyData.list ds).shown.length) then some (.d (.str (PyData.list ds).shown)) else none
  | .repr, [.tuple ds] => if SeqAt.shaped (.tuple ds) && ((PyData.tuple ds).showable && sz (PyData.tuple ds).shown.length) then some (.d (.str (PyData.tuple ds).shown)) else none
  | _, _ => none
def rCall (K : PySem.W.Frag) (f : List D → Option Ar) : List V → Hp → VK → Prop := fun xs H Q => ∃ G ds r, Ex G H ∧ Reps K G ds xs ∧ f ds = some r ∧ ∀ v G1 H1, Post K G H r v G1 H1 → Q v H1
section
variable {K : PySem.W.Frag} {G H : Hp}
theorem Reps.one' {d : D} {xs : List V} (h : Reps K G [d] xs) : ∃ x, xs = [x] ∧ Rep K G d x := by
  obtain ⟨x, r, rfl, h2, h3⟩ := h
  rw [show r = [] from h3]
  exact ⟨x, rfl, h2⟩
theorem Reps.two' {d e : D} {xs : List V} (h : Reps K G [d, e] xs) : ∃ x y, xs = [x, y] ∧ Rep K G d x ∧ Rep K G e y := by
  obtain ⟨x, r, rfl, h2, h3⟩ := h
  obtain ⟨y, rfl, h4⟩ := Reps.one' h3
  exact ⟨x, y, rfl, h2, h4⟩
theorem asBools_ok : ∀ {ds : List D} {bs : List Bool} {xs : List V}, asBools ds = some bs → Reps K G ds xs → xs = bs.map V.bl
  | [], _, _, h, g => by cases h; rw [show _ = [] from g]; rfl
  | d :: ds, bs, _, h, g => by
    cases d with
    | bool b =>
      obtain ⟨x, r, rfl, h2, h3⟩ := g
      obtain ⟨cs, h4, rfl⟩ := Option.map_eq_some_iff.mp (show (asBools ds).map (b :: ·) = some bs from h)
      rw [show x = .bl b from h2, asBools_ok h4 h3]
      rfl
    | _ => cases h
theorem asInts_ok : ∀ {ds : List D} {bs : List Int} {xs : List V}, asInts ds = some bs → Reps K G ds xs → xs = bs.map V.int
  | [], _, _, h, g => by cases h; rw [show _ = [] from g]; rfl
  | d :: ds, bs, _, h, g => by
    cases d with
    | int b =>
      obtain ⟨x, r, rfl, h2, h3⟩ := g
      obtain ⟨cs, h4, rfl⟩ := Option.map_eq_some_iff.mp (show (asInts ds).map (b :: ·) = some bs from h)
      rw [show x = .int b from h2, asInts_ok h4 h3]
      rfl
    | _ => cases h
theorem asStrs_ok : ∀ {ds : List D} {bs : List Str} {xs : List V}, asStrs ds = some bs → Reps K G ds xs → xs = bs.map V.str
  | [], _, _, h, g => by cases h; rw [show _ = [] from g]; rfl
  | d :: ds, bs, _, h, g => by
    cases d with
    | str b =>
      obtain ⟨x, r, rfl, h2, h3⟩ := g
      obtain ⟨cs, h4, rfl⟩ := Option.map_eq_some_iff.mp (show (asStrs ds).map (b :: ·) = some bs from h)
      rw [show x = .str b from h2, asStrs_ok h4 h3]
      rfl
    | _ => cases h
theorem keyStrs_ok : ∀ {ds : List (D × D)} {bs : List Str} {xs : List (Key × V)}, keyStrs ds = some bs → RepK K G ds xs → xs.map (·.1) = bs.map Sum.inr
  | [], _, _, h, g => by cases h; rw [show _ = [] from g]; rfl
  | (d, e) :: ds, bs, _, h, g => by
    obtain ⟨s, x, r, rfl, rfl, h2, h3⟩ := g
    obtain ⟨cs, h4, rfl⟩ := Option.map_eq_some_iff.mp (show (keyStrs ds).map (s :: ·) = some bs from h)
    rw [List.map_cons, keyStrs_ok h4 h3]
    rfl
theorem Reps.strs {ys : List Str} : Reps K G (ys.map PyData.str) (ys.map V.str) := by
  induction ys with
  | nil => rfl
  | cons y ys ih => exact ⟨_, _, rfl, rfl, ih⟩
end
section
variable {X : Cx}
theorem pairs_of_reps {K : PySem.W.Frag} {G : Hp} : ∀ {ds : List D} {xs : List V}, Reps K G ds xs → (ds.zip xs).map (·.1) = ds ∧ (ds.zip xs).map (·.2) = xs ∧ ∀ b ∈ ds.zip xs, b.1 ∈ ds ∧ Rep K G b.1 b.2
  | [], _, h => by rw [show _ = [] from h]; exact ⟨rfl, rfl, fun b hb => by cases hb⟩
  | d :: ds, _, h => by
    obtain ⟨x, r, rfl, h2, h3⟩ := h
    obtain ⟨a, b, c⟩ := pairs_of_reps h3
    refine ⟨by rw [List.zip_cons_cons, List.map_cons, a], by rw [List.zip_cons_cons, List.map_cons, b], fun q hq => ?_⟩
    rw [List.zip_cons_cons] at hq
    rcases List.mem_cons.mp hq with rfl | hq
    · exact ⟨List.mem_cons_self .., h2⟩
    · exact ⟨List.mem_cons_of_mem _ (c q hq).1, (c q hq).2⟩
theorem reps_of_pairs {K : PySem.W.Frag} {G : Hp} : ∀ {l : List (D × V)}, (∀ b ∈ l, Rep K G b.1 b.2) → Reps K G (l.map (·.1)) (l.map (·.2))
  | [], _ => rfl
  | b :: l, h => ⟨_, _, rfl, h b (List.mem_cons_self ..), reps_of_pairs fun c hc => h c (List.mem_cons_of_mem _ hc)⟩
theorem each_vals {its : List Value} {l : List (D × V)} (h : PySem.W.EachIs (fun v (b : D × V) => L2.RelV b.2 v) its l) : L2.Vals (l.map (·.2)) its := by
  induction h with
  | nil => exact .nil
  | cons r _ ih => exact .cons r ih
theorem vals_each : ∀ {ds : List D} {xs : List V} {its : List Value}, ds.length = xs.length → L2.Vals xs its → PySem.W.EachIs (fun v (b : D × V) => L2.RelV b.2 v) its (ds.zip xs)
  | [], [], _, _, r => by cases r; exact .nil
  | d :: ds, x :: xs, _, e, r => by
    cases r with
    | cons r1 r2 => exact .cons r1 (vals_each (by simpa using e) r2)
  | [], _ :: _, _, e, _ => by simp at e
  | _ :: _, [], _, e, _ => by simp at e
theorem each_and {α β : Type} {R S : α → β → Prop} {l : List α} {m : List β} (h : PySem.W.EachIs R l m) (g : ∀ a b, b ∈ m → R a b → S a b) : PySem.W.EachIs S l m := by
  induction h with
  | nil => exact .nil
  | cons r _ ih => exact .cons (g _ _ (List.mem_cons_self ..) r) (ih fun a b hb => g a b (List.mem_cons_of_mem _ hb))
theorem call_sorted_ok (hu : X.A.units + 70 < cLine) {pins : List (Addr × Obj)} {s : Shared} {σ : L2.St} {G H : Hp} {ds : List D} {p : Addr} {xs : List V} {Q : VK} (I : L2.Inv X pins σ H s) (e : Ex G H) (hp : H p = some (.lst xs)) (hr : Reps X.K G ds xs)
    (c1 : alikeB ds = true) (c2 : sortableB ds = true) (c3 : sz ds.length = true) (c4 : (ds.all fun d => !d.hasDict && Nat.ble d.depth 60) = true) (q : ∀ v G1 H1, Post X.K G H (.o (.list (sortD ds))) v G1 H1 → Q v H1) :
    wpAny (model X.prog X.w) X.A (PySem.call (.builtin "sorted") [.ref p]) (EP X pins σ Q) X.xe s := by
  obtain ⟨its, rv, pl, hz⟩ := I.list (SqL.of (K := X.K) hp)
  obtain ⟨z1, z2, z3⟩ := pairs_of_reps hr
  have hal : PySem.W.AllAlike ds := fun d hd d' hd' => List.all_eq_true.mp (List.all_eq_true.mp c1 d hd) d' hd'
  have hk : PySem.W.Sortable ds := by
    rcases Bool.or_eq_true_iff.mp c2 with h | h
    · refine .inl fun d hd => ?_
      have h1 := List.all_eq_true.mp h d hd
      cases d with
      | tuple l =>
        cases l with
        | nil => cases h1
        | cons x r => exact ⟨x, r, rfl⟩
      | _ => cases h1
    · refine .inr fun d hd => ?_
      have h1 := List.all_eq_true.mp h d hd
      cases d with
      | none => cases h1
      | tuple l => cases h1
      | _ => exact ⟨(fun z => by cases z), fun xs z => by cases z⟩
  have hd4 : ∀ d ∈ ds, d.hasDict = false ∧ d.depth ≤ 60 := fun d hd => by
    have h1 := List.all_eq_true.mp c4 d hd
    obtain ⟨h2, h3⟩ := Bool.and_eq_true_iff.mp h1
    exact ⟨by simpa using h2, Nat.le_of_ble_eq_true h3⟩
  have E1 := vals_each hr.len rv
  have hlen : (ds.zip xs).length = ds.length := by rw [← List.length_map (f := (·.1)), z1]
  refine PySem.W.sorted_data (enc := fun b : D × V => b.1) pl.isList E1 (each_and E1 fun v b hb r => ?_) (by rw [z1]; exact hal) (by rw [z1]; exact hk) (by rw [hlen]; exact sz_line c3) (fun b hb => ?_) fun out ho hE => ?_
  · exact Dp.reads I b.1 b.2 v (Rep.dp0 _ _ (hd4 _ (z3 b hb).1).1 (Rep.ex e _ _ (z3 b hb).2)) r
  · have := (hd4 _ (z3 b hb).1).2
    show X.A.units + 2 + b.1.depth < cLine
    omega
  · obtain ⟨ep, he'⟩ := PyProof.Rows.sortedAll_at s.heap its out.toArray
    have V1 := each_vals hE
    have hm : (List.mergeSort (ds.zip xs) (PySem.W.dataLe false fun b : D × V => b.1)).map (·.1) = sortD ds := by
      have h1 := PySem.W.sort_maps (l := ds.zip xs) (r := PySem.W.dataLe false fun b : D × V => b.1) (s := PySem.W.dataLe false id) (·.1) (fun a _ b _ => rfl)
      rw [z1] at h1
      exact h1
    have R1 := reps_of_pairs (K := X.K) (G := G) (l := List.mergeSort (ds.zip xs) (PySem.W.dataLe false fun b : D × V => b.1)) fun b hb => (z3 b ((List.mergeSort_perm _ _).mem_iff.mp hb)).2
    rw [hm] at R1
    have hl2 : ((List.mergeSort (ds.zip xs) (PySem.W.dataLe false fun b : D × V => b.1)).map (·.2)).length ≤ sizeLine := by
      rw [List.length_map, List.length_mergeSort, hlen]
      exact sz_line c3
    have fr : H (s.heap.objs.size + 1) = none := I.hok.fresh (Nat.le_succ _)
    exact ⟨.ref _, upd H (s.heap.objs.size + 1) (.lst _), I.laid (t' := s.toks) (fun _ _ => PyProof.Rows.sortedAll_old) (Nat.le_succ _) ⟨hl2, out, ep, V1, by rw [he']⟩, rfl, q _ _ _ (Post.lst e fr R1)⟩
theorem strLe_total (a b : Str) : strLe a b = true ∨ strLe b a = true := by
  unfold strLe
  by_cases h : tl b < tl a
  · exact .inr (by rw [decide_eq_false (List.lt_asymm h)]; rfl)
  · exact .inl (by rw [decide_eq_false h]; rfl)
theorem strLe_trans (a b c : Str) (h1 : strLe a b = true) (h2 : strLe b c = true) : strLe a c = true := by
  unfold strLe at *
  have e1 : ¬ tl b < tl a := by simpa using h1
  have e2 : ¬ tl c < tl b := by simpa using h2
  have h3 : tl a ≤ tl c := List.le_trans (List.not_lt.mp e1) (List.not_lt.mp e2)
  rw [decide_eq_false (List.not_lt.mpr h3)]
  rfl
theorem strLe_antisymm {a b : Str} (h1 : strLe a b = true) (h2 : strLe b a = true) : a = b := by
  unfold strLe at *
  have e1 : ¬ tl b < tl a := by simpa using h1
  have e2 : ¬ tl a < tl b := by simpa using h2
  exact TL.ext_tl (List.le_antisymm (List.not_lt.mp e1) (List.not_lt.mp e2))
theorem rising_pw : ∀ (l : List Str) (x : Str), PyProof.Rows.risingS x l = true → (x :: l).Pairwise fun a b => strLe a b = true
  | [], x, _ => List.pairwise_singleton ..
  | y :: l, x, h => by
    obtain ⟨h1, h2⟩ := Bool.and_eq_true_iff.mp (show (!ltCps y.cps.toList x.cps.toList && PyProof.Rows.risingS y l) = true from h)
    have hxy : strLe x y = true := by
      unfold strLe
      rw [← PyProof.Rows.ltCps_eq]
      exact h1
    have ih := rising_pw l y h2
    refine List.pairwise_cons.mpr ⟨fun z hz => ?_, ih⟩
    rcases List.mem_cons.mp hz with rfl | hz
    · exact hxy
    · exact strLe_trans _ _ _ hxy ((List.pairwise_cons.mp ih).1 z hz)
theorem sorted_one {ks ys : List Str} (p : ys.Perm ks) (s : PyProof.Rows.sortedS ys = true) : ys = ks.mergeSort strLe := by
  have h1 : ys.Pairwise fun a b => strLe a b = true := by
    cases ys with
    | nil => exact List.Pairwise.nil
    | cons x r => exact rising_pw r x s
  have h2 : (ks.mergeSort strLe).Pairwise fun a b => strLe a b = true := List.pairwise_mergeSort (fun a b c => strLe_trans a b c) (fun a b => by
    rcases strLe_total a b with h | h
    · rw [h]; rfl
    · rw [h]; exact Bool.or_true _) ks
  exact List.Perm.eq_of_pairwise (fun a b _ _ e1 e2 => strLe_antisymm e1 e2) h1 h2 (p.trans (List.mergeSort_perm ks strLe).symm)
theorem call_bf (hc : X.calm = true) (hg : X.A.guards = some []) (hu : X.A.units + 80 < cLine) (f : Bf) : CallR X f.val (rCall X.K (callD f)) := by
  intro pins s σ H vs us Q I r h
  obtain ⟨G, ds, rr, e, hr, hf, q⟩ := h
  unfold callD at hf
  split at hf
  · obtain ⟨n, h1, rfl⟩ := Option.map_eq_some_iff.mp hf
    obtain ⟨x, rfl, hx⟩ := Reps.one' hr
    unfold lenD at h1
    split at h1
    · split at h1
      · rename_i hz
        cases h1; cases hx
        refine call_len_str pins s σ H _ us Q I r ⟨_, rfl, ?_, ?_⟩
        · have := sz_line hz
          rw [len_tl] at this
          exact this
        · rw [← len_tl]
          exact q _ _ _ (Post.same e rfl)
      · cases h1
    · cases h1
      obtain ⟨p, xs, rfl, hp, rp⟩ := hx
      refine call_len_seq pins s σ H _ us Q I r ⟨p, xs, rfl, .inl (SqL.of (e _ _ hp)), ?_⟩
      rw [← rp.len]
      exact q _ _ _ (Post.same e rfl)
    · cases h1
      obtain ⟨p, xs, rfl, hp, rp⟩ := hx
      refine call_len_seq pins s σ H _ us Q I r ⟨p, xs, rfl, .inr (ex_t e hp), ?_⟩
      rw [← rp.len]
      exact q _ _ _ (Post.same e rfl)
    · cases h1
  · obtain ⟨bs, h1, rfl⟩ := Option.map_eq_some_iff.mp hf
    obtain ⟨x, rfl, p, xs, rfl, hp, rp⟩ := Reps.one' hr
    refine cr_all hc pins s σ H _ us Q I r ⟨p, bs, rfl, ?_, q _ _ _ (Post.same e rfl)⟩
    rw [← asBools_ok h1 rp]
    exact SqL.of (e _ _ hp)
  · obtain ⟨bs, h1, rfl⟩ := Option.map_eq_some_iff.mp hf
    obtain ⟨x, rfl, p, xs, rfl, hp, rp⟩ := Reps.one' hr
    refine cr_any hc pins s σ H _ us Q I r ⟨p, bs, rfl, ?_, q _ _ _ (Post.same e rfl)⟩
    rw [← asBools_ok h1 rp]
    exact SqL.of (e _ _ hp)
  · obtain ⟨bs, h1, rfl⟩ := Option.map_eq_some_iff.mp hf
    obtain ⟨x, rfl, p, xs, rfl, hp, rp⟩ := Reps.one' hr
    refine cr_sum hc pins s σ H _ us Q I r ⟨p, bs, rfl, ?_, q _ _ _ (Post.same e rfl)⟩
    rw [← asInts_ok h1 rp]
    exact SqL.of (e _ _ hp)
  · cases hf
    obtain ⟨x, y, rfl, hx, hy⟩ := Reps.two' hr
    cases hx; cases hy
    exact call_max2 hc pins s σ H _ us Q I r ⟨_, _, rfl, q _ _ _ (Post.same e rfl)⟩
  · cases hf
    obtain ⟨x, y, rfl, hx, hy⟩ := Reps.two' hr
    cases hx; cases hy
    exact call_min2 hc pins s σ H _ us Q I r ⟨_, _, rfl, q _ _ _ (Post.same e rfl)⟩
  · cases hf
    obtain ⟨x, rfl, hx⟩ := Reps.one' hr
    cases hx
    exact call_abs pins s σ H _ us Q I r ⟨_, rfl, q _ _ _ (Post.same e rfl)⟩
  · cases hf
    obtain ⟨x, rfl, hx⟩ := Reps.one' hr
    cases hx
    exact call_int1 pins s σ H _ us Q I r (.inl ⟨_, rfl, q _ _ _ (Post.same e rfl)⟩)
  · rename_i z
    split at hf
    · rename_i c
      cases hf
      obtain ⟨c1, c2⟩ := Bool.and_eq_true_iff.mp c
      obtain ⟨c3, c4⟩ := Bool.and_eq_true_iff.mp c2
      have l1 := Nat.le_of_ble_eq_true c3
      have l2 := Nat.le_of_ble_eq_true c4
      obtain ⟨x, rfl, hx⟩ := Reps.one' hr
      cases hx
      have hl := len_tl z
      refine call_int_str pins s σ H _ us Q I r ⟨z, _, rfl, PySem.intText_digits (fun c hc => ?_) (fun w => ?_) (by omega), by omega, q _ _ _ (Post.same e rfl)⟩
      · have h1 := List.all_eq_true.mp c1 c hc
        obtain ⟨h2, h3⟩ := Bool.and_eq_true_iff.mp h1
        exact ⟨Nat.le_of_ble_eq_true h2, Nat.le_of_ble_eq_true h3⟩
      · have : (tl z).length = 0 := by rw [show tl z = [] from w]; rfl
        omega
    · cases hf
  · rename_i i
    split at hf
    · rename_i c
      cases hf
      have h2 := inR_ok c
      obtain ⟨x, rfl, hx⟩ := Reps.one' hr
      cases hx
      refine call_str_int pins s σ H _ us Q I r ⟨i, rfl, ?_, ?_⟩
      · have : i.natAbs < 2 ^ 1920 := Nat.lt_of_lt_of_le (m := 2 ^ 40) (by omega) (Nat.pow_le_pow_right (by decide) (by decide))
        by_cases h0 : i.natAbs = 0
        · rw [h0]; decide
        · exact (Nat.log2_lt h0).mpr this
      · have e1 : (toString i : Str) = mkS (TL.numL i.toNat) := by
          refine TL.ext_tl ?_
          have e2 : i = ((i.toNat : Nat) : Int) := (Int.toNat_of_nonneg h2.1).symm
          have e3 := TL.tl_num i.toNat
          rw [← e2] at e3
          exact e3
        rw [e1]
        exact q _ _ _ (Post.same e rfl)
    · cases hf
  · cases hf
    obtain ⟨x, rfl, p, xs, rfl, hp, rp⟩ := Reps.one' hr
    exact call_list_of pins s σ H _ us Q I r ⟨p, xs, rfl, .inl (SqL.of (e _ _ hp)), fun l hl => q _ _ _ (Post.lst e hl rp)⟩
  · cases hf
    obtain ⟨x, rfl, p, xs, rfl, hp, rp⟩ := Reps.one' hr
    exact call_list_of pins s σ H _ us Q I r ⟨p, xs, rfl, .inr (ex_t e hp), fun l hl => q _ _ _ (Post.lst e hl rp)⟩
  · cases hf
    obtain ⟨x, rfl, p, xs, rfl, hp, rp⟩ := Reps.one' hr
    exact call_tuple_of pins s σ H _ us Q I r ⟨p, xs, rfl, .inl ⟨SqL.of (e _ _ hp), fun l hl => q _ _ _ (Post.tup e hl rp)⟩⟩
  · cases hf
    obtain ⟨x, rfl, p, xs, rfl, hp, rp⟩ := Reps.one' hr
    exact call_tuple_of pins s σ H _ us Q I r ⟨p, xs, rfl, .inr ⟨ex_t e hp, q _ _ _ (Post.same e ⟨p, xs, rfl, hp, rp⟩)⟩⟩
  · cases hf
    obtain ⟨x, rfl, p, xs, rfl, hp, rp⟩ := Reps.one' hr
    obtain ⟨u, rfl, ru⟩ := vals1 r
    cases ru
    exact d_copyOf I (Rd.of (e _ _ hp)) fun l s' hl I' => ⟨.ref l, _, I', rfl, q _ _ _ (Post.dct e hl rp)⟩
  · split at hf
    · rename_i c
      cases hf
      obtain ⟨c1, c2⟩ := Bool.and_eq_true_iff.mp c
      obtain ⟨c3, c4⟩ := Bool.and_eq_true_iff.mp c2
      obtain ⟨c5, c6⟩ := Bool.and_eq_true_iff.mp c4
      obtain ⟨x, rfl, p, xs, rfl, hp, rp⟩ := Reps.one' hr
      obtain ⟨u, rfl, ru⟩ := vals1 r
      cases ru
      exact call_sorted_ok (by omega) I e (e _ _ hp) rp c1 c3 c5 c6 q
    · cases hf
  · split at hf
    · rename_i ks hk
      split at hf
      · rename_i c
        cases hf
        obtain ⟨x, rfl, p, xs, rfl, hp, rp⟩ := Reps.one' hr
        refine call_sortedD hc pins s σ H _ us Q I r ⟨p, xs, ks, rfl, Rd.of (e _ _ hp), keyStrs_ok hk rp, Nat.lt_succ_of_le (Nat.le_of_ble_eq_true c), fun ys l hy hs hl => ?_⟩
        rw [sorted_one hy hs]
        exact q _ _ _ (Post.lst e hl Reps.strs)
      · cases hf
    · cases hf
  · split at hf
    · rename_i c
      cases hf
      have h2 := inR_ok c
      obtain ⟨x, y, rfl, hx, hy⟩ := Reps.two' hr
      cases hx; cases hy
      exact call_divmod pins s σ H _ us Q I r ⟨_, _, rfl, ⟨by omega, by omega⟩, fun l hl => q _ _ _ (Post.tup e hl ⟨_, _, rfl, rfl, _, _, rfl, rfl, rfl⟩)⟩
    · cases hf
  · rename_i ds
    split at hf
    · rename_i c
      cases hf
      obtain ⟨c1, c2⟩ := Bool.and_eq_true_iff.mp c
      obtain ⟨c3, c4⟩ := Bool.and_eq_true_iff.mp c2
      obtain ⟨x, rfl, hx⟩ := Reps.one' hr
      have nd := PyData.hasDict_of_canLay _ (shaped_lay c1)
      have dep := SeqAt.depth_of_shaped c1
      have hx2 := hx
      obtain ⟨p, xs, rfl, hp, rp⟩ := hx
      obtain ⟨u, rfl, ru⟩ := vals1 r
      cases ru
      obtain ⟨as, rd⟩ := Dp.reads I _ _ _ (Rep.dp0 _ _ nd (Rep.ex e _ _ hx2)) rfl
      exact PySem.repr_of_reads' rd c3 (PySem.PyData.noDict_hsm nd) hg (by omega) (fun _ _ h => h) (fun h' u tk k => ⟨.str _, H, I.kept k, ⟨_, rfl⟩, q _ _ _ (Post.same e rfl)⟩) (sz_line c4)
    · cases hf
  · rename_i ds
    split at hf
    · rename_i c
      cases hf
      obtain ⟨c1, c2⟩ := Bool.and_eq_true_iff.mp c
      obtain ⟨c3, c4⟩ := Bool.and_eq_true_iff.mp c2
      obtain ⟨x, rfl, hx⟩ := Reps.one' hr
      have nd := PyData.hasDict_of_canLay _ (shaped_lay c1)
      have dep := SeqAt.depth_of_shaped c1
      have hx2 := hx
      obtain ⟨p, xs, rfl, hp, rp⟩ := hx
      obtain ⟨u, rfl, ru⟩ := vals1 r
      cases ru
      obtain ⟨as, rd⟩ := Dp.reads I _ _ _ (Rep.dp0 _ _ nd (Rep.ex e _ _ hx2)) rfl
      exact PySem.repr_of_reads' rd c3 (PySem.PyData.noDict_hsm nd) hg (by omega) (fun _ _ h => h) (fun h' u tk k => ⟨.str _, H, I.kept k, ⟨_, rfl⟩, q _ _ _ (Post.same e rfl)⟩) (sz_line c4)
    · cases hf
  · cases hf
end
end Pd
set_option Elab.async false
set_option linter.all false
set_option maxRecDepth 100000
set_option maxHeartbeats 2000000
namespace Pd
open PySem PySem.Spec PyProof.Rows L2
open Evl (Ex Ex.refl Ex.trans ex_rd ex_l ex_t)

/-! ### readings by data -/
structure Kc where
  K : PySem.W.Frag
  cl : Str → Value
def RepF (K : PySem.W.Frag) (H : Hp) : List (Str × D) → List (Str × V) → Prop
  | [], fs => fs = []
  | (n, d) :: r, fs => ∃ v t, fs = (n, v) :: t ∧ Rep K H d v ∧ RepF K H r t
def XRep (C : Kc) (G H : Hp) (x : Xc) (c : Value) (d : Option Addr) : Prop := c = C.cl x.cls ∧ match d with
  | none => x.fs = []
  | some a => ∃ fs, H a = some (.xd fs) ∧ RepF C.K G x.fs fs
section
variable (C : Kc) (W : WX)
def After {α : Type} (Bn G : Hp) (σ : L2.St) (r : Rs α) (k : Hp → Hp → Env → α → Prop) : Prop := match r with
  | .ok a e => ∀ G' H', Ex G G' → SI C.K Bn G' H' e σ → k G' H' e a
  | .ex x e => ∀ G' H' c d, Ex G G' → SI C.K Bn G' H' e σ → XRep C G' H' x c d → W c d σ H'
  | .bad => False
def tR {α β : Type} (P : Hp → Hp → Hp → Env → L2.St → α → β → Prop) (ev : Env → Rs α) (σ : L2.St) (H : Hp) (Q : β → Hp → Prop) : Prop :=
  ∃ Bn G env, SI C.K Bn G H env σ ∧ After C W Bn G σ (ev env) fun G' H' e a => ∀ b, P Bn G' H' e σ a b → Q b H'
abbrev PRes (Bn G H : Hp) (e : Env) (σ : L2.St) (r : Ar) (v : V) : Prop := Res C.K Bn G H e σ r v
abbrev PRep (Bn G H : Hp) (e : Env) (σ : L2.St) (r : D) (v : V) : Prop := Rep C.K G r v
abbrev PReps (Bn G H : Hp) (e : Env) (σ : L2.St) (r : List D) (v : List V) : Prop := Reps C.K G r v
abbrev PBor (Bn G H : Hp) (e : Env) (σ : L2.St) (r : D) (v : V) : Prop := BRep C.K G H r v
abbrev PEq {α : Type} (Bn G H : Hp) (e : Env) (σ : L2.St) (r : α) (v : α) : Prop := v = r
abbrev EvE := Env → Rs Ar
abbrev EvD := Env → Rs D
abbrev EvB := Env → Rs Bool
abbrev EvA := Env → Rs (List D)
abbrev tE (ev : EvE) : TE := tR C W (PRes C) ev
abbrev tD (ev : EvD) : TE := tR C W (PRep C) ev
abbrev tBo (ev : EvD) : TE := tR C W (PBor C) ev
abbrev tT (ev : EvB) : TT := tR C W PEq ev
abbrev tA (ev : EvA) : TA := tR C W (PReps C) ev
end
section
variable {C : Kc} {W : WX} {Bn G G1 : Hp} {σ : L2.St}
theorem After.base {α : Type} {r : Rs α} {k : Hp → Hp → Env → α → Prop} (e : Ex G G1) (h : After C W Bn G σ r k) : After C W Bn G1 σ r k := by
  cases r with
  | ok a e' => exact fun G' H' x S => h G' H' (e.trans x) S
  | ex a e' => exact fun G' H' c d x S X => h G' H' c d (e.trans x) S X
  | bad => exact h
theorem After.imp {α : Type} {r : Rs α} {k k' : Hp → Hp → Env → α → Prop} (h : After C W Bn G σ r k) (f : ∀ G' H' e a, Ex G G' → SI C.K Bn G' H' e σ → k G' H' e a → k' G' H' e a) : After C W Bn G σ r k' := by
  cases r with
  | ok a e' => exact fun G' H' x S => f G' H' e' a x S (h G' H' x S)
  | ex a e' => exact h
  | bad => exact h
theorem After.bind {α β : Type} {r : Rs α} {f : α → Env → Rs β} {k : Hp → Hp → Env → β → Prop} (h : After C W Bn G σ (r.bind f) k) : After C W Bn G σ r fun G1 H1 e a => After C W Bn G1 σ (f a e) k := by
  cases r with
  | ok a e' => exact fun G' H' x S => After.base x h
  | ex a e' => exact h
  | bad => exact h
/-- an ok end, at once -/
theorem After.now {α : Type} {a : α} {e : Env} {H : Hp} {k : Hp → Hp → Env → α → Prop} (h : After C W Bn G σ (.ok a e) k) (S : SI C.K Bn G H e σ) : k G H e a := h G H (Ex.refl G) S
end

/-! ### a context -/
structure Rm (X : Cx) (k : Nat) (C : Kc) (W : WX) : Prop where
  room : Room k X.A
  gd : X.A.guards = some []
  calm : X.calm = true
  nd : X.N.Nodup
  kk : X.K = C.K
  tk : Takes X W
  own : PassesOwn (model X.prog X.w) X.A X.env X.xe
  dg : X.base.NoDigits
section
variable {X : Cx} {k : Nat} {C : Kc} {W : WX} {a b e : Expr} {pos : Pos} {ea eb : EvE}
theorem Rm.un (R : Rm X k C W) : X.A.units + 80 < cLine := by
  have := R.room.un
  omega
theorem pe_imp {t t' : TE} (h : PE X e t) (f : ∀ σ H Q, t' σ H Q → t σ H Q) : PE X e t' := ⟨fun pins s σ H Q I hw => h.run pins s σ H Q I (f σ H Q hw)⟩
theorem pt_imp {t t' : TT} (h : PT X e t) (f : ∀ σ H Q, t' σ H Q → t σ H Q) : PT X e t' := ⟨fun pins s σ H Q I hw => h.run pins s σ H Q I (f σ H Q hw)⟩
theorem pw_imp {t t' : TT} (h : PW X e t) (f : ∀ σ H Q, t' σ H Q → t σ H Q) : PW X e t' := ⟨fun wh pins s σ H Q I hw => h.run wh pins s σ H Q I (f σ H Q hw)⟩
theorem pa_imp {es : List Expr} {t t' : TA} (h : PA X es t) (f : ∀ σ H Q, t' σ H Q → t σ H Q) : PA X es t' := ⟨fun pos pins s σ H Q I hw => h.run pos pins s σ H Q I (f σ H Q hw)⟩
theorem pi_imp {tg : Expr} {t t' : TI} (h : PI X tg e t) (f : ∀ σ H Q, t' σ H Q → t σ H Q) : PI X tg e t' := ⟨fun pins s σ H Q I hw => h.run pins s σ H Q I (f σ H Q hw)⟩

/-! ### values become known -/
def evD (ev : EvE) : EvD := fun env => (ev env).bind fun r e => .ok r.x e
theorem r_D {σ : L2.St} {H : Hp} {Q : VK} (h : tD C W (evD ea) σ H Q) : tE C W ea σ H Q := by
  obtain ⟨Bn, G, env, S, h⟩ := h
  refine ⟨Bn, G, env, S, h.bind.imp fun G1 H1 e r x S1 h v hr => ?_⟩
  cases r with
  | d x => exact h G1 H1 (Ex.refl _) S1 v hr
  | o x =>
    obtain ⟨p, rfl, ho⟩ := hr
    exact h _ H1 (frz_ex ho.g) (S1.frzA ho) _ (ORep.frz ho.g ho.r)
theorem q_D (h : PE X e (tE C W ea)) : PE X e (tD C W (evD ea)) := pe_imp h fun _ _ _ => r_D

/-! ### names, constants -/
def evVar (i : Nat) : EvE := fun env => match env[i]? with
  | some (.d x) => .ok (.d x) env
  | some (.o x) => .ok (.d x) (env.set i (.d x))
  | _ => .bad
theorem r_var {i : Nat} {σ : L2.St} {H : Hp} {Q : VK} (h : tE C W (evVar i) σ H Q) : tVar i σ H Q := by
  obtain ⟨Bn, G, env, S, h⟩ := h
  unfold evVar at h
  split at h
  · rename_i x e
    obtain ⟨v, h1, h2⟩ := S.dat i x e
    exact ⟨v, h1, h.now S v h2⟩
  · rename_i x e
    obtain ⟨p, h1, h2⟩ := S.own i x e
    obtain ⟨S1, r1, x1⟩ := S.frzS e h1
    exact ⟨_, h1, h _ H x1 S1 _ r1⟩
  · exact h.elim
theorem q_var {i : Nat} {x : Str} (hN : X.N[i]? = some x) (hv : Vis X.env.scope x) (hd : (x == ("__debug__" : Str)) = false := by decide) (hcd : (x == ("__classdict__" : Str)) = false := by decide) : PE X (.Name x pos) (tE C W (evVar i)) :=
  pe_imp (pe_var hN hv hd hcd) fun _ _ _ => r_var
/-- looked at alone -/
def evBor (i : Nat) : EvD := fun env => match env[i]? with
  | some (.d x) => .ok x env
  | some (.o x) => .ok x env
  | _ => .bad
theorem r_bor {i : Nat} {σ : L2.St} {H : Hp} {Q : VK} (h : tBo C W (evBor i) σ H Q) : tVar i σ H Q := by
  obtain ⟨Bn, G, env, S, h⟩ := h
  unfold evBor at h
  split at h
  · rename_i x e
    obtain ⟨v, h1, h2⟩ := S.dat i x e
    exact ⟨v, h1, h.now S v (BRep.of S.ex h2)⟩
  · rename_i x e
    obtain ⟨p, h1, _, _, h2⟩ := S.own i x e
    exact ⟨_, h1, h.now S _ (BRep.own h2)⟩
  · exact h.elim
theorem q_bor {i : Nat} {x : Str} (hN : X.N[i]? = some x) (hv : Vis X.env.scope x) (hd : (x == ("__debug__" : Str)) = false := by decide) (hcd : (x == ("__classdict__" : Str)) = false := by decide) : PE X (.Name x pos) (tBo C W (evBor i)) :=
  pe_imp (pe_var hN hv hd hcd) fun _ _ _ => r_bor
theorem r_bo {ed : EvD} {σ : L2.St} {H : Hp} {Q : VK} (h : tBo C W ed σ H Q) : tD C W ed σ H Q := by
  obtain ⟨Bn, G, env, S, h⟩ := h
  exact ⟨Bn, G, env, S, h.imp fun G1 H1 e r x S1 h v hr => h v (BRep.of S1.ex hr)⟩
/-- any expression, looked at -/
theorem q_bo (h : PE X e (tE C W ea)) : PE X e (tBo C W (evD ea)) := pe_imp (q_D h) fun _ _ _ => r_bo
def evC (d : D) : EvE := fun env => .ok (.d d) env
def vD : D → Option V
  | .none => some .non
  | .bool b => some (.bl b)
  | .int i => some (.int i)
  | .str s => some (.str s)
  | _ => none
theorem vD_rep {K : PySem.W.Frag} {G : Hp} {d : D} {v : V} (h : vD d = some v) : Rep K G d v := by
  cases d <;> cases h <;> rfl
theorem q_c {d : D} {v : V} (h : PE X e (tC v)) (hv : vD d = some v := by rfl) : PE X e (tE C W (evC d)) := pe_imp h fun σ H Q hw => by
  obtain ⟨Bn, G, env, S, h⟩ := hw
  exact h.now S v (vD_rep hv)
theorem q_int {i : Int} {j : Nat} : PE X (.Constant (.int i) j pos) (tE C W (evC (.int i))) := q_c pe_int
theorem q_bl {i : Bool} {j : Nat} : PE X (.Constant (.bool i) j pos) (tE C W (evC (.bool i))) := q_c pe_bl
theorem q_non {j : Nat} : PE X (.Constant .none j pos) (tE C W (evC .none)) := q_c pe_non
theorem q_str {i : Str} {j : Nat} : PE X (.Constant (.str i) j pos) (tE C W (evC (.str i))) := q_c pe_str

/-! ### operations -/
def ofO {α : Type} (o : Option α) (env : Env) : Rs α := match o with
  | some r => .ok r env
  | none => .bad
theorem ofO_some {α : Type} {o : Option α} {env : Env} {Bn G : Hp} {σ : L2.St} {k : Hp → Hp → Env → α → Prop} (h : After C W Bn G σ (ofO o env) k) : ∃ r, o = some r ∧ ∀ G' H', Ex G G' → SI C.K Bn G' H' env σ → k G' H' env r := by
  cases o with
  | none => exact h.elim
  | some r => exact ⟨r, rfl, h⟩
def evBin (f : D → D → Option Ar) (ea eb : EvE) : EvE := fun env => (evD ea env).bind fun x e1 => (evD eb e1).bind fun y e2 => ofO (f x y) e2
theorem r_bin {f : D → D → Option Ar} {ea eb : EvE} {σ : L2.St} {H : Hp} {Q : VK} (h : tE C W (evBin f ea eb) σ H Q) : tOp (rBin C.K f) (tD C W (evD ea)) (tD C W (evD eb)) σ H Q := by
  obtain ⟨Bn, G, env, S, h⟩ := h
  refine ⟨Bn, G, env, S, h.bind.imp fun G1 H1 e1 x x1 S1 h v hv => ⟨Bn, G1, e1, S1, h.bind.imp fun G2 H2 e2 y x2 S2 h u hu => ?_⟩⟩
  obtain ⟨r, hr, h⟩ := ofO_some h
  exact ⟨G2, x, y, r, S2.ex, Rep.ex x2 _ _ hv, hu, hr, fun w G3 H3 P => h G3 H3 P.gx (S2.post P).1 w (S2.post P).2⟩
theorem q_bin (R : Rm X k C W) {op : Operator} (ha : PE X a (tE C W ea)) (hb : PE X b (tE C W eb)) : PE X (.BinOp a op b pos) (tE C W (evBin (binD op) ea eb)) :=
  pe_imp (pe_op (by have := op_bin (X := X) op; rw [R.kk] at this; exact this) (q_D ha) (q_D hb)) fun _ _ _ => r_bin
def evNeg (ea : EvE) : EvE := fun env => (evD ea env).bind fun x e => match x with
  | .int i => .ok (.d (.int (-i))) e
  | _ => .bad
theorem q_neg (ha : PE X a (tE C W ea)) : PE X (.UnaryOp .USub a pos) (tE C W (evNeg ea)) := pe_imp (pe_un un_neg (q_D ha)) fun σ H Q hw => by
  obtain ⟨Bn, G, env, S, h⟩ := hw
  refine ⟨Bn, G, env, S, h.bind.imp fun G1 H1 e1 x x1 S1 h v hv => ?_⟩
  cases x with
  | int i => cases hv; exact ⟨i, rfl, h.now S1 _ rfl⟩
  | _ => exact h.elim
def evCmp (f : D → D → Option Bool) (ea eb : EvE) : EvE := fun env => (evD ea env).bind fun x e1 => (evD eb e1).bind fun y e2 => ofO ((f x y).map fun b => .d (.bool b)) e2
theorem r_cmp {f : D → D → Option Bool} {ea eb : EvE} {σ : L2.St} {H : Hp} {Q : VK} (h : tE C W (evCmp f ea eb) σ H Q) : tOp (rCmp C.K f) (tD C W (evD ea)) (tD C W (evD eb)) σ H Q := by
  obtain ⟨Bn, G, env, S, h⟩ := h
  refine ⟨Bn, G, env, S, h.bind.imp fun G1 H1 e1 x x1 S1 h v hv => ⟨Bn, G1, e1, S1, h.bind.imp fun G2 H2 e2 y x2 S2 h u hu => ?_⟩⟩
  obtain ⟨r, hr, h⟩ := ofO_some h
  obtain ⟨b, hb, rfl⟩ := Option.map_eq_some_iff.mp hr
  exact ⟨x, y, b, Rep.ex (x2.trans S2.ex) _ _ hv, Rep.ex S2.ex _ _ hu, hb, h G2 H2 (Ex.refl _) S2 _ rfl⟩
/-- the right side looked at alone -/
def evCmpB (f : D → D → Option Bool) (ea : EvE) (eb : EvD) : EvE := fun env => (evD ea env).bind fun x e1 => (eb e1).bind fun y e2 => ofO ((f x y).map fun b => .d (.bool b)) e2
theorem r_cmpB {f : D → D → Option Bool} {ea : EvE} {eb : EvD} {σ : L2.St} {H : Hp} {Q : VK} (h : tE C W (evCmpB f ea eb) σ H Q) : tOp (rCmp C.K f) (tD C W (evD ea)) (tBo C W eb) σ H Q := by
  obtain ⟨Bn, G, env, S, h⟩ := h
  refine ⟨Bn, G, env, S, h.bind.imp fun G1 H1 e1 x x1 S1 h v hv => ⟨Bn, G1, e1, S1, h.bind.imp fun G2 H2 e2 y x2 S2 h u hu => ?_⟩⟩
  obtain ⟨r, hr, h⟩ := ofO_some h
  obtain ⟨b, hb, rfl⟩ := Option.map_eq_some_iff.mp hr
  exact ⟨x, y, b, Rep.ex (x2.trans S2.ex) _ _ hv, BRep.rep S2.ex hu, hb, h G2 H2 (Ex.refl _) S2 _ rfl⟩
theorem opc (R : Rm X k C W) (op : CmpOp) : OpR X (compareOp op) (rCmp C.K (cmpD op)) := by
  have := op_cmp (X := X) (by have := R.un; omega) op
  rw [R.kk] at this
  exact this
theorem q_cmp (R : Rm X k C W) {op : CmpOp} (ha : PE X a (tE C W ea)) (hb : PE X b (tE C W eb)) (hm : behindInMarks op b = false := by rfl) : PE X (.Compare a [op] [b] pos) (tE C W (evCmp (cmpD op) ea eb)) :=
  pe_imp (pe_cmpR (opc R op) (q_D ha) (q_D hb) hm) fun _ _ _ => r_cmp
theorem q_cmpB (R : Rm X k C W) {op : CmpOp} {eb : EvD} (ha : PE X a (tE C W ea)) (hb : PE X b (tBo C W eb)) (hm : behindInMarks op b = false := by rfl) : PE X (.Compare a [op] [b] pos) (tE C W (evCmpB (cmpD op) ea eb)) :=
  pe_imp (pe_cmpR (opc R op) (q_D ha) hb hm) fun _ _ _ => r_cmpB

/-! ### tests -/
def boolD : Ar → Option Bool
  | .d (.bool b) => some b
  | _ => none
def evIs (ea : EvE) : EvB := fun env => (ea env).bind fun r e => ofO (boolD r) e
theorem r_is {σ : L2.St} {H : Hp} {Q : Bool → Hp → Prop} (h : tT C W (evIs ea) σ H Q) : tTest (tE C W ea) σ H Q := by
  obtain ⟨Bn, G, env, S, h⟩ := h
  refine ⟨Bn, G, env, S, h.bind.imp fun G1 H1 e1 r x1 S1 h v hv => ?_⟩
  obtain ⟨b, hb, h⟩ := ofO_some h
  cases r with
  | o x => cases hb
  | d x =>
    cases x with
    | bool c => cases hb; cases hv; exact ⟨_, rfl, h G1 H1 (Ex.refl _) S1 _ rfl⟩
    | _ => cases hb
theorem r_tst {t : TE} {σ : L2.St} {H : Hp} {Q : Bool → Hp → Prop} (f : ∀ σ H Q, tE C W ea σ H Q → t σ H Q) (h : tT C W (evIs ea) σ H Q) : tTest t σ H Q := f _ _ _ (r_is h)
theorem q_tcmp (R : Rm X k C W) {op : CmpOp} (ha : PE X a (tE C W ea)) (hb : PE X b (tE C W eb)) (hm : behindInMarks op b = false := by rfl) : PT X (.Compare a [op] [b] pos) (tT C W (evIs (evCmp (cmpD op) ea eb))) :=
  pt_imp (pt_cmpR (opc R op) (q_D ha) (q_D hb) hm) fun _ _ _ => r_tst fun _ _ _ => r_cmp
theorem q_tcmpB (R : Rm X k C W) {op : CmpOp} {eb : EvD} (ha : PE X a (tE C W ea)) (hb : PE X b (tBo C W eb)) (hm : behindInMarks op b = false := by rfl) : PT X (.Compare a [op] [b] pos) (tT C W (evIs (evCmpB (cmpD op) ea eb))) :=
  pt_imp (pt_cmpR (opc R op) (q_D ha) hb hm) fun _ _ _ => r_tst fun _ _ _ => r_cmpB
/-- a < b < c -/
def evChn (f g : D → D → Option Bool) (ea eb ec : EvE) : EvE := fun env => (evD ea env).bind fun x e1 => (evD eb e1).bind fun y e2 => (ofO (f x y) e2).bind fun b e2 => match b with
  | true => (evD ec e2).bind fun z e3 => ofO ((g y z).map fun b => .d (.bool b)) e3
  | false => .ok (.d (.bool false)) e2
theorem r_chn {f g : D → D → Option Bool} {ea eb ec : EvE} {σ : L2.St} {H : Hp} {Q : VK} (h : tE C W (evChn f g ea eb ec) σ H Q) : tChain (rCmp C.K f) (rCmp C.K g) (tD C W (evD ea)) (tD C W (evD eb)) (tD C W (evD ec)) σ H Q := by
  obtain ⟨Bn, G, env, S, h⟩ := h
  refine ⟨Bn, G, env, S, h.bind.imp fun G1 H1 e1 x x1 S1 h v hv => ⟨Bn, G1, e1, S1, h.bind.imp fun G2 H2 e2 y x2 S2 h u hu => ?_⟩⟩
  obtain ⟨b, hb, h⟩ := ofO_some h.bind
  refine ⟨x, y, b, Rep.ex (x2.trans S2.ex) _ _ hv, Rep.ex S2.ex _ _ hu, hb, b, rfl, ?_⟩
  have h := h G2 H2 (Ex.refl _) S2
  cases b with
  | false => exact h.now S2 _ rfl
  | true =>
    refine ⟨Bn, G2, e2, S2, h.bind.imp fun G3 H3 e3 z x3 S3 h w hw => ?_⟩
    obtain ⟨r, hr, h⟩ := ofO_some h
    obtain ⟨c, hc, rfl⟩ := Option.map_eq_some_iff.mp hr
    exact ⟨y, z, c, Rep.ex (x3.trans S3.ex) _ _ hu, Rep.ex S3.ex _ _ hw, hc, h G3 H3 (Ex.refl _) S3 _ rfl⟩
theorem q_chn (R : Rm X k C W) {c : Expr} {ec : EvE} {op op' : CmpOp} (ha : PE X a (tE C W ea)) (hb : PE X b (tE C W eb)) (hc : PE X c (tE C W ec)) (hm : lastMarks [op, op'] [b, c] = false := by with_unfolding_all rfl) :
    PE X (.Compare a [op, op'] [b, c] pos) (tE C W (evChn (cmpD op) (cmpD op') ea eb ec)) := pe_imp (pe_chain (opc R op) (opc R op') (q_D ha) (q_D hb) (q_D hc) hm) fun _ _ _ => r_chn
theorem q_tchn (R : Rm X k C W) {c : Expr} {ec : EvE} {op op' : CmpOp} (ha : PE X a (tE C W ea)) (hb : PE X b (tE C W eb)) (hc : PE X c (tE C W ec)) (hm : lastMarks [op, op'] [b, c] = false := by with_unfolding_all rfl) :
    PT X (.Compare a [op, op'] [b, c] pos) (tT C W (evIs (evChn (cmpD op) (cmpD op') ea eb ec))) := pt_imp (pt_chain (opc R op) (opc R op') (q_D ha) (q_D hb) (q_D hc) hm) fun _ _ _ => r_tst fun _ _ _ => r_chn
/-- an expression that is a bool -/
theorem q_tis (h : PE X e (tE C W ea)) (he : ∀ whole, isTrue e X.env whole = (do let v ← whole; standAt e.pos; holding [v] (truthy v)) := by intro _; rfl) : PT X e (tT C W (evIs ea)) :=
  pt_imp (pt_val h he) fun σ H Q hw => by
    obtain ⟨Bn, G, env, S, h⟩ := hw
    refine ⟨Bn, G, env, S, h.bind.imp fun G1 H1 e1 r x1 S1 h v hv => ?_⟩
    obtain ⟨b, hb, h⟩ := ofO_some h
    cases r with
    | o x => cases hb
    | d x =>
      cases x with
      | bool c => cases hb; cases hv; exact ⟨_, rfl, h G1 H1 (Ex.refl _) S1 _ rfl⟩
      | _ => cases hb
def evAnd (ta tb : EvB) : EvB := fun env => (ta env).bind fun b e => match b with
  | true => tb e
  | false => .ok false e
def evOr (ta tb : EvB) : EvB := fun env => (ta env).bind fun b e => match b with
  | true => .ok true e
  | false => tb e
def evNot (ta : EvB) : EvB := fun env => (ta env).bind fun b e => .ok (!b) e
variable {ta tb : EvB} {rest : List Expr}
theorem q_and (ha : PT X a (tT C W ta)) (hb : PW X (.BoolOp .And (b :: rest) pos) (tT C W tb)) : PW X (.BoolOp .And (a :: b :: rest) pos) (tT C W (evAnd ta tb)) := pw_imp (pw_and ha hb) fun σ H Q hw => by
  obtain ⟨Bn, G, env, S, h⟩ := hw
  refine ⟨Bn, G, env, S, h.bind.imp fun G1 H1 e1 r x1 S1 h v hv => ?_⟩
  subst hv
  cases v with
  | true => exact ⟨Bn, G1, e1, S1, h⟩
  | false => exact h.now S1 _ rfl
theorem q_or (ha : PT X a (tT C W ta)) (hb : PW X (.BoolOp .Or (b :: rest) pos) (tT C W tb)) : PW X (.BoolOp .Or (a :: b :: rest) pos) (tT C W (evOr ta tb)) := pw_imp (pw_or ha hb) fun σ H Q hw => by
  obtain ⟨Bn, G, env, S, h⟩ := hw
  refine ⟨Bn, G, env, S, h.bind.imp fun G1 H1 e1 r x1 S1 h v hv => ?_⟩
  subst hv
  cases v with
  | false => exact ⟨Bn, G1, e1, S1, h⟩
  | true => exact h.now S1 _ rfl
theorem q_and1 (ha : PT X a (tT C W ta)) : PW X (.BoolOp .And [a] pos) (tT C W ta) := pw_and1 ha
theorem q_or1 (ha : PT X a (tT C W ta)) : PW X (.BoolOp .Or [a] pos) (tT C W ta) := pw_or1 ha
theorem q_not (ha : PT X a (tT C W ta)) : PT X (.UnaryOp .Not a pos) (tT C W (evNot ta)) := pt_imp (pt_not ha) fun σ H Q hw => by
  obtain ⟨Bn, G, env, S, h⟩ := hw
  refine ⟨Bn, G, env, S, h.bind.imp fun G1 H1 e1 r x1 S1 h v hv => ?_⟩
  subst hv
  exact h.now S1 _ rfl
/-- as values: bools -/
def evAndV (ea eb : EvE) : EvE := fun env => (ea env).bind fun r e => (ofO (boolD r) e).bind fun b e => match b with
  | true => eb e
  | false => .ok (.d (.bool false)) e
def evOrV (ea eb : EvE) : EvE := fun env => (ea env).bind fun r e => (ofO (boolD r) e).bind fun b e => match b with
  | true => .ok (.d (.bool true)) e
  | false => eb e
def evNotV (ea : EvE) : EvE := fun env => (ea env).bind fun r e => (ofO (boolD r) e).bind fun b e => .ok (.d (.bool (!b))) e
theorem boolD_v {Bn G H : Hp} {e : Env} {σ : L2.St} {r : Ar} {b : Bool} {v : V} (h : boolD r = some b) (hv : Res C.K Bn G H e σ r v) : v = .bl b := by
  cases r with
  | o x => cases h
  | d x =>
    cases x with
    | bool c => cases h; exact hv
    | _ => cases h
theorem q_andV (ha : PE X a (tE C W ea)) (hb : PE X (.BoolOp .And (b :: rest) pos) (tE C W eb)) : PE X (.BoolOp .And (a :: b :: rest) pos) (tE C W (evAndV ea eb)) := pe_imp (pe_and ha hb) fun σ H Q hw => by
  obtain ⟨Bn, G, env, S, h⟩ := hw
  refine ⟨Bn, G, env, S, h.bind.imp fun G1 H1 e1 r x1 S1 h v hv => ?_⟩
  obtain ⟨c, hc, h⟩ := ofO_some h.bind
  have h := h G1 H1 (Ex.refl _) S1
  refine ⟨c, boolD_v hc hv, ?_⟩
  cases c with
  | true => exact ⟨Bn, G1, e1, S1, h⟩
  | false => exact h.now S1 _ rfl
theorem q_orV (ha : PE X a (tE C W ea)) (hb : PE X (.BoolOp .Or (b :: rest) pos) (tE C W eb)) : PE X (.BoolOp .Or (a :: b :: rest) pos) (tE C W (evOrV ea eb)) := pe_imp (pe_or ha hb) fun σ H Q hw => by
  obtain ⟨Bn, G, env, S, h⟩ := hw
  refine ⟨Bn, G, env, S, h.bind.imp fun G1 H1 e1 r x1 S1 h v hv => ?_⟩
  obtain ⟨c, hc, h⟩ := ofO_some h.bind
  have h := h G1 H1 (Ex.refl _) S1
  refine ⟨c, boolD_v hc hv, ?_⟩
  cases c with
  | false => exact ⟨Bn, G1, e1, S1, h⟩
  | true => exact h.now S1 _ rfl
theorem q_oneV {op : BoolOp} (ha : PE X a (tE C W ea)) : PE X (.BoolOp op [a] pos) (tE C W ea) := pe_one ha
theorem q_notV (ha : PE X a (tE C W ea)) : PE X (.UnaryOp .Not a pos) (tE C W (evNotV ea)) := pe_imp (pe_not ha) fun σ H Q hw => by
  obtain ⟨Bn, G, env, S, h⟩ := hw
  refine ⟨Bn, G, env, S, h.bind.imp fun G1 H1 e1 r x1 S1 h v hv => ?_⟩
  obtain ⟨c, hc, h⟩ := ofO_some h.bind
  exact ⟨c, boolD_v hc hv, (h G1 H1 (Ex.refl _) S1).now S1 _ rfl⟩
def evIf (tc : EvB) (ea eb : EvE) : EvE := fun env => (tc env).bind fun b e => match b with
  | true => ea e
  | false => eb e
theorem q_if {c : Expr} {tc : EvB} (hc : PT X c (tT C W tc)) (ha : PE X a (tE C W ea)) (hb : PE X b (tE C W eb)) : PE X (.IfExp c a b pos) (tE C W (evIf tc ea eb)) := pe_imp (pe_ifExp hc ha hb) fun σ H Q hw => by
  obtain ⟨Bn, G, env, S, h⟩ := hw
  refine ⟨Bn, G, env, S, h.bind.imp fun G1 H1 e1 r x1 S1 h v hv => ?_⟩
  subst hv
  cases v with
  | true => exact ⟨Bn, G1, e1, S1, h⟩
  | false => exact ⟨Bn, G1, e1, S1, h⟩

/-! ### rows of values, displays -/
def evNil : EvA := fun env => .ok [] env
def evCons (ea : EvE) (er : EvA) : EvA := fun env => (evD ea env).bind fun x e1 => (er e1).bind fun xs e2 => .ok (x :: xs) e2
variable {es : List Expr} {er : EvA}
theorem q_nil : PA X [] (tA C W evNil) := pa_imp pa_nil fun σ H Q hw => by
  obtain ⟨Bn, G, env, S, h⟩ := hw
  exact h.now S _ rfl
theorem q_cons (ha : PE X a (tE C W ea)) (hr : PA X es (tA C W er)) (hs : starEach (a :: es) X.env = (false, eval a X.env) :: starEach es X.env := by rfl) : PA X (a :: es) (tA C W (evCons ea er)) := pa_imp (pa_cons (q_D ha) hr hs) fun σ H Q hw => by
  obtain ⟨Bn, G, env, S, h⟩ := hw
  exact ⟨Bn, G, env, S, h.bind.imp fun G1 H1 e1 x x1 S1 h v hv => ⟨Bn, G1, e1, S1, h.bind.imp fun G2 H2 e2 y x2 S2 h u hu => h.now S2 _ (Reps.cons (Rep.ex x2 _ _ hv) hu)⟩⟩
def evTup (er : EvA) : EvE := fun env => (er env).bind fun xs e => if sz xs.length then .ok (.d (.tuple xs)) e else .bad
def evLst (er : EvA) : EvE := fun env => (er env).bind fun xs e => if sz xs.length then .ok (.o (.list xs)) e else .bad
theorem q_tup {x1 : Nat} (h : PA X es (tA C W er)) : PE X (.Tuple es x1 pos) (tE C W (evTup er)) := pe_imp (pe_tup h) fun σ H Q hw => by
  obtain ⟨Bn, G, env, S, h⟩ := hw
  refine ⟨Bn, G, env, S, h.bind.imp fun G1 H1 e1 xs x1 S1 h vs hv => ?_⟩
  split at h
  · rename_i hz
    refine ⟨by rw [← hv.len]; exact sz_line hz, fun p hp => ?_⟩
    have P := Post.tup S1.ex hp hv
    exact h _ _ P.gx (S1.post P).1 _ (S1.post P).2
  · exact h.elim
theorem q_lst (h : PA X es (tA C W er)) : PE X (.List es pos) (tE C W (evLst er)) := pe_imp (pe_lst h) fun σ H Q hw => by
  obtain ⟨Bn, G, env, S, h⟩ := hw
  refine ⟨Bn, G, env, S, h.bind.imp fun G1 H1 e1 xs x1 S1 h vs hv => ?_⟩
  split at h
  · rename_i hz
    refine ⟨by rw [← hv.len]; exact sz_line hz, fun p hp => ?_⟩
    have P := Post.lst S1.ex hp hv
    exact h _ _ P.gx (S1.post P).1 _ (S1.post P).2
  · exact h.elim

/-! ### subscriptions, slices -/
def evIdx (ea : EvD) (eb : EvE) : EvE := fun env => (ea env).bind fun x e1 => (evD eb e1).bind fun y e2 => ofO ((idxD x y).map .d) e2
/-- the base, looked at, and an index that changes nothing -/
def evIdxV (i : Nat) (eb : EvE) : EvE := fun env => (evBor i env).bind fun _ env => (evD eb env).bind fun y e => (evBor i e).bind fun x e => ofO ((idxD x y).map .d) e
theorem q_idx (R : Rm X k C W) (ha : PE X a (tE C W ea)) (hb : PE X b (tE C W eb)) (hs : PlainIx b := by intro _ _; rfl) : PE X (.Subscript a b pos) (tE C W (evIdx (evD ea) eb)) :=
  pe_imp (pe_ix (by have := ix_idx (X := X) (by have := R.un; omega); rw [R.kk] at this; exact this) (q_D ha) (q_D hb) hs) fun σ H Q hw => by
    obtain ⟨Bn, G, env, S, h⟩ := hw
    refine ⟨Bn, G, env, S, h.bind.imp fun G1 H1 e1 x x1 S1 h v hv => ⟨Bn, G1, e1, S1, h.bind.imp fun G2 H2 e2 y x2 S2 h u hu => ?_⟩⟩
    obtain ⟨r, hr, h⟩ := ofO_some h
    obtain ⟨d, hd, rfl⟩ := Option.map_eq_some_iff.mp hr
    exact ⟨G2, x, y, d, S2.ex, BRep.of S2.ex (Rep.ex x2 _ _ hv), Rep.ex S2.ex _ _ hu, hd, fun w hw => h G2 H2 (Ex.refl _) S2 w hw⟩
/-- a name's own list or dict, and an index: the slot stays as it is at the index's end -/
theorem q_idxV (R : Rm X k C W) {i : Nat} {x : Str} {p2 : Pos} (hN : X.N[i]? = some x) (hv : Vis X.env.scope x) (hb : PE X b (tE C W eb)) (hs : PlainIx b := by intro _ _; rfl) (hd : (x == ("__debug__" : Str)) = false := by decide) (hcd : (x == ("__classdict__" : Str)) = false := by decide) :
    PE X (.Subscript (.Name x p2) b pos) (tE C W (evIdxV i eb)) :=
  pe_imp (pe_ix (by have := ix_idx (X := X) (by have := R.un; omega); rw [R.kk] at this; exact this) (pe_var (pos := p2) hN hv hd hcd) (q_D hb) hs) fun σ H Q hw => by
    obtain ⟨Bn, G, env, S, h⟩ := hw
    unfold evIdxV at h
    have go : ∀ v, σ[i]? = some (some v) → (After C W Bn G σ ((evD eb env).bind fun y e => (evBor i e).bind fun x e => ofO ((idxD x y).map .d) e) fun G' H' e a => ∀ b, PRes C Bn G' H' e σ a b → Q b H') → tOp (rIdx C.K) (tVar i) (tD C W (evD eb)) σ H Q := fun v hv h => by
      refine ⟨v, hv, Bn, G, env, S, h.bind.imp fun G1 H1 e1 y x1 S1 h u hu => ?_⟩
      have fin : ∀ x, BRep C.K G1 H1 x v → After C W Bn G1 σ (ofO ((idxD x y).map Ar.d) e1) (fun G' H' e a => ∀ b, PRes C Bn G' H' e σ a b → Q b H') → rIdx C.K v u H1 Q := fun x hx h => by
        obtain ⟨r, hr, h⟩ := ofO_some h
        obtain ⟨d, hd, rfl⟩ := Option.map_eq_some_iff.mp hr
        exact ⟨G1, x, y, d, S1.ex, hx, Rep.ex S1.ex _ _ hu, hd, fun w hw => h G1 H1 (Ex.refl _) S1 w hw⟩
      unfold evBor at h
      split at h
      · rename_i x e
        obtain ⟨v', h1, h2⟩ := S1.dat i x e
        rw [hv] at h1
        cases h1
        exact fin x (BRep.of S1.ex h2) h
      · rename_i x e
        obtain ⟨p, h1, _, _, h2⟩ := S1.own i x e
        rw [hv] at h1
        cases h1
        exact fin x (BRep.own h2) h
      · exact h.elim
    generalize hk : (evBor i env) = o at h
    unfold evBor at hk
    split at hk
    · rename_i x e
      obtain ⟨v, h1, h2⟩ := S.dat i x e
      subst hk
      exact go v h1 h
    · rename_i x e
      obtain ⟨p, h1, _, _, h2⟩ := S.own i x e
      subst hk
      exact go _ h1 h
    · subst hk
      exact h.elim
theorem q_slc (R : Rm X k C W) {lo hi : Option Expr} {p2 : Pos} {el eh : Env → Rs (Option Int)} (ha : PE X a (tE C W ea)) (hl : PO X lo (tR C W PEq el)) (hh : PO X hi (tR C W PEq eh)) :
    PE X (.Subscript a (.Slice lo hi none p2) pos) (tE C W (fun env => (evD ea env).bind fun x e1 => (el e1).bind fun l e2 => (eh e2).bind fun u e3 => ofO (slcD x l u) e3)) :=
  pe_imp (pe_slice (by have := sl_slc (X := X); rw [R.kk] at this; exact this) (q_D ha) hl hh) fun σ H Q hw => by
    obtain ⟨Bn, G, env, S, h⟩ := hw
    refine ⟨Bn, G, env, S, h.bind.imp fun G1 H1 e1 x x1 S1 h v hv => ⟨Bn, G1, e1, S1, h.bind.imp fun G2 H2 e2 l x2 S2 h l' hl => ⟨Bn, G2, e2, S2, h.bind.imp fun G3 H3 e3 u x3 S3 h u' hu => ?_⟩⟩⟩
    subst hl hu
    obtain ⟨r, hr, h⟩ := ofO_some h
    exact ⟨G3, x, r, S3.ex, Rep.ex (x2.trans x3) _ _ hv, hr, fun w G4 H4 P => h G4 H4 P.gx (S3.post P).1 w (S3.post P).2⟩
end
end Pd
set_option Elab.async false
set_option linter.all false
set_option maxRecDepth 100000
set_option maxHeartbeats 2000000
namespace Pd
open PySem PySem.Spec PyProof.Rows L2
open Evl (Ex Ex.refl Ex.trans ex_rd ex_l ex_t)

/-- the heap grows -/
theorem SI.grow {K : PySem.W.Frag} {Bn G H H1 : Hp} {env : Env} {σ : L2.St} (S : SI K Bn G H env σ) (e : Ex H H1) : SI K Bn G H1 env σ := by
  refine ⟨S.ex.trans e, S.bx.trans e, S.dj, S.len, S.dat, fun i x h => ?_, S.sep, S.scr⟩
  obtain ⟨a, h1, h2, h3, h4⟩ := S.own i x h
  obtain ⟨o, ho⟩ := h4.some
  exact ⟨a, h1, h2, h3, ORep.at ((e a o ho).trans ho.symm) h4⟩

section
variable {X : Cx} {k : Nat} {C : Kc} {W : WX} {a b e : Expr} {es : List Expr} {p pos : Pos} {ea eb : EvE} {er : EvA} {x : Str} {id T : String}

/-! ### built-in functions -/
def evCallB (f : Bf) (er : EvA) : EvE := fun env => (er env).bind fun xs e => ofO (callD f xs) e
theorem r_callB {f : Bf} {σ : L2.St} {H : Hp} {Q : VK} (h : tE C W (evCallB f er) σ H Q) : tCB (rCall C.K (callD f)) (tA C W er) σ H Q := by
  obtain ⟨Bn, G, env, S, h⟩ := h
  refine ⟨Bn, G, env, S, h.bind.imp fun G1 H1 e1 xs x1 S1 h vs hv => ?_⟩
  obtain ⟨r, hr, h⟩ := ofO_some h
  exact ⟨G1, xs, r, S1.ex, hv, hr, fun w G2 H2 P => h G2 H2 P.gx (S1.post P).1 w (S1.post P).2⟩
theorem cbf (R : Rm X k C W) (f : Bf) : CallR X f.val (rCall C.K (callD f)) := by
  have := call_bf (X := X) R.calm R.gd R.un f
  rw [R.kk] at this
  exact this
theorem q_callB (R : Rm X k C W) (f : Bf) (hg : Gl X x) (hm : X.mg x = none) (ha : PA X (e :: es) (tA C W er)) (hv : bootBuiltins x = some (.builtin id) := by rfl) (hf : f.val = .builtin id := by rfl) (hn : x ≠ "__name__" := by decide) (hdb : (x == ("__debug__" : Str)) = false := by decide)
    (he : starEach (e :: es) X.env = (false, eval e X.env) :: starEach es X.env := by rfl) (hpl : (backTo pos (starEach es X.env)).any (·.1) = false := by rfl) : PE X (.Call (.Name x p) (e :: es) [] pos) (tE C W (evCallB f er)) :=
  pe_imp (pe_callB (by rw [← hf]; exact cbf R f) hg hm hv ha hn hdb he hpl) fun _ _ _ => r_callB
theorem q_callT (R : Rm X k C W) (f : Bf) (hg : Gl X x) (hm : X.mg x = none) (ha : PA X (e :: es) (tA C W er)) (hv : bootBuiltins x = some (.type T) := by rfl) (hf : f.val = .type T := by rfl) (hn : x ≠ "__name__" := by decide) (hdb : (x == ("__debug__" : Str)) = false := by decide)
    (he : starEach (e :: es) X.env = (false, eval e X.env) :: starEach es X.env := by rfl) (hpl : (backTo pos (starEach es X.env)).any (·.1) = false := by rfl) : PE X (.Call (.Name x p) (e :: es) [] pos) (tE C W (evCallB f er)) :=
  pe_imp (pe_callTy (by rw [← hf]; exact cbf R f) hg hm hv ha hn hdb he hpl) fun _ _ _ => r_callB
/-- a name looked at: the answer is flat -/
def flatA : Ar → Bool
  | .d x => flatD x
  | .o _ => false
def evCallV (f : Bf) (i : Nat) : EvE := fun env => (evBor i env).bind fun x e => (ofO (callD f [x]) e).bind fun r e => if flatA r then .ok r e else .bad
theorem flat_any {K : PySem.W.Frag} {G G' : Hp} {d : D} {v : V} (h : flatD d = true) (r : Rep K G d v) : Rep K G' d v := by
  cases d <;> first | exact r | cases h
theorem r_callV {f : Bf} {i : Nat} {σ : L2.St} {H : Hp} {Q : VK} (h : tE C W (evCallV f i) σ H Q) : tCB (rCall C.K (callD f)) (tCons (tBo C W (evBor i)) tNil) σ H Q := by
  obtain ⟨Bn, G, env, S, h⟩ := h
  refine ⟨Bn, G, env, S, h.bind.imp fun G1 H1 e1 x x1 S1 h v hv => ?_⟩
  obtain ⟨r, hr, h⟩ := ofO_some h.bind
  have h := h G1 H1 (Ex.refl _) S1
  split at h
  · rename_i hf
    refine ⟨H1, [x], r, Ex.refl _, Reps.one (BRep.rep S1.ex hv), hr, fun w G2 H2 P => ?_⟩
    cases r with
    | o x => cases hf
    | d z => exact h G1 H2 (Ex.refl _) (S1.grow P.hx) w (flat_any hf P.rs)
  · exact h.elim
theorem q_callV (R : Rm X k C W) (f : Bf) {i : Nat} {y : Str} {p2 : Pos} (hg : Gl X x) (hm : X.mg x = none) (hN : X.N[i]? = some y) (hy : Vis X.env.scope y) (hv : bootBuiltins x = some (.builtin id) := by rfl) (hf : f.val = .builtin id := by rfl) (hn : x ≠ "__name__" := by decide) (hdb : (x == ("__debug__" : Str)) = false := by decide)
    (hd2 : (y == ("__debug__" : Str)) = false := by decide) (hcd : (y == ("__classdict__" : Str)) = false := by decide) : PE X (.Call (.Name x p) [.Name y p2] [] pos) (tE C W (evCallV f i)) :=
  pe_imp (pe_callB (by rw [← hf]; exact cbf R f) hg hm hv (pa_cons (q_bor (C := C) (W := W) hN hy hd2 hcd) pa_nil) hn hdb) fun _ _ _ => r_callV

/-! ### kinds of values -/
inductive Tk where
  | int | bool | str | list | tuple | dict
  deriving DecidableEq
def Tk.nm : Tk → String
  | .int => "int" | .bool => "bool" | .str => "str" | .list => "list" | .tuple => "tuple" | .dict => "dict"
def isiD : D → Tk → Bool
  | .int _, .int => true
  | .bool _, .int => true
  | .bool _, .bool => true
  | .str _, .str => true
  | .list _, .list => true
  | .tuple _, .tuple => true
  | .dict _, .dict => true
  | _, _ => false
def tyD : D → String
  | .none => "NoneType" | .bool _ => "bool" | .int _ => "int" | .str _ => "str" | .list _ => "list" | .tuple _ => "tuple" | .dict _ => "dict"
theorem isi_kit {K : PySem.W.Frag} (d : D) (t : Tk) : PySem.W.kitOne K (.type (tyD d)) (.type t.nm) = some (isiD d t) := by
  cases d <;> cases t <;> exact kit_ty (by simp only [tyD, Tk.nm, isiD]; decide +kernel)
theorem Rep.ty {K : PySem.W.Frag} {H : Hp} {d : D} {v : V} (h : Rep K H d v) : TyX K H v (.type (tyD d)) := by
  cases d with
  | none => rw [show v = .non from h]; exact .base .non
  | bool b => rw [show v = .bl b from h]; exact .base (.bl b)
  | int b => rw [show v = .int b from h]; exact .base (.int b)
  | str b => rw [show v = .str b from h]; exact .base (.str b)
  | list ds => obtain ⟨q, xs, rfl, h2, _⟩ := h; exact .base (.lst h2)
  | tuple ds =>
    obtain ⟨q, xs, rfl, h2, _⟩ := h
    rcases h2 with (h2 | ⟨o, h2⟩) | ⟨o, its, n, h2, h3, _⟩
    · exact .base (.tup h2)
    · exact .fTuple h2
    · exact .kTuple h2 h3
  | dict ds =>
    obtain ⟨q, xs, rfl, h2, _⟩ := h
    exact .base (.dK h2)
def evIsi (ts : List Tk) (ea : EvE) : EvE := fun env => (evD ea env).bind fun x e => .ok (.d (.bool (ts.any fun t => isiD x t))) e
theorem q_isi (R : Rm X k C W) (t : Tk) {y : Str} {p2 : Pos} (hg : Gl X "isinstance") (hm : X.mg "isinstance" = none) (hg2 : Gl X y) (hm2 : X.mg y = none) (ha : PE X e (tE C W ea)) (hy : bootBuiltins y = some (.type t.nm) := by rfl) (hn : y ≠ "__name__" := by decide) (hdb : (y == ("__debug__" : Str)) = false := by decide)
    (hs : starEach [e, .Name y p2] X.env = (false, eval e X.env) :: starEach [.Name y p2] X.env := by rfl) :
    PE X (.Call (.Name "isinstance" p) [e, .Name y p2] [] pos) (tE C W (evIsi [t] ea)) :=
  pe_imp (pe_callB (by have := call_isi (X := X); rw [R.kk] at this; exact this) hg hm (by rfl) (pa_cons (q_D ha) (pa_cons (pe_bltn (v := .ty t.nm) hg2 hm2 hy rfl hn hdb) pa_nil) hs) (by decide) (by decide) hs) fun σ H Q hw => by
    obtain ⟨Bn, G, env, S, h⟩ := hw
    refine ⟨Bn, G, env, S, h.bind.imp fun G1 H1 e1 x x1 S1 h v hv => ⟨v, .ty t.nm, .type (tyD x), .type t.nm, isiD x t, rfl, .ty _, Rep.ty (Rep.ex S1.ex _ _ hv), isi_kit x t, ?_⟩⟩
    refine h.now S1 _ ?_
    show V.bl _ = V.bl _
    rw [List.any_cons, List.any_nil, Bool.or_false]
theorem isi_any {K : PySem.W.Frag} (d : D) : ∀ ts : List Tk, PySem.W.kitAny K (.type (tyD d)) (ts.map fun t => Value.type t.nm) = some (ts.any fun t => isiD d t)
  | [] => kitAny_nil
  | t :: ts => by
    rw [List.map_cons, List.any_cons]
    refine kitAny_cons (isi_kit d t) (fun h => ?_) fun h => ?_
    · rw [h, Bool.false_or]; exact isi_any d ts
    · rw [h, Bool.true_or]
/-- isinstance(e, (T, U)) -/
theorem q_isi2 (R : Rm X k C W) (t u : Tk) {y z : Str} {p2 p3 p4 : Pos} {x1 : Nat} (hg : Gl X "isinstance") (hm : X.mg "isinstance" = none) (hg2 : Gl X y) (hm2 : X.mg y = none) (hg3 : Gl X z) (hm3 : X.mg z = none) (ha : PE X e (tE C W ea))
    (hy : bootBuiltins y = some (.type t.nm) := by rfl) (hz : bootBuiltins z = some (.type u.nm) := by rfl) (hn : y ≠ "__name__" := by decide) (hn2 : z ≠ "__name__" := by decide) (hdb : (y == ("__debug__" : Str)) = false := by decide) (hdb2 : (z == ("__debug__" : Str)) = false := by decide)
    (hs : starEach [e, .Tuple [.Name y p2, .Name z p3] x1 p4] X.env = (false, eval e X.env) :: starEach [.Tuple [.Name y p2, .Name z p3] x1 p4] X.env := by rfl) :
    PE X (.Call (.Name "isinstance" p) [e, .Tuple [.Name y p2, .Name z p3] x1 p4] [] pos) (tE C W (evIsi [t, u] ea)) :=
  pe_imp (pe_callB (by have := call_isiT (X := X); rw [R.kk] at this; exact this) hg hm (by rfl) (pa_cons (q_D ha) (pa_cons (pe_tup (pa_cons (pe_bltn (v := .ty t.nm) hg2 hm2 hy rfl hn hdb) (pa_cons (pe_bltn (v := .ty u.nm) hg3 hm3 hz rfl hn2 hdb2) pa_nil))) pa_nil) hs) (by decide) (by decide) hs) fun σ H Q hw => by
    obtain ⟨Bn, G, env, S, h⟩ := hw
    refine ⟨Bn, G, env, S, h.bind.imp fun G1 H1 e1 x x1 S1 h v hv => ⟨by rw [sizeLine_eq]; show 2 ≤ _; decide, fun q hq => ?_⟩⟩
    have S2 := S1.grow (Ex.new (o := .tup [.ty t.nm, .ty u.nm]) hq)
    refine ⟨v, q, [.ty t.nm, .ty u.nm], .type (tyD x), [.type t.nm, .type u.nm], _, rfl, upd_same, .cons (.ty _) (.cons (.ty _) .nil), Rep.ty (Rep.ex S2.ex _ _ hv), isi_any x [t, u], ?_⟩
    exact h G1 _ (Ex.refl _) S2 _ rfl

/-! ### methods of texts -/
inductive Mt where
  | split | join | zfill
  deriving DecidableEq
def Mt.nm : Mt → Str
  | .split => "split" | .join => "join" | .zfill => "zfill"
def Mt.bid : Mt → String
  | .split => "str.split" | .join => "str.join" | .zfill => "str.zfill"
def seqD : D → Option (List D)
  | .list ds => some ds
  | .tuple ds => some ds
  | _ => none
def mthD : Mt → Str → List D → Option Ar
  | .split, a, [.str b] => if sz (tl a).length && !(b.length == 0) then some (.o (.list ((Txt.split a b).map .str))) else none
  | .split, a, [.str b, .int n] => if sz (tl a).length && (!(b.length == 0) && inR (-1000) 1000 n) then some (.o (.list ((Txt.splitMax a b n).map .str))) else none
  | .join, a, [d] => match seqD d with
    | some ds => match asStrs ds with
      | some ys => if sz ((ys.map fun y => (tl y).length).sum + ys.length * (tl a).length) then some (.d (.str (Txt.join a ys))) else none
      | none => none
    | none => none
  | .zfill, a, [.int n] => if PadOk n then some (.d (.str (Txt.zfill a n))) else none
  | _, _, _ => none
def rMt (K : PySem.W.Frag) (m : Mt) : V → List V → Hp → VK → Prop := fun x xs H Q => ∃ G s ds r, Ex G H ∧ x = .str s ∧ Reps K G ds xs ∧ mthD m s ds = some r ∧ ∀ v G1 H1, Post K G H r v G1 H1 → Q v H1
theorem len_map_tl (ys : List Str) : (ys.map fun y => (tl y).length) = ys.map (·.length) := List.map_congr_left fun y _ => len_tl y
theorem mt_ok (m : Mt) : MtR X m.bid (rMt X.K m) := by
  intro pins s σ H x xs v us Q I rx r h
  obtain ⟨G, a, ds, o, e, rfl, hr, hd, q⟩ := h
  unfold mthD at hd
  split at hd
  · rename_i b
    split at hd
    · rename_i hc
      cases hd
      obtain ⟨c1, c2⟩ := Bool.and_eq_true_iff.mp hc
      obtain ⟨z, rfl, hz⟩ := Reps.one' hr
      cases hz
      refine mt_split pins s σ H _ _ v us Q I rx r ⟨a, b, rfl, rfl, by simpa using c2, ?_, fun p hp => q _ _ _ (Post.lst e hp Reps.strs)⟩
      have := sz_ok c1
      rw [len_tl] at this
      rw [sizeLine_eq]
      omega
    · cases hd
  · rename_i b n
    split at hd
    · rename_i hc
      cases hd
      obtain ⟨c1, c2⟩ := Bool.and_eq_true_iff.mp hc
      obtain ⟨c3, c4⟩ := Bool.and_eq_true_iff.mp c2
      have c5 := inR_ok c4
      obtain ⟨z, z2, rfl, hz, hz2⟩ := Reps.two' hr
      cases hz
      cases hz2
      refine mt_splitMax pins s σ H _ _ v us Q I rx r ⟨a, b, n, rfl, rfl, by simpa using c3, by omega, by omega, ?_, fun p hp => q _ _ _ (Post.lst e hp Reps.strs)⟩
      have := sz_ok c1
      rw [len_tl] at this
      rw [sizeLine_eq]
      omega
    · cases hd
  · rename_i d
    split at hd
    · rename_i ds hs
      split at hd
      · rename_i ys hy
        split at hd
        · rename_i hc
          cases hd
          have c1 := sz_ok hc
          rw [len_map_tl, len_tl] at c1
          obtain ⟨z, rfl, hz⟩ := Reps.one' hr
          have fin : ∀ p xs, Reps X.K G ds xs → SqL X.K H p xs ∨ SqT X.K H p xs → z = .ref p → wpAny (model X.prog X.w) X.A (call (.builtin "str.join") (v :: us)) (EP X pins σ Q) X.xe s := fun p xs hx hp e1 => by
            subst e1
            rw [asStrs_ok hy hx] at hp
            exact mt_join pins s σ H _ _ v us Q I rx r ⟨a, p, ys, rfl, rfl, hp, by omega, q _ _ _ (Post.same e rfl)⟩
          cases d with
          | list l =>
            cases hs
            obtain ⟨p, xs, e1, h2, h3⟩ := hz
            exact fin p xs h3 (.inl (SqL.of (e _ _ h2))) e1
          | tuple l =>
            cases hs
            obtain ⟨p, xs, e1, h2, h3⟩ := hz
            exact fin p xs h3 (.inr (ex_t e h2)) e1
          | _ => cases hs
        · cases hd
      · cases hd
    · cases hd
  · rename_i n
    split at hd
    · rename_i hc
      cases hd
      obtain ⟨z, rfl, hz⟩ := Reps.one' hr
      cases hz
      exact mt_zfill pins s σ H _ _ v us Q I rx r ⟨a, n, rfl, rfl, hc, q _ _ _ (Post.same e rfl)⟩
    · cases hd
  · cases hd
def evMth (m : Mt) (ea : EvE) (er : EvA) : EvE := fun env => (evD ea env).bind fun x e => match x with
  | .str s => (er e).bind fun xs e => ofO (mthD m s xs) e
  | _ => .bad
theorem mt_slot (m : Mt) : Slot "str" m.nm m.bid := by
  cases m
  · exact PySem.F.slot_str_split
  · exact PySem.F.slot_str_join
  · exact PySem.F.slot_str_zfill
theorem mt_type (m : Mt) : typeOf (.builtin m.bid) = pure (.type "method_descriptor") := by
  cases m
  · exact PySem.F.type_str_split
  · exact PySem.F.type_str_join
  · exact PySem.F.type_str_zfill
theorem q_mth (R : Rm X k C W) (m : Mt) {o : Expr} {name : Str} {apos : Pos} (ho : PE X o (tE C W ea)) (ha : PA X (e :: es) (tA C W er)) (hm : name = m.nm := by rfl) (hbase : attributeBase o name X.env (eval o X.env) = eval o X.env := by rfl)
    (hfew : ((backTo pos (starEach (e :: es) X.env)).all (fun x => !x.1) && (backToKw pos (keywordEach [] X.env)).all (fun x => x.1.isSome)
      && decide ((e :: es).length + ([] : List Keyword).length + (if ([] : List Keyword).isEmpty then 0 else 1) < 30)) = true := by rfl)
    (hline : (apos.endLine == pos.line) = true := by rfl) (hs : starEach (e :: es) X.env = (false, eval e X.env) :: starEach es X.env := by rfl) (hplain : (backTo pos (starEach es X.env)).any (·.1) = false := by rfl) :
    PE X (.Call (.Attribute o name apos) (e :: es) [] pos) (tE C W (evMth m ea er)) := by
  subst hm
  refine pe_imp (pe_bm PySem.F.plainAttrs_str (mt_slot m) (mt_type m) (by have := mt_ok (X := X) m; rw [R.kk] at this; exact this) (q_D ho) ha hbase hfew hline hs hplain) fun σ H Q hw => ?_
  obtain ⟨Bn, G, env, S, h⟩ := hw
  refine ⟨Bn, G, env, S, h.bind.imp fun G1 H1 e1 x x1 S1 h v hv => ?_⟩
  cases x with
  | str s =>
    cases hv
    refine ⟨rfl, Bn, G1, e1, S1, h.bind.imp fun G2 H2 e2 xs x2 S2 h vs hvs => ?_⟩
    obtain ⟨r, hr, h⟩ := ofO_some h
    exact ⟨G2, s, xs, r, S2.ex, rfl, hvs, hr, fun w G3 H3 P => h G3 H3 P.gx (S2.post P).1 w (S2.post P).2⟩
  | _ => exact h.elim

/-! ### a slice's ends -/
def evPart (ea : EvE) : Env → Rs (Option Int) := fun env => (evD ea env).bind fun x e => match x with
  | .int i => .ok (some i) e
  | _ => .bad
def evNoPart : Env → Rs (Option Int) := fun env => .ok none env
theorem po_imp {o : Option Expr} {t t' : TO} (h : PO X o t) (f : ∀ σ H Q, t' σ H Q → t σ H Q) : PO X o t' := ⟨fun pins s σ H Q I hw => h.run pins s σ H Q I (f σ H Q hw)⟩
theorem q_part (h : PE X e (tE C W ea)) : PO X (some e) (tR C W PEq (evPart ea)) := po_imp (po_some (q_D h)) fun σ H Q hw => by
  obtain ⟨Bn, G, env, S, h⟩ := hw
  refine ⟨Bn, G, env, S, h.bind.imp fun G1 H1 e1 x x1 S1 h v hv => ?_⟩
  cases x with
  | int i => cases hv; exact ⟨i, rfl, h.now S1 _ rfl⟩
  | _ => exact h.elim
theorem q_noPart : PO X none (tR C W PEq evNoPart) := po_imp po_none fun σ H Q hw => by
  obtain ⟨Bn, G, env, S, h⟩ := hw
  exact h.now S _ rfl
def evSlc (ea : EvE) (el eh : Env → Rs (Option Int)) : EvE := fun env => (evD ea env).bind fun x e1 => (el e1).bind fun l e2 => (eh e2).bind fun u e3 => ofO (slcD x l u) e3
theorem q_slice (R : Rm X k C W) {lo hi : Option Expr} {p2 : Pos} {el eh : Env → Rs (Option Int)} (ha : PE X a (tE C W ea)) (hl : PO X lo (tR C W PEq el)) (hh : PO X hi (tR C W PEq eh)) : PE X (.Subscript a (.Slice lo hi none p2) pos) (tE C W (evSlc ea el eh)) := q_slc R ha hl hh
end
end Pd
set_option Elab.async false
set_option linter.all false
set_option maxRecDepth 100000
set_option maxHeartbeats 2000000
namespace Pd
open PySem PySem.Spec PyProof.Rows L2
open Evl (Ex Ex.refl Ex.trans ex_rd ex_l ex_t)

/-! ### the state with its pinned slots -/
structure SIP (K : PySem.W.Frag) (pin : List Nat) (Bn : Hp) (P : List (Nat × V)) (G H : Hp) (env : Env) (σ : L2.St) : Prop where
  si : SI K Bn G H env σ
  pf : P.map (·.1) = pin
  pv : ∀ p ∈ P, σ[p.1]? = some (some p.2)
theorem SIP.to {K : PySem.W.Frag} {pin : List Nat} {Bn : Hp} {P : List (Nat × V)} {G H G1 H1 : Hp} {env env1 : Env} {σ : L2.St} (S : SIP K pin Bn P G H env σ) (S1 : SI K Bn G1 H1 env1 σ) : SIP K pin Bn P G1 H1 env1 σ := ⟨S1, S.pf, S.pv⟩

/-! ### targets -/
section
variable {K : PySem.W.Frag} {X : Cx} {k : Nat} {C : Kc} {W : WX} {a b e tg : Expr} {es : List Expr} {p pos : Pos} {ea eb : EvE} {er : EvA} {x : Str}
def tG (K : PySem.W.Frag) (pin tgs : List Nat) (et : D → Env → Option Env) : TG := fun v σ H Q => ∃ Bn P G env x env', SIP K pin Bn P G H env σ ∧ Rep K G x v ∧ et x env = some env' ∧
  ∀ G' H' σ', Ex G G' → SIP K pin Bn P G' H' env' σ' → σ'.length = σ.length → (∀ j, j ∉ tgs → σ'[j]? = σ[j]?) → Q σ' H'
def tGs (K : PySem.W.Frag) (pin tgs : List Nat) (et : List D → Env → Option Env) : TGs := fun vs σ H Q => ∃ Bn P G env xs env', SIP K pin Bn P G H env σ ∧ Reps K G xs vs ∧ et xs env = some env' ∧
  ∀ G' H' σ', Ex G G' → SIP K pin Bn P G' H' env' σ' → σ'.length = σ.length → (∀ j, j ∉ tgs → σ'[j]? = σ[j]?) → Q σ' H'
theorem pg_imp {t t' : TG} (h : PG X tg t) (f : ∀ v σ H Q, t' v σ H Q → t v σ H Q) : PG X tg t' := ⟨fun pins s σ H v u Q I r hw => h.run pins s σ H v u Q I r (f v σ H Q hw)⟩
theorem pgs_imp {tgs : List Expr} {t t' : TGs} (h : PGs X tgs t) (f : ∀ v σ H Q, t' v σ H Q → t v σ H Q) : PGs X tgs t' := ⟨fun pins s σ H v u Q I r hw => h.run pins s σ H v u Q I r (f v σ H Q hw)⟩
def gN (i : Nat) : D → Env → Option Env := fun x env => if i < env.length then some (env.set i (.d x)) else none
theorem q_gname {i : Nat} {pin : List Nat} (hN : X.N.Nodup) (hi : X.N[i]? = some x) (hx : Loc X.env.scope x) (hp : i ∉ pin := by decide) (hf : X.fn x = true ∨ X.env.scope.names.lookup x = some .local := by first | exact .inl rfl | exact .inr rfl) : PG X (.Name x pos) (tG K pin [i] (gN i)) :=
  pg_imp (pg_name hN hi hx hf) fun v σ H Q hw => by
    obtain ⟨Bn, P, G, env, d, env', S, hr, he, q⟩ := hw
    unfold gN at he
    split at he
    · rename_i hl
      cases he
      refine q G H _ (Ex.refl _) ⟨S.si.setD hr hl, S.pf, fun z hz => ?_⟩ (by simp) fun j hj => List.getElem?_set_ne (by simpa [eq_comm] using hj)
      have : i ≠ z.1 := fun e => hp (by rw [← S.pf, e]; exact List.mem_map.mpr ⟨z, hz, rfl⟩)
      rw [List.getElem?_set_ne this]
      exact S.pv z hz
    · cases he
def gNs : List (D → Env → Option Env) → List D → Env → Option Env
  | [], [], env => some env
  | g :: gs, x :: xs, env => match g x env with
    | some e => gNs gs xs e
    | none => none
  | _, _, _ => none
theorem q_gnil {pin : List Nat} : PGs X [] (tGs K pin [] (gNs [])) := pgs_imp pgs_nil fun vs σ H Q hw => by
  obtain ⟨Bn, P, G, env, xs, env', S, hr, he, q⟩ := hw
  cases xs with
  | nil => cases he; exact ⟨hr, q G H σ (Ex.refl _) S rfl fun _ _ => rfl⟩
  | cons _ _ => cases he
theorem q_gcons {g : D → Env → Option Env} {gs : List (D → Env → Option Env)} {pin t1 t2 : List Nat} (h1 : PG X e (tG K pin t1 g)) (h2 : PGs X es (tGs K pin t2 (gNs gs)))
    (hs : (assignEach (e :: es) X.env).map (·.2) = assign e X.env :: (assignEach es X.env).map (·.2) := by rfl) : PGs X (e :: es) (tGs K pin (t1 ++ t2) (gNs (g :: gs))) := pgs_imp (pgs_cons h1 h2 hs) fun vs σ H Q hw => by
  obtain ⟨Bn, P, G, env, xs, env', S, hr, he, q⟩ := hw
  cases xs with
  | nil => cases he
  | cons d ds =>
    obtain ⟨v, r, rfl, hv, hr⟩ := hr
    unfold gNs at he
    split at he
    · rename_i e1 h1
      refine ⟨v, r, rfl, Bn, P, G, env, d, e1, S, hv, h1, fun G1 H1 σ1 x1 S1 l1 f1 => ⟨Bn, P, G1, e1, ds, env', S1, Reps.ex x1 _ _ hr, he, fun G2 H2 σ2 x2 S2 l2 f2 => q G2 H2 σ2 (x1.trans x2) S2 (l2.trans l1) fun j hj => ?_⟩⟩
      rw [f2 j fun z => hj (List.mem_append_right _ z), f1 j fun z => hj (List.mem_append_left _ z)]
    · cases he
def gT (gs : List (D → Env → Option Env)) : D → Env → Option Env := fun x env => match x with
  | .tuple ds => if ds.length = gs.length then gNs gs ds env else none
  | _ => none
theorem q_gtup (R : Rm X k C W) {gs : List (D → Env → Option Env)} {x1 : Nat} {pin ts : List Nat} (h : PGs X es (tGs C.K pin ts (gNs gs))) (hn : (assignEach es X.env).length = gs.length := by rfl) (hst : (assignEach es X.env).findIdx? (·.1) = none := by rfl) : PG X (.Tuple es x1 pos) (tG C.K pin ts (gT gs)) :=
  pg_imp (pg_tup R.calm h hn hst) fun v σ H Q hw => by
    obtain ⟨Bn, P, G, env, d, env', S, hr, he, q⟩ := hw
    unfold gT at he
    split at he
    · rename_i ds
      split at he
      · rename_i hl
        obtain ⟨p, xs, rfl, h2, h3⟩ := hr
        rw [R.kk]
        exact ⟨p, xs, rfl, ex_t S.si.ex h2, by rw [← h3.len]; exact hl, Bn, P, G, env, ds, env', S, h3, he, q⟩
      · cases he
    · cases he

/-! ### what is walked -/
def DW (K : PySem.W.Frag) (J : It) (items : List D) (G0 : Hp) : Prop := Walk J items.length (fun H => Ex G0 H) fun i H x H' => ∀ G d, Ex G0 G → Ex G H → items[i]? = some d → ∃ G', Post K G H (.d d) x G' H'
def tIt (C : Kc) (W : WX) (ei : Env → Rs (List D)) : TI := fun σ H R => ∃ Bn G env, SI C.K Bn G H env σ ∧ After C W Bn G σ (ei env) fun G' H' e items => ∀ J, DW C.K J items G' → R J H'
def itemsD : D → Option (List D)
  | .list ds => some ds
  | .tuple ds => some ds
  | .str s => some ((tl s).map fun c => .str (mkS [c]))
  | _ => none
def evIt (ea : EvE) : Env → Rs (List D) := fun env => (evD ea env).bind fun x e => ofO (itemsD x) e
theorem dw_list {G : Hp} {p : Addr} {ds : List D} {xs : List V} (h : G p = some (.lst xs)) (r : Reps K G ds xs) : DW K (Itl K p) ds G := by
  have w := walk_list (K := K) (a := p) (xs := xs)
  rw [← r.len] at w
  refine w.mono (fun H e => SqL.of (e _ _ h)) fun i H x H' hi e y => ?_
  obtain ⟨rfl, hx⟩ := y
  intro G1 d e1 e2 hd
  obtain ⟨v, h1, h2⟩ := r.get hd
  rw [hx] at h1
  cases h1
  exact ⟨G1, Post.same e2 (Rep.ex e1 _ _ h2)⟩
theorem dw_tup {G : Hp} {p : Addr} {ds : List D} {xs : List V} (h : SqT K G p xs) (r : Reps K G ds xs) : DW K (Itt K p) ds G := by
  have w := walk_tup (K := K) (a := p) (xs := xs)
  rw [← r.len] at w
  refine w.mono (fun H e => ex_t e h) fun i H x H' hi e y => ?_
  obtain ⟨rfl, hx⟩ := y
  intro G1 d e1 e2 hd
  obtain ⟨v, h1, h2⟩ := r.get hd
  rw [hx] at h1
  cases h1
  exact ⟨G1, Post.same e2 (Rep.ex e1 _ _ h2)⟩
theorem dw_str {G : Hp} {s : Str} : DW K (Its s) ((tl s).map fun c => .str (mkS [c])) G := by
  have w := walk_str (z := s)
  have e0 : s.cps.size = ((tl s).map fun c => PyData.str (mkS [c])).length := by rw [List.length_map]; simp [tl]
  rw [e0] at w
  refine w.mono (fun H e => True.intro) fun i H x H' hi e y => ?_
  obtain ⟨rfl, c, hc, rfl⟩ := y
  intro G1 d e1 e2 hd
  rw [List.getElem?_map] at hd
  have : (tl s)[i]? = some c := by
    show s.cps.toList[i]? = some c
    rw [Array.getElem?_toList]
    exact hc
  rw [this] at hd
  cases hd
  exact ⟨G1, Post.same e2 rfl⟩
theorem q_it (R : Rm X k C W) (ha : PE X a (tE C W ea)) : PI X tg a (tIt C W (evIt ea)) := by
  refine ⟨fun pins s σ H R' I h => ?_⟩
  obtain ⟨Bn, G, env, S, h⟩ := h
  cases hr : evD ea env with
  | bad => unfold evIt at h; rw [hr] at h; exact h.elim
  | ex x e =>
    refine (pi_str (q_D ha)).run pins s σ H R' I ⟨Bn, G, env, S, ?_⟩
    unfold evIt at h
    rw [hr] at h ⊢
    exact h
  | ok x e =>
    unfold evIt at h
    rw [hr] at h
    have h : After C W Bn G σ (ofO (itemsD x) e) _ := h
    cases x with
    | list ds =>
      refine (pi_list (q_D ha)).run pins s σ H R' I ⟨Bn, G, env, S, ?_⟩
      rw [hr]
      intro G1 H1 x1 S1 v hv
      obtain ⟨p, xs, rfl, h2, h3⟩ := hv
      rw [R.kk]
      exact ⟨p, rfl, ⟨xs, SqL.of (S1.ex _ _ h2)⟩, h G1 H1 x1 S1 _ (dw_list h2 h3)⟩
    | tuple ds =>
      refine (pi_tup (q_D ha)).run pins s σ H R' I ⟨Bn, G, env, S, ?_⟩
      rw [hr]
      intro G1 H1 x1 S1 v hv
      obtain ⟨p, xs, rfl, h2, h3⟩ := hv
      rw [R.kk]
      exact ⟨p, rfl, ⟨xs, ex_t S1.ex h2⟩, h G1 H1 x1 S1 _ (dw_tup h2 h3)⟩
    | str z =>
      refine (pi_str (q_D ha)).run pins s σ H R' I ⟨Bn, G, env, S, ?_⟩
      rw [hr]
      intro G1 H1 x1 S1 v hv
      cases hv
      exact ⟨z, rfl, h G1 H1 x1 S1 _ dw_str⟩
    | _ => exact h.elim
/-- ranges -/
def rngD (lo : Int) (n : Nat) : List D := (List.range n).map fun (i : Nat) => .int (lo + i)
theorem dw_rng {G : Hp} {lo : Int} {n : Nat} : DW K (Itr lo n) (rngD lo n) G := by
  have w := walk_range (lo := lo) (n := n)
  have e0 : n = (rngD lo n).length := by simp [rngD]
  have w2 : Walk (Itr lo n) (rngD lo n).length (fun _ => True) (YFn fun i => .int (lo + i)) := e0 ▸ w
  refine w2.mono (fun H e => True.intro) fun i H x H' hi e y => ?_
  obtain ⟨rfl, rfl⟩ := y
  intro G1 d e1 e2 hd
  have hi' : i < n := by rw [e0]; exact hi
  unfold rngD at hd
  rw [List.getElem?_map, List.getElem?_range hi'] at hd
  cases hd
  exact ⟨G1, Post.same e2 rfl⟩
def evRng1 (er : EvA) : Env → Rs (List D) := fun env => (er env).bind fun xs e => match xs with
  | [.int n] => if inR (-1000000) 1000000 n then .ok (rngD 0 n.toNat) e else .bad
  | _ => .bad
def evRng2 (er : EvA) : Env → Rs (List D) := fun env => (er env).bind fun xs e => match xs with
  | [.int m, .int n] => if inR (-1000000) 1000000 m && inR (-1000000) 1000000 n then .ok (rngD m (n - m).toNat) e else .bad
  | _ => .bad
theorem q_rng1 (hg : Gl X "range") (hm : X.mg "range" = none) (ha : PA X [a] (tA C W er)) (hs : starEach [a] X.env = [(false, eval a X.env)] := by rfl) : PI X tg (.Call (.Name "range" p) [a] [] pos) (tIt C W (evRng1 er)) :=
  pi_imp (pi_range1 hg hm ha hs) fun σ H R' hw => by
    obtain ⟨Bn, G, env, S, h⟩ := hw
    refine ⟨Bn, G, env, S, h.bind.imp fun G1 H1 e1 xs x1 S1 h vs hv => ?_⟩
    split at h
    · rename_i n
      split at h
      · rename_i hc
        have hc := inR_ok hc
        obtain ⟨z, rfl, hz⟩ := Reps.one' hv
        cases hz
        exact ⟨n, rfl, by omega, by omega, h.now S1 _ dw_rng⟩
      · exact h.elim
    · exact h.elim
theorem q_rng2 (hg : Gl X "range") (hm : X.mg "range" = none) (ha : PA X [a, b] (tA C W er)) (hs : starEach [a, b] X.env = [(false, eval a X.env), (false, eval b X.env)] := by rfl) (hs2 : starEach [b] X.env = [(false, eval b X.env)] := by rfl) : PI X tg (.Call (.Name "range" p) [a, b] [] pos) (tIt C W (evRng2 er)) :=
  pi_imp (pi_range2 hg hm ha hs hs2) fun σ H R' hw => by
    obtain ⟨Bn, G, env, S, h⟩ := hw
    refine ⟨Bn, G, env, S, h.bind.imp fun G1 H1 e1 xs x1 S1 h vs hv => ?_⟩
    split at h
    · rename_i m n
      split at h
      · rename_i hc
        obtain ⟨c1, c2⟩ := Bool.and_eq_true_iff.mp hc
        have c1 := inR_ok c1
        have c2 := inR_ok c2
        obtain ⟨z, z2, rfl, hz, hz2⟩ := Reps.two' hv
        cases hz
        cases hz2
        exact ⟨m, n, rfl, ⟨by omega, by omega, by omega, by omega⟩, h.now S1 _ dw_rng⟩
      · exact h.elim
    · exact h.elim
theorem dw_pair {J : It} {n : Nat} {xs ys : Nat → Option V} {G0 : Hp} {items : List D} (hn : n = items.length) {Gd : Hp → Prop} (w : Walk J n Gd (YPair xs ys)) (hg : ∀ H, Ex G0 H → Gd H)
    (hi : ∀ i d x y, items[i]? = some d → xs i = some x → ys i = some y → ∃ d1 d2, d = .tuple [d1, d2] ∧ Rep K G0 d1 x ∧ Rep K G0 d2 y) : DW K J items G0 := by
  subst hn
  refine w.mono hg fun i H v H' hlt e y => ?_
  obtain ⟨T, x, z, rfl, hT, rfl, h1, h2⟩ := y
  intro G d e1 e2 hd
  obtain ⟨d1, d2, rfl, r1, r2⟩ := hi i d x z hd h1 h2
  exact ⟨_, Post.tup e2 hT (Reps.cons (Rep.ex e1 _ _ r1) (Reps.one (Rep.ex e1 _ _ r2)))⟩
/-- enumerate -/
def enumD (ds : List D) : List D := ds.zipIdx.map fun q => .tuple [.int (q.2 : Nat), q.1]
def evEnum (er : EvA) : Env → Rs (List D) := fun env => (er env).bind fun xs e => match xs with
  | [.list ds] => .ok (enumD ds) e
  | _ => .bad
theorem q_enum (R : Rm X k C W) {elts : List Expr} {kk : Nat} {tpos : Pos} (hg : Gl X "enumerate") (hm : X.mg "enumerate" = none) (ha : PA X [e] (tA C W er)) (hs : starEach [e] X.env = [(false, eval e X.env)] := by rfl) : PI X (.Tuple elts kk tpos) (.Call (.Name "enumerate" p) [e] [] pos) (tIt C W (evEnum er)) :=
  pi_imp (pi_enum hg hm ha hs) fun σ H R' hw => by
    obtain ⟨Bn, G, env, S, h⟩ := hw
    refine ⟨Bn, G, env, S, h.bind.imp fun G1 H1 e1 xs x1 S1 h vs hv => ?_⟩
    split at h
    · rename_i ds
      obtain ⟨z, rfl, q, ys, rfl, h2, h3⟩ := Reps.one' hv
      rw [R.kk]
      refine ⟨q, ys, rfl, SqL.of (S1.ex _ _ h2), h.now S1 _ (dw_pair (by simp [enumD, h3.len]) walk_enum (fun H e => SqL.of (e _ _ h2)) fun i d x y hd hx hy => ?_)⟩
      cases hx
      unfold enumD at hd
      rw [List.getElem?_map, List.getElem?_zipIdx] at hd
      cases hq : ds[i]? with
      | none => rw [hq] at hd; cases hd
      | some d0 =>
        rw [hq] at hd
        have hd : some (PyData.tuple [.int ((0 + i : Nat) : Int), d0]) = some d := hd
        cases hd
        obtain ⟨y', e1, e2⟩ := h3.get hq
        rw [hy] at e1
        cases e1
        exact ⟨_, d0, rfl, by show V.int _ = V.int _; rw [Nat.zero_add], e2⟩
    · exact h.elim
end

/-! ### comprehensions -/
def W0 : WX := fun _ _ _ _ => False
theorem rm_blk {X : Cx} {k : Nat} {C : Kc} {W : WX} (R : Rm X k C W) (s : Shared) (H : Hp) (scope : Scope) (cenv : PySem.Env) (fp : List Addr) : Rm (X.blk s H scope cenv fp) k C W0 :=
  ⟨R.room, R.gd, R.calm, R.nd, R.kk, fun u s' ⟨a, B, sI, pins, σ, H, cls, d, e, I, nb, up, sky, na, os, ag, w⟩ => w.elim, PassesOwn.never, R.dg⟩
def wipeE (e : Env) : List Nat → Env
  | [] => e
  | v :: vs => (wipeE e vs).set v .u
def putB (e0 e : Env) : List Nat → Env
  | [] => e
  | v :: vs => match e0[v]? with
    | some z => (putB e0 e vs).set v z
    | none => putB e0 e vs
def noOwn (e : Env) (vs : List Nat) : Bool := vs.all fun v => match e[v]? with
  | some (.o _) => false
  | _ => true
def compL (et : D → Env → Option Env) (tt : EvB) (te : EvE) (vs : List Nat) : List D → Env → Option (List D × Env)
  | [], e => some ([], e)
  | x :: r, e => match et x e with
    | none => none
    | some e1 => match tt e1 with
      | .ok b e2 => match b with
        | true => match evD te e2 with
          | .ok y e3 => match compL et tt te vs r (wipeE e3 vs) with
            | some q => some (y :: q.1, q.2)
            | none => none
          | _ => none
        | false => compL et tt te vs r (wipeE e2 vs)
      | _ => none
def evComp (ei : Env → Rs (List D)) (et : D → Env → Option Env) (tt : EvB) (te : EvE) (vs : List Nat) : EvE := fun env => (ei env).bind fun items e =>
  if noOwn e vs && sz items.length then match compL et tt te vs items (wipeE e vs) with
    | some q => .ok (.o (.list q.1)) (putB e q.2 vs)
    | none => .bad
  else .bad
section
variable {K : PySem.W.Frag} {Bn G G1 H H1 : Hp} {env env' : Env} {σ σ' : L2.St} {o o' : HO} {Dl : Addr}
theorem wipeE_length (e : Env) : ∀ vs : List Nat, (wipeE e vs).length = e.length
  | [] => rfl
  | v :: vs => by unfold wipeE; rw [List.length_set, wipeE_length e vs]
theorem SI.wiped (S : SI K Bn G H env σ) : ∀ vs : List Nat, SI K Bn G H (wipeE env vs) (wipe σ vs)
  | [] => S
  | v :: vs => (S.wiped vs).setU
theorem SI.bnAdd (S : SI K Bn G H env σ) (hD : H Dl = some o) (hG : G Dl = none) (hs : ∀ (i : Nat) y, env[i]? = some (.o y) → σ[i]? ≠ some (some (V.ref Dl))) : SI K (upd Bn Dl o) G H env σ := by
  refine ⟨S.ex, fun a u h => ?_, fun a h => ?_, S.len, S.dat, fun i x h => ?_, S.sep, S.scr⟩
  · by_cases ha : a = Dl
    · subst ha; rw [upd_same] at h; rw [hD]; exact h
    · rw [upd_ne ha] at h; exact S.bx a u h
  · by_cases ha : a = Dl
    · subst ha; exact hG
    · rw [upd_ne ha] at h; exact S.dj a h
  · obtain ⟨a, h1, h2, h3, h4⟩ := S.own i x h
    have ha : a ≠ Dl := fun z => hs i x h (by rw [← z]; exact h1)
    exact ⟨a, h1, h2, by rw [upd_ne ha]; exact h3, h4⟩
theorem SI.bnMut (S : SI K (upd Bn Dl o) G H env σ) : SI K (upd Bn Dl o') G (upd H Dl o') env σ := by
  have hG : G Dl = none := S.dj Dl (by rw [upd_same]; exact fun z => by cases z)
  refine ⟨S.ex.mut hG, fun a u h => ?_, fun a h => ?_, S.len, S.dat, fun i x h => ?_, S.sep, S.scr⟩
  · by_cases ha : a = Dl
    · subst ha; rw [upd_same] at h ⊢; exact h
    · rw [upd_ne ha] at h ⊢; exact S.bx a u (by rw [upd_ne ha]; exact h)
  · by_cases ha : a = Dl
    · subst ha; exact hG
    · rw [upd_ne ha] at h; exact S.dj a (by rw [upd_ne ha]; exact h)
  · obtain ⟨a, h1, h2, h3, h4⟩ := S.own i x h
    have ha : a ≠ Dl := fun z => by subst z; rw [upd_same] at h3; cases h3
    exact ⟨a, h1, h2, by rw [upd_ne ha] at h3 ⊢; exact h3, ORep.at (upd_ne ha) h4⟩
theorem putB_len (e0 : Env) (e : Env) : ∀ vs : List Nat, (putB e0 e vs).length = e.length
  | [] => rfl
  | v :: vs => by
    unfold putB
    split
    · rw [List.length_set, putB_len e0 e vs]
    · exact putB_len e0 e vs
theorem putB_out {e0 e : Env} {i : Nat} : ∀ {vs : List Nat}, i ∉ vs → (putB e0 e vs)[i]? = e[i]?
  | [], _ => rfl
  | v :: vs, h => by
    have h1 : v ≠ i := fun z => h (by rw [z]; exact List.mem_cons_self)
    have h2 : i ∉ vs := fun z => h (List.mem_cons_of_mem _ z)
    unfold putB
    split
    · rw [List.getElem?_set_ne h1]; exact putB_out h2
    · exact putB_out h2
theorem putB_in {e0 e : Env} {i : Nat} (hl : e0.length = e.length) : ∀ {vs : List Nat}, i ∈ vs → (putB e0 e vs)[i]? = e0[i]?
  | [], h => by cases h
  | v :: vs, h => by
    unfold putB
    by_cases h1 : v = i
    · subst h1
      split
      · rename_i z hz
        rw [List.getElem?_set_self (by rw [putB_len, ← hl]; exact (List.getElem?_eq_some_iff.mp hz).1), hz]
      · rename_i hz
        by_cases h2 : v ∈ vs
        · exact putB_in hl h2
        · rw [putB_out h2, hz]
          exact List.getElem?_eq_none_iff.mpr (by rw [← hl]; exact List.getElem?_eq_none_iff.mp hz)
    · have h2 : i ∈ vs := by
        rcases List.mem_cons.mp h with z | z
        · exact absurd z.symm h1
        · exact z
      split
      · rw [List.getElem?_set_ne h1]; exact putB_in hl h2
      · exact putB_in hl h2
theorem noOwn_at {e : Env} {vs : List Nat} (h : noOwn e vs = true) {i : Nat} (hi : i ∈ vs) {x : D} : e[i]? ≠ some (.o x) := fun z => by
  have := List.all_eq_true.mp h i hi
  rw [z] at this
  cases this
/-- behind the block: the block's own names as they were ahead of it -/
theorem SI.back {vs : List Nat} (S1 : SI K Bn G1 H1 env σ) (hn : noOwn env vs = true) (x : Ex G1 G) (S : SI K (upd Bn Dl o) G H env' (wipe σ vs)) (hb : Bn Dl = none) : SI K Bn G H (putB env env' vs) σ := by
  have hl : env.length = env'.length := by rw [S1.len, S.len, wipe_length]
  have at_out : ∀ {i : Nat} {z : Sl}, (putB env env' vs)[i]? = some z → i ∉ vs → env'[i]? = some z := fun h hi => by rw [putB_out hi] at h; exact h
  have at_in : ∀ {i : Nat} {z : Sl}, (putB env env' vs)[i]? = some z → i ∈ vs → env[i]? = some z := fun h hi => by rw [putB_in hl hi] at h; exact h
  have bd : ∀ a u, Bn a = some u → upd Bn Dl o a = some u := fun a u h => by rw [upd_ne (ne_of_none h hb)]; exact h
  have own : ∀ (i : Nat) y, (putB env env' vs)[i]? = some (.o y) → i ∉ vs ∧ env'[i]? = some (.o y) := fun i y h => by
    by_cases hi : i ∈ vs
    · exact absurd (at_in h hi) (noOwn_at hn hi)
    · exact ⟨hi, at_out h hi⟩
  refine ⟨S.ex, fun a u h => S.bx a u (bd a u h), fun a h => ?_, by rw [putB_len, ← hl]; exact S1.len, fun i y h => ?_, fun i y h => ?_, fun i j y z a hij h1 h2 h3 => ?_, fun i ns h => ?_⟩
  · cases e : Bn a with
    | none => exact absurd e h
    | some u => exact S.dj a (by rw [bd a u e]; exact fun z => by cases z)
  · by_cases hi : i ∈ vs
    · obtain ⟨v, q1, q2⟩ := S1.dat i y (at_in h hi)
      exact ⟨v, q1, Rep.ex x _ _ q2⟩
    · obtain ⟨v, q1, q2⟩ := S.dat i y (at_out h hi)
      exact ⟨v, by rw [wipe_out hi] at q1; exact q1, q2⟩
  · obtain ⟨hi, h'⟩ := own i y h
    obtain ⟨a, q1, q2, q3, q4⟩ := S.own i y h'
    have ha : a ≠ Dl := fun z => by subst z; rw [upd_same] at q3; cases q3
    exact ⟨a, by rw [wipe_out hi] at q1; exact q1, q2, by rw [upd_ne ha] at q3; exact q3, q4⟩
  · obtain ⟨hi, h1'⟩ := own i y h1
    obtain ⟨hj, h2'⟩ := own j z h2
    have := S.sep i j y z a hij h1' h2' (by rw [wipe_out hi]; exact h3)
    rw [wipe_out hj] at this
    exact this
  · by_cases hi : i ∈ vs
    · obtain ⟨v, q1, q2⟩ := S1.scr i ns (at_in h hi)
      exact ⟨v, q1, ex_l x q2⟩
    · obtain ⟨v, q1, q2⟩ := S.scr i ns (at_out h hi)
      exact ⟨v, by rw [wipe_out hi] at q1; exact q1, q2⟩
theorem wipe_in {σ : L2.St} {i : Nat} : ∀ {vs : List Nat}, i ∈ vs → i < σ.length → (wipe σ vs)[i]? = some none
  | [], h, _ => by cases h
  | v :: vs, h, hl => by
    unfold wipe
    by_cases h1 : v = i
    · subst h1; rw [List.getElem?_set_self (by rw [wipe_length]; exact hl)]
    · rw [List.getElem?_set_ne h1]
      rcases List.mem_cons.mp h with z | z
      · exact absurd z.symm h1
      · exact wipe_in z hl
theorem wipe_same {vs : List Nat} (hl : σ'.length = σ.length) (h : ∀ j, j ∉ vs → σ'[j]? = (wipe σ vs)[j]?) : wipe σ' vs = wipe σ vs := by
  apply List.ext_getElem?
  intro i
  by_cases hi : i ∈ vs
  · by_cases hlt : i < σ.length
    · rw [wipe_in hi hlt, wipe_in hi (by rw [hl]; exact hlt)]
    · rw [List.getElem?_eq_none (by rw [wipe_length, hl]; omega), List.getElem?_eq_none (by rw [wipe_length]; omega)]
  · rw [wipe_out hi, h i hi]
end
section
variable {X : Cx} {k : Nat} {C : Kc} {W : WX} {elt tg iter : Expr} {ifs : List Expr} {scope : Scope} {pos : Pos} {own : List (Str × Nat)} {ei : Env → Rs (List D)} {et : D → Env → Option Env} {tt : EvB} {te : EvE} {tgs : List Nat}
/-- the turns of a block -/
theorem r_loop {vs : List Nat} (hsub : ∀ j ∈ tgs, j ∈ vs) {Bn G1 H1 : Hp} {e1 eEnd : Env} {σ : L2.St} {items total : List D} {J : It} {Q : VK} {Dl : Addr} (S1 : SI C.K Bn G1 H1 e1 σ) (w : DW C.K J items G1) (hDl : H1 Dl = none) (hno : noOwn e1 vs = true) (hsz : sz items.length = true)
    (hq : compL et tt te vs items (wipeE e1 vs) = some (total, eEnd)) (h : ∀ G' H', Ex G1 G' → SI C.K Bn G' H' (putB e1 eEnd vs) σ → ∀ b, Res C.K Bn G' H' (putB e1 eEnd vs) σ (.o (.list total)) b → Q b H') :
    ∃ Wm : Nat → Nat → Hp → Prop, (∃ m, Wm 0 m (upd H1 Dl (.lst []))) ∧ ∀ i m H, Wm i m H → (J.stop i H ∧ Q (.ref Dl) H) ∨ (J.go i H ∧ ∃ Nx : Hp → Prop, (∀ H', Nx H' → ∃ m', m' < m ∧ Wm (i + 1) m' H') ∧ ∀ x H', J.yld i H x H' → tG C.K [] tgs et x (wipe σ vs) H' fun σ2 H2 =>
      wipe σ2 vs = wipe σ vs ∧ tT C W0 tt σ2 H2 fun b H3 => if b = true then tD C W0 (evD te) σ2 H3 fun y H4 => ∃ acc, H4 Dl = some (.lst acc) ∧ acc.length < sizeLine ∧ Nx (upd H4 Dl (.lst (acc ++ [y]))) else Nx H3) := by
  have hG1 : G1 Dl = none := Evl.fresh_back S1.ex hDl
  have hB1 : Bn Dl = none := Evl.fresh_back S1.bx hDl
  refine lc_it w (fun i H => ∃ G env accD accV, Ex G1 G ∧ H Dl = some (.lst accV) ∧ SI C.K (upd Bn Dl (.lst accV)) G H env (wipe σ vs) ∧ Reps C.K G accD accV ∧ accD.length ≤ i ∧
    ∃ rest, compL et tt te vs (items.drop i) env = some (rest, eEnd) ∧ accD ++ rest = total) ?_ ?_ ?_ ?_
  · refine ⟨G1, wipeE e1 vs, [], [], Ex.refl _, upd_same, ?_, rfl, Nat.le_refl _, total, hq, rfl⟩
    refine SI.bnAdd ((S1.wiped vs).grow (Ex.new hDl)) upd_same hG1 fun i y hy z => ?_
    obtain ⟨a, q1, _, _, q4⟩ := (S1.wiped vs).own i y hy
    rw [z] at q1
    cases q1
    obtain ⟨u, hu⟩ := q4.some
    rw [hDl] at hu
    cases hu
  · rintro i H hle ⟨G, env, accD, accV, xg, _, S2, _⟩
    exact xg.trans S2.ex
  · rintro i x H H' hlt ⟨G, env, accD, accV, xg, hacc, S2, hr, hle, rest, hcl, htot⟩ hy
    obtain ⟨d, hd⟩ : ∃ d, items[i]? = some d := ⟨items[i], List.getElem?_eq_getElem hlt⟩
    obtain ⟨G', P⟩ := hy G d xg S2.ex hd
    have S3 := S2.post P
    have hdrop : items.drop i = d :: items.drop (i + 1) := by
      rw [List.drop_eq_getElem_cons hlt]
      congr 1
      exact (List.getElem?_eq_some_iff.mp hd).2
    rw [hdrop] at hcl
    unfold compL at hcl
    split at hcl
    · cases hcl
    · rename_i e2 he2
      refine ⟨_, [], G', env, d, e2, ⟨S3.1, rfl, fun p hp => by cases hp⟩, P.rs, he2, fun G4 H4 σ2 x4 S4 l4 f4 => ?_⟩
      have hwipe : wipe σ2 vs = wipe σ vs := wipe_same (by rw [l4, wipe_length]) fun j hj => f4 j fun z => hj (hsub j z)
      refine ⟨hwipe, _, G4, e2, S4.si, ?_⟩
      split at hcl
      · rename_i b e3 hb
        rw [hb]
        intro G5 H5 x5 S5 b' hb'
        subst hb'
        split at hcl
        · rename_i hb
          rw [if_pos rfl]
          refine ⟨_, G5, e3, S5, ?_⟩
          split at hcl
          · rename_i y e4 hy4
            rw [hy4]
            intro G6 H6 x6 S6 v hv
            split at hcl
            · rename_i q' hq'
              obtain ⟨rest', e'⟩ := q'
              cases hcl
              have h6 : H6 Dl = some (.lst accV) := S6.bx Dl _ upd_same
              refine ⟨accV, h6, ?_, G6, wipeE e4 vs, accD ++ [y], accV ++ [v], xg.trans (P.gx.trans (x4.trans (x5.trans x6))), upd_same, ?_, Reps.append (Reps.ex (P.gx.trans (x4.trans (x5.trans x6))) _ _ hr) (Reps.one hv), by simp; omega, rest', hq', by rw [← htot]; simp⟩
              · rw [← hr.len, sizeLine_eq]
                have := sz_ok hsz
                omega
              · rw [← hwipe]
                exact (S6.bnMut.wiped vs)
            · cases hcl
          · cases hcl
        · rename_i hb
          rw [if_neg (by decide)]
          exact ⟨G5, wipeE e3 vs, accD, accV, xg.trans (P.gx.trans (x4.trans x5)), S5.bx Dl _ upd_same, by rw [← hwipe]; exact S5.wiped vs, Reps.ex (P.gx.trans (x4.trans x5)) _ _ hr, by omega, rest, hcl, htot⟩
      · cases hcl
  · rintro H ⟨G, env, accD, accV, xg, hacc, S2, hr, hle, rest, hcl, htot⟩
    rw [List.drop_eq_nil_of_le (Nat.le_refl _)] at hcl
    cases hcl
    rw [List.append_nil] at htot
    subst htot
    have Sb := SI.back S1 hno xg S2 hB1
    refine h G H xg Sb _ ⟨Dl, rfl, S2.dj Dl (by rw [upd_same]; exact fun z => by cases z), hB1, ⟨accV, hacc, hr⟩, fun i y hy z => ?_⟩
    have hl : e1.length = eEnd.length := by rw [S1.len, S2.len, wipe_length]
    by_cases hi : i ∈ vs
    · rw [putB_in hl hi] at hy
      exact noOwn_at hno hi hy
    · rw [putB_out hi] at hy
      obtain ⟨a, q1, _, q3, _⟩ := S2.own i y hy
      rw [wipe_out hi, z] at q1
      cases q1
      rw [upd_same] at q3
      cases q3
theorem r_comp {vs : List Nat} (hsub : ∀ j ∈ tgs, j ∈ vs) {σ : L2.St} {H : Hp} {Q : VK} (hw : tE C W (evComp ei et tt te vs) σ H Q) : tLc (tIt C W ei) (tG C.K [] tgs et) (tT C W0 tt) (tD C W0 (evD te)) vs σ H Q := by
    obtain ⟨Bn, G, env, S, h⟩ := hw
    refine ⟨Bn, G, env, S, h.bind.imp fun G1 H1 e1 items x1 S1 h J w Dl hDl => ?_⟩
    split at h
    · rename_i hc
      obtain ⟨hno, hsz⟩ := Bool.and_eq_true_iff.mp hc
      split at h
      · rename_i q hq
        obtain ⟨total, eEnd⟩ := q
        exact r_loop hsub S1 w hDl hno hsz hq h
      · exact h.elim
    · exact h.elim
theorem q_comp (R : Rm X k C W) (own : List (Str × Nat)) (hi : PI X tg iter (tIt C W ei)) (ok : blkC X.N X.env.scope scope own = true) (hsub : ∀ j ∈ tgs, j ∈ own.map (·.2))
    (hg : ∀ (s : Shared) (H : Hp) (Ca : Addr) (cl : List (Str × Addr)) (fp : List Addr), PG (X.blk s H scope (compEnvC scope cl Ca X.env) fp) tg (tG C.K [] tgs et))
    (ht : ∀ (s : Shared) (H : Hp) (Ca : Addr) (cl : List (Str × Addr)) (fp : List Addr), PTs (X.blk s H scope (compEnvC scope cl Ca X.env) fp) ifs (tT C W0 tt))
    (he : ∀ (s : Shared) (H : Hp) (Ca : Addr) (cl : List (Str × Addr)) (fp : List Addr), PE (X.blk s H scope (compEnvC scope cl Ca X.env) fp) elt (tE C W0 te))
    (hs : ∀ x, foldedSetIterable iter X.env x = pure x := by intro _; rfl) : PE X (.ListComp elt [⟨tg, iter, ifs, 0⟩] scope pos) (tE C W (evComp ei et tt te (own.map (·.2)))) :=
  pe_imp (pe_lc R.calm R.nd hi (blkOk_by ok) hg ht (fun s H Ca cl fp => q_D (he s H Ca cl fp)) hs) fun _ _ _ => r_comp hsub
theorem q_pts0 : PTs X [] (tT C W fun env => .ok true env) := ⟨fun pins s σ H Q I hw => pts_nil.run pins s σ H Q I (by
  obtain ⟨Bn, G, env, S, h⟩ := hw
  exact h.now S _ rfl)⟩
theorem q_pts1 {c : Expr} {tc : EvB} (h : PT X c (tT C W tc)) : PTs X [c] (tT C W tc) := pts_one h
end
end Pd
set_option Elab.async false
set_option linter.all false
set_option maxRecDepth 100000
set_option maxHeartbeats 2000000
namespace Pd
open PySem PySem.Spec PyProof.Rows L2
open Evl (Ex Ex.refl Ex.trans ex_rd ex_l ex_t)

/-! ### statements by data -/
inductive Rt where
  | nx (e : Env)
  | rt (r : Ar) (e : Env)
  | bk (e : Env)
  | ct (e : Env)
  | ex (x : Xc) (e : Env)
  | bad
abbrev EvS := Env → Rt
def Rs.go {α : Type} (r : Rs α) (f : α → Env → Rt) : Rt := match r with
  | .ok a e => f a e
  | .ex x e => .ex x e
  | .bad => .bad
section
variable (C : Kc) (W : WX) (pin : List Nat)
def AfterS (Bn : Hp) (P : List (Nat × V)) (G : Hp) (D : Ends) : Rt → Prop
  | .nx e => ∀ G' H' σ', Ex G G' → SIP C.K pin Bn P G' H' e σ' → D.nx σ' H'
  | .bk e => ∀ G' H' σ', Ex G G' → SIP C.K pin Bn P G' H' e σ' → D.bk σ' H'
  | .ct e => ∀ G' H' σ', Ex G G' → SIP C.K pin Bn P G' H' e σ' → D.ct σ' H'
  | .rt r e => ∀ G' H' σ' v, Ex G G' → SIP C.K pin Bn P G' H' e σ' → Res C.K Bn G' H' e σ' r v → D.rt v H'
  | .ex x e => ∀ G' H' σ' c d, Ex G G' → SIP C.K pin Bn P G' H' e σ' → XRep C G' H' x c d → W c d σ' H'
  | .bad => False
def tS (ev : EvS) : TS := fun D σ H => ∃ Bn P G env, SIP C.K pin Bn P G H env σ ∧ AfterS C W pin Bn P G D (ev env)
end
section
variable {C : Kc} {W : WX} {pin : List Nat} {Bn G G1 H : Hp} {P : List (Nat × V)} {D : Ends} {σ : L2.St} {env : Env}
theorem AfterS.base {r : Rt} (x : Ex G G1) (h : AfterS C W pin Bn P G D r) : AfterS C W pin Bn P G1 D r := by
  cases r with
  | nx e => exact fun G' H' σ' y S => h G' H' σ' (x.trans y) S
  | bk e => exact fun G' H' σ' y S => h G' H' σ' (x.trans y) S
  | ct e => exact fun G' H' σ' y S => h G' H' σ' (x.trans y) S
  | rt a e => exact fun G' H' σ' v y S => h G' H' σ' v (x.trans y) S
  | ex a e => exact fun G' H' σ' c d y S => h G' H' σ' c d (x.trans y) S
  | bad => exact h
theorem AfterS.go {α : Type} {r : Rs α} {f : α → Env → Rt} (S : SIP C.K pin Bn P G H env σ) (h : AfterS C W pin Bn P G D (r.go f)) : After C W Bn G σ r fun G1 H1 e a => AfterS C W pin Bn P G1 D (f a e) := by
  cases r with
  | ok a e => exact fun G' H' x S' => AfterS.base x h
  | ex a e => exact fun G' H' c d x S' X => h G' H' σ c d x (S.to S') X
  | bad => exact h
theorem AfterS.now {e : Env} (h : AfterS C W pin Bn P G D (.nx e)) (S : SIP C.K pin Bn P G H e σ) : D.nx σ H := h G H σ (Ex.refl G) S
end

section
variable {X : Cx} {k : Nat} {C : Kc} {W : WX} {pin : List Nat} {a b e tg iter : Expr} {es : List Expr} {st : Stmt} {rest body orelse : List Stmt} {p pos : Pos} {ea eb : EvE} {er : EvA} {s t u : EvS} {x : Str}
theorem ps_imp {t t' : TS} (h : PS X st t) (f : ∀ D σ H, t' D σ H → t D σ H) : PS X st t' := ⟨fun pins s σ H D I hw => h.run pins s σ H D I (f D σ H hw)⟩
theorem pss_imp {t t' : TS} (h : PSs X rest t) (f : ∀ D σ H, t' D σ H → t D σ H) : PSs X rest t' := ⟨fun pins s σ H D I hw => h.run pins s σ H D I (f D σ H hw)⟩
def evNx : EvS := fun env => .nx env
def evSeq (s t : EvS) : EvS := fun env => match s env with
  | .nx e => t e
  | r => r
theorem q_snil : PSs X [] (tS C W pin evNx) := pss_imp pss_nil fun D σ H hw => by
  obtain ⟨Bn, P, G, env, S, h⟩ := hw
  exact h.now S
theorem q_seq (h1 : PS X st (tS C W pin s)) (h2 : PSs X rest (tS C W pin t)) : PSs X (st :: rest) (tS C W pin (evSeq s t)) := pss_imp (pss_cons h1 h2) fun D σ H hw => by
  obtain ⟨Bn, P, G, env, S, h⟩ := hw
  refine ⟨Bn, P, G, env, S, ?_⟩
  unfold evSeq at h
  cases hs : s env with
  | nx e => rw [hs] at h; exact fun G' H' σ' x S' => ⟨Bn, P, G', e, S', AfterS.base x h⟩
  | rt r e => rw [hs] at h; exact h
  | bk e => rw [hs] at h; exact h
  | ct e => rw [hs] at h; exact h
  | ex y e => rw [hs] at h; exact h
  | bad => rw [hs] at h; exact h
theorem q_one (h1 : PS X st (tS C W pin s)) : PSs X [st] (tS C W pin s) := pss_one h1
theorem q_pass : PS X (.Pass pos) (tS C W pin evNx) := ps_imp ps_pass fun D σ H hw => by
  obtain ⟨Bn, P, G, env, S, h⟩ := hw
  exact h.now S
theorem q_doc {z : Str} {j : Nat} {pos' : Pos} : PS X (.Expr (.Constant (.str z) j pos) pos') (tS C W pin evNx) := ps_imp ps_doc fun D σ H hw => by
  obtain ⟨Bn, P, G, env, S, h⟩ := hw
  exact h.now S
theorem q_break : PS X (.Break pos) (tS C W pin fun env => .bk env) := ps_imp ps_break fun D σ H hw => by
  obtain ⟨Bn, P, G, env, S, h⟩ := hw
  exact h G H σ (Ex.refl G) S
theorem q_cont : PS X (.Continue pos) (tS C W pin fun env => .ct env) := ps_imp ps_continue fun D σ H hw => by
  obtain ⟨Bn, P, G, env, S, h⟩ := hw
  exact h G H σ (Ex.refl G) S
def evRet (ea : EvE) : EvS := fun env => (ea env).go fun r e => .rt r e
theorem q_ret (ha : PE X a (tE C W ea)) : PS X (.Return (some a) pos) (tS C W pin (evRet ea)) := ps_imp (ps_ret ha) fun D σ H hw => by
  obtain ⟨Bn, P, G, env, S, h⟩ := hw
  exact ⟨Bn, G, env, S.si, (h.go S).imp fun G1 H1 e r x1 S1 h v hv => h G1 H1 σ v (Ex.refl _) (S.to S1) hv⟩
theorem q_retN : PS X (.Return none pos) (tS C W pin fun env => .rt (.d .none) env) := ps_imp ps_retN fun D σ H hw => by
  obtain ⟨Bn, P, G, env, S, h⟩ := hw
  exact h G H σ _ (Ex.refl _) S rfl
def evDrop (ea : EvE) : EvS := fun env => (ea env).go fun _ e => .nx e
theorem q_drop (ha : PE X a (tE C W ea)) (hs : swapsWith a none pos.line X.env = pure false := by rfl) : PS X (.Expr a pos) (tS C W pin (evDrop ea)) := ps_imp (ps_expr ha hs) fun D σ H hw => by
  obtain ⟨Bn, P, G, env, S, h⟩ := hw
  exact ⟨Bn, G, env, S.si, (h.go S).imp fun G1 H1 e r x1 S1 h v hv => h.now (S.to S1)⟩
def evIfS (tc : EvB) (t u : EvS) : EvS := fun env => (tc env).go fun b e => match b with
  | true => t e
  | false => u e
theorem q_ifS {c : Expr} {tc : EvB} (hc : PT X c (tT C W tc)) (ha : PSs X body (tS C W pin t)) (hb : PSs X orelse (tS C W pin u)) : PS X (.If c body orelse pos) (tS C W pin (evIfS tc t u)) := ps_imp (ps_if hc ha hb) fun D σ H hw => by
  obtain ⟨Bn, P, G, env, S, h⟩ := hw
  refine ⟨Bn, G, env, S.si, (h.go S).imp fun G1 H1 e r x1 S1 h v hv => ?_⟩
  subst hv
  cases v with
  | true => exact ⟨Bn, P, G1, e, S.to S1, h⟩
  | false => exact ⟨Bn, P, G1, e, S.to S1, h⟩

/-! ### name = value -/
def slA : Ar → Sl
  | .d x => .d x
  | .o x => .o x
def evSet (i : Nat) (ea : EvE) : EvS := fun env => (ea env).go fun r e => if i < e.length then .nx (e.set i (slA r)) else .bad
theorem SIP.set {i : Nat} {r : Ar} {v : V} {K : PySem.W.Frag} {Bn G H : Hp} {P : List (Nat × V)} {env : Env} {σ : L2.St} (S : SIP K pin Bn P G H env σ) (hr : Res K Bn G H env σ r v) (hi : i < env.length) (hp : i ∉ pin) : SIP K pin Bn P G H (env.set i (slA r)) (σ.set i (some v)) := by
  refine ⟨?_, S.pf, fun z hz => ?_⟩
  · cases r with
    | d x => exact S.si.setD hr hi
    | o x => obtain ⟨a, rfl, ho⟩ := hr; exact S.si.setO ho hi
  · have : i ≠ z.1 := fun e => hp (by rw [← S.pf, e]; exact List.mem_map.mpr ⟨z, hz, rfl⟩)
    rw [List.getElem?_set_ne this]
    exact S.pv z hz
theorem r_set {i : Nat} (hp : i ∉ pin) {D : Ends} {σ : L2.St} {H : Hp} (hw : tS C W pin (evSet i ea) D σ H) : tAsg (tE C W ea) (gName i) D σ H := by
  obtain ⟨Bn, P, G, env, S, h⟩ := hw
  refine ⟨Bn, G, env, S.si, (h.go S).imp fun G1 H1 e r x1 S1 h v hv => ?_⟩
  split at h
  · rename_i hi
    exact h.now ((S.to S1).set hv hi hp)
  · exact h.elim
theorem q_set (R : Rm X k C W) {i : Nat} {p' : Pos} (hi : X.N[i]? = some x) (hx : Loc X.env.scope x) (ha : PE X a (tE C W ea)) (hs : swapsWith a (some (.Name x p')) pos.line X.env = pure false := by rfl) (hp : i ∉ pin := by decide)
    (hf : X.fn x = true ∨ X.env.scope.names.lookup x = some .local := by first | exact .inl rfl | exact .inr rfl) : PS X (.Assign [.Name x p'] a pos) (tS C W pin (evSet i ea)) := ps_imp (ps_set R.nd hi hx ha hs hf) fun _ _ _ => r_set hp
/-- name = [.. for ..] on one line -/
theorem q_setComp (R : Rm X k C W) {i : Nat} {y : Str} {py : Pos} {elt : Expr} {ifs : List Expr} {scope : Scope} {spos : Pos} {ei : Env → Rs (List D)} {et : D → Env → Option Env} {tt : EvB} {te : EvE} {tgs : List Nat} (own : List (Str × Nat)) (hy : X.N[i]? = some y) (hyl : X.env.scope.names.lookup y = some .local)
    (hsw : swapsWith (.ListComp elt [⟨tg, iter, ifs, 0⟩] scope pos) (some (.Name y py)) spos.line X.env = pure true) (hi : PI X tg iter (tIt C W ei)) (ok : blkC X.N X.env.scope scope own = true) (hsub : ∀ j ∈ tgs, j ∈ own.map (·.2))
    (hg : ∀ (s : Shared) (H : Hp) (Ca : Addr) (cl : List (Str × Addr)) (fp : List Addr), PG (X.blk s H scope (compEnvC scope cl Ca X.env) fp) tg (tG C.K [] tgs et))
    (ht : ∀ (s : Shared) (H : Hp) (Ca : Addr) (cl : List (Str × Addr)) (fp : List Addr), PTs (X.blk s H scope (compEnvC scope cl Ca X.env) fp) ifs (tT C W0 tt))
    (he : ∀ (s : Shared) (H : Hp) (Ca : Addr) (cl : List (Str × Addr)) (fp : List Addr), PE (X.blk s H scope (compEnvC scope cl Ca X.env) fp) elt (tE C W0 te))
    (hs : ∀ x, foldedSetIterable iter X.env x = pure x := by intro _; rfl) (hp : i ∉ pin := by decide) :
    PS X (.Assign [.Name y py] (.ListComp elt [⟨tg, iter, ifs, 0⟩] scope pos) spos) (tS C W pin (evSet i (evComp ei et tt te (own.map (·.2))))) :=
  ps_imp (ps_setLc R.calm R.nd hy hyl hsw hi (blkOk_by ok) hg ht (fun s H Ca cl fp => q_D (he s H Ca cl fp)) hs) fun D σ H hw => r_comp hsub (r_set hp hw)

/-! ### several names at once -/
structure RL (K : PySem.W.Frag) (Bn G H : Hp) (env : Env) (σ : L2.St) (rs : List Ar) (vs : List V) : Prop where
  len : rs.length = vs.length
  at_ : ∀ (i : Nat) r v, rs[i]? = some r → vs[i]? = some v → Res K Bn G H env σ r v
  dis : ∀ (i j : Nat) x y, i ≠ j → rs[i]? = some (.o x) → rs[j]? = some (.o y) → vs[i]? ≠ vs[j]?
abbrev EvL := Env → Rs (List Ar)
abbrev PRL (C : Kc) (Bn G H : Hp) (e : Env) (σ : L2.St) (r : List Ar) (v : List V) : Prop := RL C.K Bn G H e σ r v
abbrev tL (C : Kc) (W : WX) (ev : EvL) : TA := tR C W (PRL C) ev
def evNilO : EvL := fun env => .ok [] env
def evConsO (ea : EvE) (er : EvL) : EvL := fun env => (ea env).bind fun r e1 => (er e1).bind fun rs e2 => .ok (r :: rs) e2
theorem q_nilO : PA X [] (tL C W evNilO) := pa_imp pa_nil fun σ H Q hw => by
  obtain ⟨Bn, G, env, S, h⟩ := hw
  exact h.now S _ ⟨rfl, fun i r v e => by simp at e, fun i j x y _ e => by simp at e⟩
theorem rl_dis {K : PySem.W.Frag} {Bn G H : Hp} {env : Env} {σ : L2.St} {r : Ar} {v : V} {rs : List Ar} {vs : List V} (h : RL K Bn G H env σ rs vs) (hv : Res K Bn G H env σ r v) (hd : ∀ x, r = Ar.o x → ∀ (j : Nat) (y : D), rs[j]? = some (Ar.o y) → vs[j]? ≠ some v) : RL K Bn G H env σ (r :: rs) (v :: vs) := by
  refine ⟨by simp [h.len], fun i r' v' e1 e2 => ?_, fun i j x y hij e1 e2 => ?_⟩
  · cases i with
    | zero => simp at e1 e2; subst e1 e2; exact hv
    | succ i => exact h.at_ i r' v' (by simpa using e1) (by simpa using e2)
  · cases i with
    | zero =>
      cases j with
      | zero => exact absurd rfl hij
      | succ j =>
        simp at e1
        have := hd x e1 j y (by simpa using e2)
        simpa [eq_comm] using this
    | succ i =>
      cases j with
      | zero =>
        simp at e2
        have := hd y e2 i x (by simpa using e1)
        simpa using this
      | succ j =>
        have := h.dis i j x y (fun e => hij (by rw [e])) (by simpa using e1) (by simpa using e2)
        simpa using this
/-- an own thing put by, while the rest is worked out -/
theorem SI.bnDrop {K : PySem.W.Frag} {Bn G H : Hp} {env : Env} {σ : L2.St} {p : Addr} {o : HO} (S : SI K (upd Bn p o) G H env σ) (hb : Bn p = none) : SI K Bn G H env σ := by
  have bd : ∀ a u, Bn a = some u → upd Bn p o a = some u := fun a u h => by rw [upd_ne (ne_of_none h hb)]; exact h
  refine ⟨S.ex, fun a u h => S.bx a u (bd a u h), fun a h => ?_, S.len, S.dat, fun i x h => ?_, S.sep, S.scr⟩
  · cases e : Bn a with
    | none => exact absurd e h
    | some u => exact S.dj a (by rw [bd a u e]; exact fun z => by cases z)
  · obtain ⟨a, q1, q2, q3, q4⟩ := S.own i x h
    have ha : a ≠ p := fun z => by subst z; rw [upd_same] at q3; cases q3
    exact ⟨a, q1, q2, by rw [upd_ne ha] at q3; exact q3, q4⟩
theorem Res.bnDrop {K : PySem.W.Frag} {Bn G H : Hp} {env : Env} {σ : L2.St} {p : Addr} {o : HO} {r : Ar} {v : V} (hb : Bn p = none) (h : Res K (upd Bn p o) G H env σ r v) : Res K Bn G H env σ r v := by
  cases r with
  | d x => exact h
  | o x =>
    obtain ⟨a, rfl, q1, q2, q3, q4⟩ := h
    have ha : a ≠ p := fun z => by subst z; rw [upd_same] at q2; cases q2
    exact ⟨a, rfl, q1, by rw [upd_ne ha] at q2; exact q2, q3, q4⟩
theorem q_consO {er : EvL} (ha : PE X a (tE C W ea)) (hr : PA X es (tL C W er)) (hs : starEach (a :: es) X.env = (false, eval a X.env) :: starEach es X.env := by rfl) : PA X (a :: es) (tL C W (evConsO ea er)) := pa_imp (pa_cons ha hr hs) fun σ H Q hw => by
  obtain ⟨Bn, G, env, S, h⟩ := hw
  refine ⟨Bn, G, env, S, h.bind.imp fun G1 H1 e1 r x1 S1 h v hv => ?_⟩
  cases r with
  | d x =>
    exact ⟨Bn, G1, e1, S1, h.bind.imp fun G2 H2 e2 rs x2 S2 h vs hvs => h.now S2 _ (rl_dis hvs (show Rep C.K G2 x v from Rep.ex x2 _ _ hv) fun y hy => by cases hy)⟩
  | o x =>
    obtain ⟨q, rfl, ho⟩ := hv
    obtain ⟨u, hu⟩ := ho.r.some
    have S1' := S1.bnAdd hu ho.g ho.s
    cases hev : er e1 with
    | bad => rw [hev] at h; exact h.elim
    | ex y e2 => exact ⟨Bn, G1, e1, S1, by rw [hev] at h ⊢; exact h⟩
    | ok rs e2 =>
      refine ⟨upd Bn q u, G1, e1, S1', ?_⟩
      rw [hev] at h ⊢
      intro G2 H2 x2 S2 vs hvs
      have S3 := S2.bnDrop ho.b
      refine h G2 H2 x2 S3 _ (rl_dis ⟨hvs.len, fun i r v h1 h2 => Res.bnDrop ho.b (hvs.at_ i r v h1 h2), hvs.dis⟩ ⟨q, rfl, S2.dj q (by rw [upd_same]; exact fun z => by cases z), ho.b, ORep.at ((S2.bx q u upd_same).trans hu.symm) (ORep.ex x2 ho.r), fun i y hy z => ?_⟩ fun y hy j z hz e => ?_)
      · obtain ⟨b, q1, _, q3, _⟩ := S2.own i y hy
        rw [z] at q1
        cases q1
        rw [upd_same] at q3
        cases q3
      · obtain ⟨b, e1, q1, q2, _⟩ := hvs.at_ j _ _ hz e
        cases e1
        rw [upd_same] at q2
        cases q2
theorem RL.step {K : PySem.W.Frag} {Bn G H : Hp} {env : Env} {σ : L2.St} {r : Ar} {v : V} {rs : List Ar} {vs : List V} {i : Nat} (h : RL K Bn G H env σ (r :: rs) (v :: vs)) (hi : i < env.length) (hl : env.length = σ.length) : RL K Bn G H (env.set i (slA r)) (σ.set i (some v)) rs vs := by
  refine ⟨by simpa using h.len, fun j r' v' e1 e2 => ?_, fun j l x y hjl e1 e2 => ?_⟩
  · have := h.at_ (j + 1) r' v' (by simpa using e1) (by simpa using e2)
    cases r' with
    | d x => exact this
    | o x =>
      obtain ⟨a, rfl, q1, q2, q3, q4⟩ := this
      refine ⟨a, rfl, q1, q2, q3, fun m y hy z => ?_⟩
      by_cases hm : i = m
      · subst hm
        rw [List.getElem?_set_self hi] at hy
        rw [List.getElem?_set_self (by rw [← hl]; exact hi)] at z
        cases r with
        | d w => cases hy
        | o w =>
          have := h.dis 0 (j + 1) w x (by omega) rfl (by simpa using e1)
          apply this
          rw [List.getElem?_cons_zero, List.getElem?_cons_succ, e2]
          cases z
          rfl
      · rw [List.getElem?_set_ne hm] at hy z
        exact q4 m y hy z
  · have := h.dis (j + 1) (l + 1) x y (by omega) (by simpa using e1) (by simpa using e2)
    simpa using this
def evPar (is : List Nat) (er : EvL) : EvS := fun env => (er env).go fun rs e => if rs.length = is.length && is.all (fun i => i < e.length) then .nx ((is.zip rs).foldl (fun e q => e.set q.1 (slA q.2)) e) else .bad
theorem q_par2 (R : Rm X k C W) {i j : Nat} {x y : Str} {px py pt : Pos} {kt : Nat} {k2 : Nat} {pt2 : Pos} {er : EvL} (hi : X.N[i]? = some x) (hj : X.N[j]? = some y) (hx : X.env.scope.names.lookup x = some .local) (hy : X.env.scope.names.lookup y = some .local) (ha : PA X [a, b] (tL C W er)) (hij : i ≠ j := by decide)
    (hw : swappedStores [.Tuple [.Name x px, .Name y py] kt pt] (.Tuple [a, b] k2 pt2) X.env = pure (some [x, y]) := by rfl) (hs : swapsWithSole [.Tuple [.Name x px, .Name y py] kt pt] (.Tuple [a, b] k2 pt2) pos.line X.env = pure false := by rfl) (hp : i ∉ pin := by decide) (hq : j ∉ pin := by decide) :
    PS X (.Assign [.Tuple [.Name x px, .Name y py] kt pt] (.Tuple [a, b] k2 pt2) pos) (tS C W pin (evPar [i, j] er)) := ps_imp (ps_par R.calm R.nd hi hj hij hx hy ha hw hs) fun D σ H hw => by
  obtain ⟨Bn, P, G, env, S, h⟩ := hw
  refine ⟨Bn, G, env, S.si, (h.go S).imp fun G1 H1 e rs x1 S1 h vs hv => ?_⟩
  split at h
  · rename_i hc
    obtain ⟨c1, c2⟩ := Bool.and_eq_true_iff.mp hc
    have c1 : rs.length = 2 := by simpa using c1
    simp only [List.all_cons, List.all_nil, Bool.and_true, Bool.and_eq_true, decide_eq_true_eq] at c2
    have l2 := hv.len
    match rs, c1, vs, l2, hv, h with
    | [r1, r2], _, [v1, v2], _, hv, h =>
      have S2 := (S.to S1).set (hv.at_ 0 r1 v1 rfl rfl) c2.1 hp
      have hv2 := hv.step c2.1 S1.len
      have S3 := S2.set (hv2.at_ 0 r2 v2 rfl rfl) (by simpa using c2.2) hq
      exact ⟨v1, v2, rfl, h.now S3⟩
  · exact h.elim
theorem q_par3 (R : Rm X k C W) {i j l : Nat} {x y z : Str} {c : Expr} {px py pz pt : Pos} {kt : Nat} {k2 : Nat} {pt2 : Pos} {er : EvL} (hi : X.N[i]? = some x) (hj : X.N[j]? = some y) (hl : X.N[l]? = some z) (hx : X.env.scope.names.lookup x = some .local) (hy : X.env.scope.names.lookup y = some .local) (hz : X.env.scope.names.lookup z = some .local)
    (ha : PA X [a, b, c] (tL C W er)) (hij : i ≠ j := by decide) (hil : i ≠ l := by decide) (hjl : j ≠ l := by decide)
    (hw : swappedStores [.Tuple [.Name x px, .Name y py, .Name z pz] kt pt] (.Tuple [a, b, c] k2 pt2) X.env = pure (some [x, y, z]) := by rfl) (hs : swapsWithSole [.Tuple [.Name x px, .Name y py, .Name z pz] kt pt] (.Tuple [a, b, c] k2 pt2) pos.line X.env = pure false := by rfl) (hp : i ∉ pin := by decide) (hq : j ∉ pin := by decide) (ho : l ∉ pin := by decide) :
    PS X (.Assign [.Tuple [.Name x px, .Name y py, .Name z pz] kt pt] (.Tuple [a, b, c] k2 pt2) pos) (tS C W pin (evPar [i, j, l] er)) := ps_imp (ps_par3 R.calm R.nd hi hj hl hij hil hjl hx hy hz ha hw hs) fun D σ H hw => by
  obtain ⟨Bn, P, G, env, S, h⟩ := hw
  refine ⟨Bn, G, env, S.si, (h.go S).imp fun G1 H1 e rs x1 S1 h vs hv => ?_⟩
  split at h
  · rename_i hc
    obtain ⟨c1, c2⟩ := Bool.and_eq_true_iff.mp hc
    have c1 : rs.length = 3 := by simpa using c1
    simp only [List.all_cons, List.all_nil, Bool.and_true, Bool.and_eq_true, decide_eq_true_eq] at c2
    have l2 := hv.len
    match rs, c1, vs, l2, hv, h with
    | [r1, r2, r3], _, [v1, v2, v3], _, hv, h =>
      have S2 := (S.to S1).set (hv.at_ 0 r1 v1 rfl rfl) c2.1 hp
      have hv2 := hv.step c2.1 S1.len
      have S3 := S2.set (hv2.at_ 0 r2 v2 rfl rfl) (by simpa using c2.2.1) hq
      have hv3 := hv2.step (i := j) (by simpa using c2.2.1) (by simpa using S1.len)
      have S4 := S3.set (hv3.at_ 0 r3 v3 rfl rfl) (by simpa using c2.2.2) ho
      exact ⟨v1, v2, v3, rfl, h.now S4⟩
  · exact h.elim
/-- a target from a tuple -/
def evAsg (ea : EvE) (et : D → Env → Option Env) : EvS := fun env => (evD ea env).go fun x e => match et x e with
  | some e' => .nx e'
  | none => .bad
theorem q_asg {et : D → Env → Option Env} {tgs : List Nat} (ha : PE X a (tE C W ea)) (hg : PG X tg (tG C.K pin tgs et)) (hs : swapsWithSole [tg] a pos.line X.env = pure false := by rfl) (hw : swappedStores [tg] a X.env = pure none := by rfl)
    (h1 : (assignEach [tg] X.env).map (·.2) = [assign tg X.env] := by rfl) : PS X (.Assign [tg] a pos) (tS C W pin (evAsg ea et)) := ps_imp (ps_asg (q_D ha) hg hs hw h1) fun D σ H hw => by
  obtain ⟨Bn, P, G, env, S, h⟩ := hw
  refine ⟨Bn, G, env, S.si, (h.go S).imp fun G1 H1 e r x1 S1 h v hv => ?_⟩
  split at h
  · rename_i e' he
    exact ⟨Bn, P, G1, e, r, e', S.to S1, hv, he, fun G2 H2 σ2 x2 S2 _ _ => h G2 H2 σ2 x2 S2⟩
  · exact h.elim

/-! ### loops -/
def forL (et : D → Env → Option Env) (body : EvS) : List D → Env → Rt
  | [], e => .nx e
  | x :: r, e => match et x e with
    | none => .bad
    | some e1 => match body e1 with
      | .nx e2 => forL et body r e2
      | .ct e2 => forL et body r e2
      | .bk e2 => .nx e2
      | q => q
def evFor (ei : Env → Rs (List D)) (et : D → Env → Option Env) (body : EvS) : EvS := fun env => (ei env).go fun items e => forL et body items e
theorem q_for (R : Rm X k C W) {ei : Env → Rs (List D)} {et : D → Env → Option Env} {tgs : List Nat} {tb : EvS} (hi : PI X tg iter (tIt C W ei)) (hg : PG X tg (tG C.K pin tgs et)) (hb : PSs X body (tS C W pin tb)) (hs : ∀ x, foldedSetIterable iter X.env x = pure x := by intro _; rfl) :
    PS X (.For tg iter body [] pos) (tS C W pin (evFor ei et tb)) := ps_imp (ps_for R.own R.calm hi hg hb hs) fun D σ H hw => by
  obtain ⟨Bn, P, G, env, S, h⟩ := hw
  refine ⟨Bn, G, env, S.si, (h.go S).imp fun G1 H1 e1 items x1 S1 h J w => ?_⟩
  refine for_it w (fun i σ H => ∃ G env, Ex G1 G ∧ SIP C.K pin Bn P G H env σ ∧ AfterS C W pin Bn P G D (forL et tb (items.drop i) env)) ⟨G1, e1, Ex.refl _, S.to S1, h⟩ ?_ ?_ ?_
  · rintro i σ H hle ⟨G, env, xg, S2, _⟩
    exact xg.trans S2.si.ex
  · rintro i x σ H H' hlt ⟨G, env, xg, S2, h⟩ hy
    obtain ⟨d, hd⟩ : ∃ d, items[i]? = some d := ⟨items[i], List.getElem?_eq_getElem hlt⟩
    obtain ⟨G', PO⟩ := hy G d xg S2.si.ex hd
    have S3 := S2.si.post PO
    have hdrop : items.drop i = d :: items.drop (i + 1) := by
      rw [List.drop_eq_getElem_cons hlt]
      congr 1
      exact (List.getElem?_eq_some_iff.mp hd).2
    rw [hdrop] at h
    unfold forL at h
    split at h
    · exact h.elim
    · rename_i e2 he2
      refine ⟨Bn, P, G', env, d, e2, S2.to S3.1, PO.rs, he2, fun G4 H4 σ4 x4 S4 _ _ => ⟨Bn, P, G4, e2, S4, ?_⟩⟩
      have xx := PO.gx.trans x4
      cases hb : tb e2 with
      | nx e => rw [hb] at h; exact fun G5 H5 σ5 x5 S5 => ⟨G5, e, (xg.trans xx).trans x5, S5, h.base (xx.trans x5)⟩
      | ct e => rw [hb] at h; exact fun G5 H5 σ5 x5 S5 => ⟨G5, e, (xg.trans xx).trans x5, S5, h.base (xx.trans x5)⟩
      | bk e => rw [hb] at h; exact fun G5 H5 σ5 x5 S5 => h G5 H5 σ5 (xx.trans x5) S5
      | rt r e => rw [hb] at h; exact fun G5 H5 σ5 v x5 S5 => h G5 H5 σ5 v (xx.trans x5) S5
      | ex r e => rw [hb] at h; exact fun G5 H5 σ5 c d x5 S5 => h G5 H5 σ5 c d (xx.trans x5) S5
      | bad => rw [hb] at h; exact h.elim
  · rintro σ H ⟨G, env, xg, S2, h⟩
    rw [List.drop_eq_nil_of_le (Nat.le_refl _)] at h
    exact h G H σ (Ex.refl _) S2
def whL (tc : EvB) (body : EvS) : Nat → Env → Rt
  | 0, _ => .bad
  | n + 1, e => (tc e).go fun b e1 => match b with
    | true => match body e1 with
      | .nx e2 => whL tc body n e2
      | .ct e2 => whL tc body n e2
      | .bk e2 => .nx e2
      | q => q
    | false => .nx e1
def evWhl (n : Nat) (tc : EvB) (body : EvS) : EvS := fun env => whL tc body n env
theorem q_whl (R : Rm X k C W) (n : Nat) {c : Expr} {tc : EvB} {tb : EvS} (hc : PT X c (tT C W tc)) (hb : PSs X body (tS C W pin tb)) : PS X (.While c body [] pos) (tS C W pin (evWhl n tc tb)) := ps_imp (ps_while R.own hc hb) fun D σ H hw => by
  obtain ⟨Bn, P, G0, env, S, h⟩ := hw
  refine ⟨fun m σ H => ∃ G env, Ex G0 G ∧ SIP C.K pin Bn P G H env σ ∧ AfterS C W pin Bn P G D (whL tc tb m env), ⟨n, G0, env, Ex.refl _, S, h⟩, ?_⟩
  rintro m σ H ⟨G, env, xg, S2, h⟩
  cases m with
  | zero => exact h.elim
  | succ m =>
    unfold whL at h
    refine ⟨Bn, G, env, S2.si, (h.go S2).imp fun G1 H1 e1 b x1 S3 h b' hb' => ?_⟩
    subst hb'
    cases b' with
    | false => exact h.now (S2.to S3)
    | true =>
      refine ⟨fun σ H => ∃ m', m' < m + 1 ∧ ∃ G env, Ex G0 G ∧ SIP C.K pin Bn P G H env σ ∧ AfterS C W pin Bn P G D (whL tc tb m' env), fun σ' H' z => z, Bn, P, G1, e1, S2.to S3, ?_⟩
      have xx := xg.trans x1
      cases hb : tb e1 with
      | nx e => rw [hb] at h; exact fun G5 H5 σ5 x5 S5 => ⟨m, Nat.lt_succ_self m, G5, e, xx.trans x5, S5, h.base x5⟩
      | ct e => rw [hb] at h; exact fun G5 H5 σ5 x5 S5 => ⟨m, Nat.lt_succ_self m, G5, e, xx.trans x5, S5, h.base x5⟩
      | bk e => rw [hb] at h; exact fun G5 H5 σ5 x5 S5 => h G5 H5 σ5 x5 S5
      | rt r e => rw [hb] at h; exact fun G5 H5 σ5 v x5 S5 => h G5 H5 σ5 v x5 S5
      | ex r e => rw [hb] at h; exact fun G5 H5 σ5 c d x5 S5 => h G5 H5 σ5 c d x5 S5
      | bad => rw [hb] at h; exact h.elim
end
end Pd
set_option Elab.async false
set_option linter.all false
set_option maxRecDepth 100000
set_option maxHeartbeats 2000000
namespace Pd
open PySem PySem.Spec PyProof.Rows L2
open Evl (Ex Ex.refl Ex.trans ex_rd ex_l ex_t)

/-! ### an own list or dict is changed -/
section
variable {K : PySem.W.Frag} {Bn G H : Hp} {env : Env} {σ : L2.St} {x x' : D} {i : Nat} {q : Addr} {o' : HO}
theorem SI.mut (S : SI K Bn G H env σ) (h : env[i]? = some (.o x)) (ha : σ[i]? = some (some (V.ref q))) (hr : ORep K G (upd H q o') x' q) : SI K Bn G (upd H q o') (env.set i (.o x')) σ := by
  obtain ⟨a', h1, h2, h3, h4⟩ := S.own i x h
  rw [ha] at h1
  cases h1
  have hi : i < env.length := (List.getElem?_eq_some_iff.mp h).1
  have ne : ∀ (j : Nat) y, i ≠ j → env[j]? = some (.o y) → ∀ b, σ[j]? = some (some (V.ref b)) → b ≠ q := fun j y hij hj b hb e => S.sep i j x y q hij h hj ha (by rw [← e]; exact hb)
  refine ⟨S.ex.mut h2, S.bx.mut h3, S.dj, by simpa using S.len, fun j y hj => ?_, fun j y hj => ?_, fun j l y z b hn e1 e2 e3 => ?_, S.scr.setE rfl⟩
  · have n1 : i ≠ j := fun e => by subst e; rw [List.getElem?_set_self hi] at hj; cases hj
    rw [List.getElem?_set_ne n1] at hj
    exact S.dat j y hj
  · by_cases n1 : i = j
    · subst n1
      rw [List.getElem?_set_self hi] at hj
      cases hj
      exact ⟨q, ha, h2, h3, hr⟩
    · rw [List.getElem?_set_ne n1] at hj
      obtain ⟨b, q1, q2, q3, q4⟩ := S.own j y hj
      exact ⟨b, q1, q2, q3, ORep.at (upd_ne (ne j y n1 hj b q1)) q4⟩
  · by_cases n1 : i = j
    · subst n1
      rw [ha] at e3
      cases e3
      rw [List.getElem?_set_ne hn] at e2
      intro e4
      exact ne l z hn e2 q e4 rfl
    · by_cases n2 : i = l
      · subst n2
        rw [List.getElem?_set_ne n1] at e1
        rw [ha]
        intro e4
        cases e4
        exact ne j y n1 e1 q e3 rfl
      · rw [List.getElem?_set_ne n1] at e1
        rw [List.getElem?_set_ne n2] at e2
        exact S.sep j l y z b hn e1 e2 e3
end
def ownL (e : Env) (i : Nat) : Option (List D) := match e[i]? with
  | some (.o (.list ds)) => some ds
  | _ => none
def ownD (e : Env) (i : Nat) : Option (List (D × D)) := match e[i]? with
  | some (.o (.dict ds)) => some ds
  | _ => none
theorem ownL_at {e : Env} {i : Nat} {ds : List D} (h : ownL e i = some ds) : e[i]? = some (.o (.list ds)) := by
  unfold ownL at h
  split at h
  · rename_i q; cases h; exact q
  · cases h
theorem ownD_at {e : Env} {i : Nat} {ds : List (D × D)} (h : ownD e i = some ds) : e[i]? = some (.o (.dict ds)) := by
  unfold ownD at h
  split at h
  · rename_i q; cases h; exact q
  · cases h
section
variable {K : PySem.W.Frag} {Bn G H : Hp} {env : Env} {σ : L2.St} {i : Nat}
theorem SI.lst (S : SI K Bn G H env σ) {ds : List D} (h : ownL env i = some ds) : ∃ a xs, σ[i]? = some (some (V.ref a)) ∧ G a = none ∧ H a = some (.lst xs) ∧ Reps K G ds xs := by
  obtain ⟨a, h1, h2, _, xs, h4, h5⟩ := S.own i _ (ownL_at h)
  exact ⟨a, xs, h1, h2, h4, h5⟩
theorem SI.dct (S : SI K Bn G H env σ) {ds : List (D × D)} (h : ownD env i = some ds) : ∃ a xs, σ[i]? = some (some (V.ref a)) ∧ G a = none ∧ H a = some (.dK xs) ∧ RepK K G ds xs := by
  obtain ⟨a, h1, h2, _, xs, h4, h5⟩ := S.own i _ (ownD_at h)
  exact ⟨a, xs, h1, h2, h4, h5⟩
end

section
variable {X : Cx} {k : Nat} {C : Kc} {W : WX} {pin : List Nat} {a b e : Expr} {p p2 apos pos : Pos} {ea eb : EvE} {x : Str} {i : Nat}
def evApp (i : Nat) (ea : EvE) : EvS := fun env => match ownL env i with
  | none => .bad
  | some _ => (evD ea env).go fun x e => match ownL e i with
    | none => .bad
    | some ds => if sz ds.length then .nx (e.set i (.o (.list (ds ++ [x])))) else .bad
/-- what a call of a method with one argument asks of its text -/
abbrev mOk (X : Cx) (o : Expr) (name : Str) (apos : Pos) (e : Expr) (pos : Pos) : Prop := L2.M1 X o name apos e pos
theorem q_app (R : Rm X k C W) (hN : X.N[i]? = some x) (hv : Vis X.env.scope x) (ha : PE X a (tE C W ea)) (m : mOk X (.Name x p2) "append" apos a p := by exact ⟨rfl, rfl, rfl, rfl⟩) (hs1 : starEach [a] X.env = (false, eval a X.env) :: starEach [] X.env := by rfl)
    (hd : (x == ("__debug__" : Str)) = false := by decide) (hcd : (x == ("__classdict__" : Str)) = false := by decide) : PS X (.Expr (.Call (.Attribute (.Name x p2) "append" apos) [a] [] p) pos) (tS C W pin (evApp i ea)) :=
  ps_imp (ps_expr (pe_bm PySem.F.plainAttrs_list PySem.F.slot_list_append PySem.F.type_list_append mt_append (pe_var hN hv hd hcd) (pa_cons (q_D ha) pa_nil hs1) m.base m.few m.line hs1 rfl) rfl) fun D σ H hw => by
    obtain ⟨Bn, P, G, env, S, h⟩ := hw
    unfold evApp at h
    split at h
    · exact h.elim
    · rename_i ds0 h0
      obtain ⟨q, xs, h1, _, h3, _⟩ := S.si.lst h0
      refine ⟨_, h1, .inl ⟨rfl, xs, SqL.of h3⟩, Bn, G, env, S.si, (h.go S).imp fun G1 H1 e1 x x1 S1 h v hv => ?_⟩
      split at h
      · exact h.elim
      · rename_i ds hds
        split at h
        · rename_i hz
          obtain ⟨q', xs', g1, g2, g3, g4⟩ := S1.lst hds
          rw [h1] at g1
          cases g1
          refine ⟨q, xs', v, rfl, rfl, g3, ?_, ?_⟩
          · rw [← g4.len, sizeLine_eq]
            have := sz_ok hz
            omega
          · exact h.now (S.to (S1.mut (ownL_at hds) h1 ⟨_, upd_same, Reps.append g4 (Reps.one hv)⟩))
        · exact h.elim
def evExt (i : Nat) (ea : EvE) : EvS := fun env => match ownL env i with
  | none => .bad
  | some _ => (evD ea env).go fun x e => match x, ownL e i with
    | .list zs, some ds => if sz (ds.length + zs.length) then .nx (e.set i (.o (.list (ds ++ zs)))) else .bad
    | _, _ => .bad
theorem q_ext (R : Rm X k C W) (hN : X.N[i]? = some x) (hv : Vis X.env.scope x) (ha : PE X a (tE C W ea)) (m : mOk X (.Name x p2) "extend" apos a p := by exact ⟨rfl, rfl, rfl, rfl⟩) (hs1 : starEach [a] X.env = (false, eval a X.env) :: starEach [] X.env := by rfl)
    (hd : (x == ("__debug__" : Str)) = false := by decide) (hcd : (x == ("__classdict__" : Str)) = false := by decide) : PS X (.Expr (.Call (.Attribute (.Name x p2) "extend" apos) [a] [] p) pos) (tS C W pin (evExt i ea)) :=
  ps_imp (ps_expr (pe_bm PySem.F.plainAttrs_list PySem.F.slot_list_extend PySem.F.type_list_extend mt_extend (pe_var hN hv hd hcd) (pa_cons (q_D ha) pa_nil hs1) m.base m.few m.line hs1 rfl) rfl) fun D σ H hw => by
    obtain ⟨Bn, P, G, env, S, h⟩ := hw
    unfold evExt at h
    split at h
    · exact h.elim
    · rename_i ds0 h0
      obtain ⟨q, xs, h1, _, h3, _⟩ := S.si.lst h0
      refine ⟨_, h1, .inl ⟨rfl, xs, SqL.of h3⟩, Bn, G, env, S.si, (h.go S).imp fun G1 H1 e1 x x1 S1 h v hv => ?_⟩
      split at h
      · rename_i zs ds hds
        split at h
        · rename_i hz
          obtain ⟨q', xs', g1, g2, g3, g4⟩ := S1.lst hds
          rw [h1] at g1
          cases g1
          obtain ⟨b, ys, rfl, k1, k2⟩ := hv
          refine ⟨q, b, xs', ys, rfl, rfl, g3, S1.ex _ _ k1, ?_, ?_⟩
          · rw [← g4.len, ← k2.len]
            exact sz_line hz
          · exact h.now (S.to (S1.mut (ownL_at hds) h1 ⟨_, upd_same, Reps.append g4 k2⟩))
        · exact h.elim
      · exact h.elim

/-! ### dicts -/
def dropD (kvs : List (D × D)) (s : Str) : List (D × D) := kvs.filter fun q => match q.1 with
  | .str t => decide (t ≠ s)
  | _ => true
def putD : List (D × D) → Str → D → List (D × D)
  | [], s, x => [(.str s, x)]
  | (q, y) :: r, s, x => match q with
    | .str t => if t = s then (.str t, x) :: putD' r s x else (q, y) :: putD r s x
    | _ => (q, y) :: putD r s x
where
  putD' : List (D × D) → Str → D → List (D × D)
    | [], _, _ => []
    | (q, y) :: r, s, x => match q with
      | .str t => (if t = s then (.str t, x) else (q, y)) :: putD' r s x
      | _ => (q, y) :: putD' r s x
theorem RepK.drop {K : PySem.W.Frag} {G : Hp} {s : Str} : ∀ {kvs : List (D × D)} {xs : List (Key × V)}, RepK K G kvs xs → RepK K G (dropD kvs s) (dropK xs (.inr s))
  | [], _, h => by rw [show _ = [] from h]; rfl
  | (q, d) :: kvs, _, h => by
    obtain ⟨t, x, r, rfl, rfl, h3, h4⟩ := h
    have ih := RepK.drop (s := s) h4
    unfold dropD dropK
    by_cases e : t = s
    · subst e
      rw [List.filter_cons_of_neg (by simp), List.filter_cons_of_neg (by simp)]
      exact ih
    · rw [List.filter_cons_of_pos (by simpa using e), List.filter_cons_of_pos (by simpa using e)]
      exact ⟨t, x, _, rfl, rfl, h3, ih⟩
theorem putK_cons {kvs : List (Key × V)} {k q : Key} {v y : V} : putK ((q, y) :: kvs) k v = if q = k then (q, v) :: kvs.map (fun kv => if kv.1 = k then (kv.1, v) else kv) else (q, y) :: putK kvs k v := by
  unfold putK
  by_cases e : q = k
  · rw [if_pos (by simp [e]), if_pos e, List.map_cons, if_pos e]
  · rw [if_neg e]
    by_cases h : (kvs.any fun kv => decide (kv.1 = k)) = true
    · rw [if_pos (by rw [List.any_cons, h, Bool.or_true]), if_pos h, List.map_cons, if_neg e]
    · have h' : (kvs.any fun kv => decide (kv.1 = k)) = false := (Bool.not_eq_true _).mp h
      rw [if_neg (by rw [List.any_cons, h', Bool.or_false]; simpa using e), if_neg h, List.cons_append]
theorem RepK.put' {K : PySem.W.Frag} {G : Hp} {s : Str} {x : D} {v : V} (hx : Rep K G x v) : ∀ {kvs : List (D × D)} {xs : List (Key × V)}, RepK K G kvs xs → RepK K G (putD.putD' kvs s x) (xs.map fun kv => if kv.1 = .inr s then (kv.1, v) else kv)
  | [], _, h => by rw [show _ = [] from h]; rfl
  | (q, d) :: kvs, _, h => by
    obtain ⟨t, y, r, rfl, rfl, h3, h4⟩ := h
    have ih := RepK.put' (s := s) hx h4
    unfold putD.putD'
    rw [List.map_cons]
    by_cases e : t = s
    · subst e
      simp only [if_pos]
      exact ⟨t, v, _, rfl, rfl, hx, ih⟩
    · simp only [if_neg e]
      rw [if_neg (fun z => e (Sum.inr.inj z))]
      exact ⟨t, y, _, rfl, rfl, h3, ih⟩
theorem RepK.put {K : PySem.W.Frag} {G : Hp} {s : Str} {x : D} {v : V} (hx : Rep K G x v) : ∀ {kvs : List (D × D)} {xs : List (Key × V)}, RepK K G kvs xs → RepK K G (putD kvs s x) (putK xs (.inr s) v)
  | [], _, h => by rw [show _ = [] from h]; exact ⟨s, v, [], rfl, rfl, hx, rfl⟩
  | (q, d) :: kvs, _, h => by
    obtain ⟨t, y, r, rfl, rfl, h3, h4⟩ := h
    have ih := RepK.put (s := s) hx h4
    rw [putK_cons]
    unfold putD
    by_cases e : t = s
    · subst e
      rw [if_pos rfl]
      simp only [if_pos]
      exact ⟨t, v, _, rfl, rfl, hx, RepK.put' hx h4⟩
    · rw [if_neg (fun z => e (Sum.inr.inj z))]
      simp only [if_neg e]
      exact ⟨t, y, _, rfl, rfl, h3, ih⟩
theorem RepK.len {K : PySem.W.Frag} {G : Hp} : ∀ {kvs : List (D × D)} {xs : List (Key × V)}, RepK K G kvs xs → kvs.length = xs.length
  | [], _, h => by rw [show _ = [] from h]; rfl
  | (q, d) :: kvs, _, h => by
    obtain ⟨t, y, r, rfl, rfl, h3, h4⟩ := h
    rw [List.length_cons, List.length_cons, RepK.len h4]
def evPopK (i : Nat) (ea : EvE) : EvS := fun env => match ownD env i with
  | none => .bad
  | some _ => (evD ea env).go fun x e => match x, ownD e i with
    | .str s, some kvs => if (lookD kvs s).isSome then .nx (e.set i (.o (.dict (dropD kvs s)))) else .bad
    | _, _ => .bad
theorem q_popK (R : Rm X k C W) (hN : X.N[i]? = some x) (hv : Vis X.env.scope x) (ha : PE X a (tE C W ea)) (m : mOk X (.Name x p2) "pop" apos a p := by exact ⟨rfl, rfl, rfl, rfl⟩) (hd : (x == ("__debug__" : Str)) = false := by decide) (hcd : (x == ("__classdict__" : Str)) = false := by decide) :
    PS X (.Expr (.Call (.Attribute (.Name x p2) "pop" apos) [a] [] p) pos) (tS C W pin (evPopK i ea)) := ps_imp (ps_expr (pe_dpop1 (pe_var hN hv hd hcd) (q_D ha) m) rfl) fun D σ H hw => by
    obtain ⟨Bn, P, G, env, S, h⟩ := hw
    unfold evPopK at h
    split at h
    · exact h.elim
    · rename_i ds0 h0
      obtain ⟨q, xs, h1, _, h3, _⟩ := S.si.dct h0
      refine ⟨_, h1, q, rfl, .inl ⟨xs, Rd.of h3⟩, Bn, G, env, S.si, (h.go S).imp fun G1 H1 e1 x x1 S1 h v hv => ?_⟩
      split at h
      · rename_i s kvs hds
        split at h
        · rename_i hz
          obtain ⟨q', xs', g1, g2, g3, g4⟩ := S1.dct hds
          rw [h1] at g1
          cases g1
          cases hv
          have hl := g4.look (k := s)
          cases hq : lookD kvs s with
          | none => rw [hq] at hz; cases hz
          | some d =>
            rw [hq] at hl
            obtain ⟨u, hu, _⟩ := hl
            exact ⟨xs', .inr s, u, g3, rfl, hu, h.now (S.to (S1.mut (ownD_at hds) h1 ⟨_, upd_same, g4.drop⟩))⟩
        · exact h.elim
      · exact h.elim

/-! ### x[y] = e -/
def evPut (i : Nat) (ek ev : EvE) : EvS := fun env => (evD ev env).go fun x e0 => match ownL e0 i with
  | some _ => (evD ek e0).go fun y e => match y, ownL e i with
    | .int j, some ds => match ixN ds.length j with
      | some n => .nx (e.set i (.o (.list (ds.set n x))))
      | none => .bad
    | _, _ => .bad
  | none => match ownD e0 i with
    | some _ => (evD ek e0).go fun y e => match y, ownD e i with
      | .str s, some kvs => if sz kvs.length then .nx (e.set i (.o (.dict (putD kvs s x)))) else .bad
      | _, _ => .bad
    | none => .bad
def subRow (X : Cx) (o i : Expr) (pos : Pos) (v : Value) : Sem Unit := do let ov ← holding [v] (eval o X.env); let iv ← holding [v, ov] (eval i X.env); standAt pos; holding [v, ov, iv] (setItem ov iv v); release [v, ov, iv] []
theorem q_put (R : Rm X k C W) {ek ev : EvE} {tpos : Pos} (hN : X.N[i]? = some x) (hv : Vis X.env.scope x) (hk : PE X b (tE C W ek)) (ha : PE X a (tE C W ev)) (hsub : ∀ v, assign (.Subscript (.Name x p2) b tpos) X.env v = subRow X (.Name x p2) b tpos v := by intro _; rfl)
    (hs : swapsWithSole [.Subscript (.Name x p2) b tpos] a pos.line X.env = pure false := by rfl) (hw : swappedStores [.Subscript (.Name x p2) b tpos] a X.env = pure none := by rfl) (h1 : (assignEach [.Subscript (.Name x p2) b tpos] X.env).map (·.2) = [assign (.Subscript (.Name x p2) b tpos) X.env] := by rfl)
    (hs2 : swapsWith a (some (.Subscript (.Name x p2) b tpos)) pos.line X.env = pure false := by rfl) (hd : (x == ("__debug__" : Str)) = false := by decide) (hcd : (x == ("__classdict__" : Str)) = false := by decide) :
    PS X (.Assign [.Subscript (.Name x p2) b tpos] a pos) (tS C W pin (evPut i ek ev)) := by
  refine ⟨fun pins s σ H D I hw' => ?_⟩
  obtain ⟨Bn, P, G, env, S, h⟩ := hw'
  have PL := ps_asg (q_D ha) (pg_sub (pe_var (pos := p2) hN hv hd hcd) (q_D hk) set_list hsub) hs hw h1
  have PD := ps_dput (by have := R.un; omega) (pe_var (pos := p2) hN hv hd hcd) (q_D hk) (q_D ha) hs2
  cases hev : evD ev env with
  | bad => unfold evPut at h; rw [hev] at h; exact h.elim
  | ex y e0 =>
    refine PL.run pins s σ H D I ⟨Bn, G, env, S.si, ?_⟩
    unfold evPut at h
    have h := h.go S
    rw [hev] at h ⊢
    exact h
  | ok x0 e0 =>
    unfold evPut at h
    have h := h.go S
    rw [hev] at h
    have h : ∀ G' H', Ex G G' → SI C.K Bn G' H' e0 σ → _ := h
    cases hl : ownL e0 i with
    | some ds0 =>
      refine PL.run pins s σ H D I ⟨Bn, G, env, S.si, ?_⟩
      rw [hev]
      intro G1 H1 x1 S1 v hv
      have h := h G1 H1 x1 S1
      simp only [hl] at h
      obtain ⟨q, xs, h1, _, h3, _⟩ := S1.lst hl
      refine ⟨_, h1, Bn, G1, e0, S1, (h.go (S.to S1)).imp fun G2 H2 e2 y x2 S2 h u hu => ?_⟩
      split at h
      · rename_i j ds hds
        split at h
        · rename_i n hn
          obtain ⟨q', xs', g1, g2, g3, g4⟩ := S2.lst hds
          rw [h1] at g1
          cases g1
          cases hu
          exact ⟨q, xs', j, n, rfl, rfl, g3, by rw [← g4.len]; exact hn, h.now (S.to (S2.mut (ownL_at hds) h1 ⟨_, upd_same, Reps.set (Rep.ex x2 _ _ hv) n g4⟩))⟩
        · exact h.elim
      · exact h.elim
    | none =>
      refine PD.run pins s σ H D I ⟨Bn, G, env, S.si, ?_⟩
      rw [hev]
      intro G1 H1 x1 S1 v hv
      have h := h G1 H1 x1 S1
      simp only [hl] at h
      cases hd0 : ownD e0 i with
      | none => simp only [hd0] at h; exact h.elim
      | some ds0 =>
        simp only [hd0] at h
        obtain ⟨q, xs, h1, _, h3, _⟩ := S1.dct hd0
        refine ⟨_, h1, Bn, G1, e0, S1, (h.go (S.to S1)).imp fun G2 H2 e2 y x2 S2 h u hu => ?_⟩
        split at h
        · rename_i s' kvs hds
          split at h
          · rename_i hz
            obtain ⟨q', xs', g1, g2, g3, g4⟩ := S2.dct hds
            rw [h1] at g1
            cases g1
            cases hu
            refine ⟨q, _, rfl, .inl ⟨xs', .inr s', g3, rfl, ?_, rfl⟩, h.now (S.to (S2.mut (ownD_at hds) h1 ⟨_, upd_same, RepK.put (Rep.ex x2 _ _ hv) g4⟩))⟩
            rw [← g4.len, sizeLine_eq]
            have := sz_ok hz
            omega
          · exact h.elim
        · exact h.elim
/-- a list's place as a target -/
def gPut (i : Nat) (ek : EvE) : D → Env → Option Env := fun x env => match ownL env i with
  | none => none
  | some _ => match evD ek env with
    | .ok y e => match y, ownL e i with
      | .int j, some ds => match ixN ds.length j with
        | some n => some (e.set i (.o (.list (ds.set n x))))
        | none => none
      | _, _ => none
    | _ => none
theorem q_gput (R : Rm X k C W) {ek : EvE} {tpos : Pos} (hN : X.N[i]? = some x) (hv : Vis X.env.scope x) (hk : PE X b (tE C W ek)) (hsub : ∀ v, assign (.Subscript (.Name x p2) b tpos) X.env v = subRow X (.Name x p2) b tpos v := by intro _; rfl)
    (hd : (x == ("__debug__" : Str)) = false := by decide) (hcd : (x == ("__classdict__" : Str)) = false := by decide) : PG X (.Subscript (.Name x p2) b tpos) (tG C.K pin [] (gPut i ek)) :=
  pg_imp (pg_sub (pe_var (pos := p2) hN hv hd hcd) (q_D hk) set_list hsub) fun v σ H Q hw => by
    obtain ⟨Bn, P, G, env, d, env', S, hr, he, q⟩ := hw
    unfold gPut at he
    split at he
    · cases he
    · rename_i ds0 h0
      obtain ⟨c, xs, h1, _, h3, _⟩ := S.si.lst h0
      refine ⟨_, h1, Bn, G, env, S.si, ?_⟩
      split at he
      · rename_i y e1 hy
        rw [hy]
        intro G1 H1 x1 S1 u hu
        split at he
        · rename_i j ds hds
          split at he
          · rename_i n hn
            cases he
            obtain ⟨q', xs', g1, g2, g3, g4⟩ := S1.lst hds
            rw [h1] at g1
            cases g1
            cases hu
            exact ⟨c, xs', j, n, rfl, rfl, g3, by rw [← g4.len]; exact hn, q G1 _ σ x1 (S.to (S1.mut (ownL_at hds) h1 ⟨_, upd_same, Reps.set (Rep.ex x1 _ _ hr) n g4⟩)) rfl fun _ _ => rfl⟩
          · cases he
        · cases he
      · cases he
end
end Pd
set_option Elab.async false
set_option linter.all false
set_option maxRecDepth 100000
set_option maxHeartbeats 2000000
namespace Pd
open PySem PySem.Spec PyProof.Rows L2
open Evl (Ex Ex.refl Ex.trans ex_rd ex_l ex_t)

/-! ### defs by data -/
inductive CRs where
  | ok (r : Ar) (os : Env)
  | ex (x : Xc) (os : Env)
  | bad
abbrev Run := Env → CRs
def EndF (C : Kc) (Bn G : Hp) (vs : List V) (Q : VK) (E : XK) : CRs → Prop
  | .ok r os => ∀ G' H' v, Ex G G' → SI C.K Bn G' H' os (vs.map some) → Res C.K Bn G' H' os (vs.map some) r v → Q v H'
  | .ex x os => ∀ G' H' c d, Ex G G' → SI C.K Bn G' H' os (vs.map some) → XRep C G' H' x c d → E c d H'
  | .bad => False
def spF (C : Kc) (n : Nat) (run : Run) : Sp := fun vs H Q E => ∃ Bn G as, SI C.K Bn G H as (vs.map some) ∧ as.length = n ∧ EndF C Bn G vs Q E (run as)
def outs (pin : List Nat) (n : Nat) (e : Env) : Env := (List.range n).map fun i => if i ∈ pin then (e[i]?).getD .u else .u
def runB (np n : Nat) (pin : List Nat) (code : EvS) : Run := fun as => match code (as ++ List.replicate (n - np) .u) with
  | .rt r e => .ok r (outs pin np e)
  | .nx e => .ok (.d .none) (outs pin np e)
  | .ex x e => .ex x (outs pin np e)
  | _ => .bad
section
variable {K : PySem.W.Frag} {Bn G H : Hp} {as e : Env} {σ : L2.St} {vs : List V} {pin : List Nat} {P : List (Nat × V)} {n : Nat}
theorem pad_at {j m : Nat} {z : Sl} (hz : z ≠ .u) (h : (as ++ List.replicate m .u)[j]? = some z) : as[j]? = some z := by
  by_cases hj : j < as.length
  · rw [List.getElem?_append_left hj] at h; exact h
  · rw [List.getElem?_append_right (by omega)] at h
    have := List.getElem?_eq_some_iff.mp h
    obtain ⟨h1, h2⟩ := this
    rw [List.getElem_replicate] at h2
    exact absurd h2.symm hz
theorem SI.pad (S : SI K Bn G H as σ) (m : Nat) : SI K Bn G H (as ++ List.replicate m .u) (σ ++ List.replicate m none) := by
  have lift : ∀ {j : Nat} {o : Option V}, σ[j]? = some o → (σ ++ List.replicate m none)[j]? = some o := fun {j o} h => by
    rw [List.getElem?_append_left (List.getElem?_eq_some_iff.mp h).1]; exact h
  refine ⟨S.ex, S.bx, S.dj, by simp [S.len], fun j x h => ?_, fun j x h => ?_, fun i j x y a hij h1 h2 h3 => ?_, fun j ns h => ?_⟩
  · obtain ⟨v, q1, q2⟩ := S.dat j x (pad_at (fun z => by cases z) h)
    exact ⟨v, lift q1, q2⟩
  · obtain ⟨a, q1, q2⟩ := S.own j x (pad_at (fun z => by cases z) h)
    exact ⟨a, lift q1, q2⟩
  · have e1 := pad_at (fun z => by cases z) h1
    have e2 := pad_at (fun z => by cases z) h2
    obtain ⟨a1, q1, _⟩ := S.own i x e1
    obtain ⟨a2, q2, _⟩ := S.own j y e2
    rw [lift q1] at h3
    cases h3
    rw [lift q2]
    intro z
    cases z
    exact S.sep i j x y _ hij e1 e2 q1 q2
  · obtain ⟨a, q1, q2⟩ := S.scr j ns (pad_at (fun z => by cases z) h)
    exact ⟨a, lift q1, q2⟩
theorem outs_at {j : Nat} {z : Sl} (hz : z ≠ .u) (h : (outs pin n e)[j]? = some z) : j ∈ pin ∧ j < n ∧ e[j]? = some z := by
  unfold outs at h
  rw [List.getElem?_map] at h
  by_cases hj : j < n
  · rw [List.getElem?_range hj] at h
    simp only [Option.map_some, Option.some.injEq] at h
    split at h
    · rename_i hp
      refine ⟨hp, hj, ?_⟩
      cases q : e[j]? with
      | none => rw [q] at h; exact absurd h.symm hz
      | some y => rw [q] at h; exact congrArg some h
    · exact absurd h.symm hz
  · rw [List.getElem?_eq_none (by simpa using hj)] at h
    cases h
theorem SIP.outs (S : SIP K pin Bn P G H e σ) (hn : n = vs.length) (hv : ∀ i ∈ pin, i < n → σ[i]? = (vs.map some)[i]?) : SI K Bn G H (Pd.outs pin n e) (vs.map some) := by
  refine ⟨S.si.ex, S.si.bx, S.si.dj, by simp [Pd.outs, hn], fun j x h => ?_, fun j x h => ?_, fun i j x y a hij h1 h2 h3 => ?_, fun j ns h => ?_⟩
  · obtain ⟨h1, h2, h3⟩ := outs_at (fun z => by cases z) h
    rw [← hv j h1 h2]
    exact S.si.dat j x h3
  · obtain ⟨h1, h2, h3⟩ := outs_at (fun z => by cases z) h
    rw [← hv j h1 h2]
    exact S.si.own j x h3
  · obtain ⟨g1, g2, g3⟩ := outs_at (fun z => by cases z) h1
    obtain ⟨k1, k2, k3⟩ := outs_at (fun z => by cases z) h2
    rw [← hv i g1 g2] at h3
    rw [← hv j k1 k2]
    exact S.si.sep i j x y a hij g3 k3 h3
  · obtain ⟨h1, h2, h3⟩ := outs_at (fun z => by cases z) h
    rw [← hv j h1 h2]
    exact S.si.scr j ns h3
theorem Res.outs {r : Ar} {v : V} (h : Res K Bn G H e σ r v) (hv : ∀ i ∈ pin, i < n → σ[i]? = (vs.map some)[i]?) : Res K Bn G H (Pd.outs pin n e) (vs.map some) r v := by
  cases r with
  | d x => exact h
  | o x =>
    obtain ⟨a, rfl, q1, q2, q3, q4⟩ := h
    refine ⟨a, rfl, q1, q2, q3, fun i y hy => ?_⟩
    obtain ⟨h1, h2, h3⟩ := outs_at (fun z => by cases z) hy
    rw [← hv i h1 h2]
    exact q4 i y h3
end

/-- a def that keeps its promise wherever no repr is under way -/
structure FnG (P : Program) (w : World) (K : PySem.W.Frag) (mg : Str → Option Value) (base : Heap) (k : Nat) (f : Addr) (fd : FuncData) (ps : List Str) (sp : Sp) : Prop where
  len : ∀ vs H Q E, sp vs H Q E → vs.length = ps.length
  go : ∀ (A : Around) (outer : List PySem.Env) (s : Shared) (H : Hp) (args : Args) (us : List Value) (vs : List V) (Q : VK) (E : XK), Room k A ∧ A.guards = some [] → Env0 P w K mg base A outer s H →
    BindsTo s fd args (ps.zip us) → Vals vs us → sp vs H Q E → codeAny (model P w) A (.call (.ref f) args) (CR (L2.CX P w) outer P w H s Q E) s
theorem FnG.mono {P : Program} {w : World} {K : PySem.W.Frag} {mg : Str → Option Value} {base : Heap} {j k : Nat} {f : Addr} {fd : FuncData} {ps : List Str} {sp : Sp} (F : FnG P w K mg base j f fd ps sp) (h : j ≤ k) : FnG P w K mg base k f fd ps sp :=
  ⟨F.len, fun A outer s H args us vs Q E r => F.go A outer s H args us vs Q E ⟨r.1.mono h, r.2⟩⟩
theorem FnG.imp {P : Program} {w : World} {K : PySem.W.Frag} {mg : Str → Option Value} {base : Heap} {k : Nat} {f : Addr} {fd : FuncData} {ps : List Str} {sp sp' : Sp} (F : FnG P w K mg base k f fd ps sp) (h : ∀ vs H Q E, sp' vs H Q E → sp vs H Q E) : FnG P w K mg base k f fd ps sp' :=
  ⟨fun vs H Q E q => F.len vs H Q E (h _ _ _ _ q), fun A outer s H args us vs Q E r e b v q => F.go A outer s H args us vs Q E r e b v (h _ _ _ _ q)⟩

/-- a def's own text -/
theorem FnG.raw {P : Program} {w : World} {K : PySem.W.Frag} {mg : Str → Option Value} {base : Heap} {k : Nat} {f : Addr} {fd : FuncData} {x qual : Str} {params : Arguments} {body : List Stmt} {scope : Scope} {dvs : List V} {kws : List (Str × V)} {N ps : List Str} {sp : Sp}
    (F : FunD K x qual params body scope dvs kws f fd) (S : FnScope N ps scope) (len : ∀ vs H Q E, sp vs H Q E → vs.length = ps.length)
    (hb : ∀ (cdv : Value) (A : Around) (outer : List PySem.Env) (s : Shared) (H : Hp) (vs : List V) (Q : VK) (E : XK), Room k (A.deeper (envOfC qual scope s.heap.objs.size f cdv)) → A.guards = some [] → sp vs H Q E →
      ∃ t, PSs (cxOf (L2.CX P w) P w K mg base N qual scope f cdv A outer s H E) body t ∧ t ⟨fun _ H' => Q .non H', Q, fun _ _ => False, fun _ _ => False⟩ (start N vs) H) : FnG P w K mg base (k + 1) f fd ps sp := by
  obtain ⟨oc, od, dV, kV, doc, pm, an, cdv, ct, osl, rfl, lk, hcd, _, _⟩ := F.ex
  refine ⟨len, fun A outer s H args us vs Q E hr e0 hB rv hq => ?_⟩
  have there : ∀ {b : Addr} {o : Obj}, base.get? b = some o → s.heap.get? b = some o := fun {b o} z => (e0.bs b o z).1
  have KI := e0.mod.kin.keeps fun b o => there (b := b) (o := o)
  have NL := e0.mod.nolimit.keeps fun b o => there (b := b) (o := o)
  have par : ∀ y ∈ ps.zip us, scope.names.lookup y.1 = some .local ∨ (scope.names.lookup y.1 = some .cell ∧ ((cellsFrom (s.heap.objs.size + 1) scope.names []).lookup y.1).isSome = true) := by
    rintro ⟨nm, u⟩ hy
    exact (S.par nm (List.of_mem_zip hy).1).imp id fun q => ⟨q, PySem.W.cellsFrom_some _ _ _ (.inl q)⟩
  refine codeAny_call_function hr.1.depth (KI _ _ lk) rfl S.co S.gen rfl (PySem.W.codeRec_of KI hcd) (hB _ _ _ _ (wpAny_newFunctionEnv_cells S.kind par ?_))
  rintro env rfl s1 ic
  refine ⟨NL.keeps ic.toInCall.keep, codeAny_func ?_⟩
  obtain ⟨t, ht, hs⟩ := hb cdv A outer s H vs Q E (hr.1.deeper _) hr.2 hq
  refine wpAny_mono (ht.run [] s1 (start N vs) H _ (inv_start S hr.1.hd e0 (len _ _ _ _ hq) rv ic) hs) ?_ fun _ _ z => z
  rintro fl s' q
  cases fl with
  | next => obtain ⟨σ', H', J, q⟩ := q; exact ⟨.non, H', J.os, J.bare, J.base, J.hok, rfl, q⟩
  | ret u => obtain ⟨v, σ', H', J, ru, q⟩ := q; exact ⟨v, H', J.os, J.bare, J.base, J.hok, ru, q⟩
  | brk => obtain ⟨_, _, _, q⟩ := q; exact q.elim
  | cont => obtain ⟨_, _, _, q⟩ := q; exact q.elim
theorem deeper_guards (A : Around) (env : PySem.Env) : (A.deeper env).guards = A.guards := rfl
abbrev WE (E : XK) : WX := fun c d _ H => E c d H
abbrev cxG (P : Program) (w : World) (K : PySem.W.Frag) (mg : Str → Option Value) (base : Heap) (N : List Str) (qual : Str) (scope : Scope) (f : Addr) (cdv : Value) (A : Around) (outer : List PySem.Env) (s : Shared) (H : Hp) (E : XK) : Cx := cxOf (L2.CX P w) P w K mg base N qual scope f cdv A outer s H E
theorem FnG.of {P : Program} {w : World} {C : Kc} {mg : Str → Option Value} {base : Heap} {k : Nat} {f : Addr} {fd : FuncData} {x qual : Str} {params : Arguments} {body : List Stmt} {scope : Scope} {dvs : List V} {kws : List (Str × V)} {N ps : List Str} {pin : List Nat} {code : EvS}
    (F : FunD C.K x qual params body scope dvs kws f fd) (S : FnScope N ps scope) (hp : (pin.all fun i => decide (i < ps.length)) = true) (dg : base.NoDigits)
    (hb : ∀ (cdv : Value) (A : Around) (outer : List PySem.Env) (s : Shared) (H : Hp) (E : XK), Rm (cxG P w C.K mg base N qual scope f cdv A outer s H E) k C (WE E) → PSs (cxG P w C.K mg base N qual scope f cdv A outer s H E) body (tS C (WE E) pin code)) :
    FnG P w C.K mg base (k + 1) f fd ps (spF C ps.length (runB ps.length N.length pin code)) := by
  refine FnG.raw F S (fun vs H Q E h => ?_) fun cdv A outer s H vs Q E hr hg h => ⟨_, hb cdv A outer s H E ⟨hr, hg, rfl, S.nd, rfl, takes_of rfl rfl rfl rfl, passes_of rfl, dg⟩, ?_⟩
  · obtain ⟨Bn, G, as, SIn, hl, _⟩ := h
    have := SIn.len
    rw [List.length_map] at this
    omega
  · obtain ⟨Bn, G, as, SIn, hl, h⟩ := h
    have hvl : vs.length = ps.length := by
      have := SIn.len
      rw [List.length_map] at this
      omega
    have sv : L2.start N vs = vs.map some ++ List.replicate (N.length - ps.length) none := by unfold L2.start; rw [hvl]
    refine ⟨Bn, pin.map fun i => (i, vs.getD i .non), G, _, ⟨sv ▸ SIn.pad (N.length - ps.length), by simp [Function.comp_def], fun q hq => ?_⟩, ?_⟩
    · obtain ⟨i, hi, rfl⟩ := List.mem_map.mp hq
      have hlt : i < vs.length := by
        rw [hvl]
        simpa using List.all_eq_true.mp hp i hi
      rw [sv, List.getElem?_append_left (by simpa using hlt)]
      simp [hlt]
    · have pv : ∀ {G' H' : Hp} {e : Env} {σ' : L2.St}, SIP C.K pin Bn (pin.map fun i => (i, vs.getD i .non)) G' H' e σ' → ∀ i ∈ pin, i < ps.length → σ'[i]? = (vs.map some)[i]? := fun S' i hi hlt => by
        rw [S'.pv _ (List.mem_map.mpr ⟨i, hi, rfl⟩)]
        have : i < vs.length := by omega
        simp [this]
      unfold runB at h
      split at h
      · rename_i r e hc
        rw [hc]
        exact fun G' H' σ' v x1 S' hv => h G' H' v x1 (S'.outs hvl.symm (pv S')) (hv.outs (pv S'))
      · rename_i e hc
        rw [hc]
        exact fun G' H' σ' x1 S' => h G' H' _ x1 (S'.outs hvl.symm (pv S')) rfl
      · rename_i x e hc
        rw [hc]
        exact fun G' H' σ' c d x1 S' X => h G' H' c d x1 (S'.outs hvl.symm (pv S')) X
      · exact h.elim
end Pd
set_option Elab.async false
set_option linter.all false
set_option maxRecDepth 100000
set_option maxHeartbeats 2000000
namespace Pd
open PySem PySem.Spec PyProof.Rows L2
open Evl (Ex Ex.refl Ex.trans ex_rd ex_l ex_t)

/-! ### calls of defs -/
inductive Ag where
  | d (x : D)
  | v (i : Nat)
  | o (x : D)
def Ag.var : Ag → Option Nat
  | .v i => some i
  | _ => none
def vars (ags : List Ag) : List Nat := ags.filterMap Ag.var
def resA (e : Env) : List Ag → Option Env
  | [] => some []
  | .d x :: r => (resA e r).map (Sl.d x :: ·)
  | .o x :: r => (resA e r).map (Sl.o x :: ·)
  | .v i :: r => match e[i]? with
    | some .u => none
    | none => none
    | some z => (resA e r).map (z :: ·)
def updA : Env → List Ag → Env → Env
  | e, .v i :: r, z :: os => updA (e.set i z) r os
  | e, .d _ :: r, _ :: os => updA e r os
  | e, .o _ :: r, _ :: os => updA e r os
  | e, _, _ => e
structure AL (K : PySem.W.Frag) (Bn G H : Hp) (e : Env) (σ : L2.St) (ags : List Ag) (vs : List V) : Prop where
  len : ags.length = vs.length
  dd : ∀ (q : Nat) x, ags[q]? = some (.d x) → ∃ v, vs[q]? = some v ∧ Rep K G x v
  vv : ∀ (q : Nat) i, ags[q]? = some (.v i) → ∃ v, vs[q]? = some v ∧ σ[i]? = some (some v)
  oo : ∀ (q : Nat) x, ags[q]? = some (.o x) → ∃ a, vs[q]? = some (.ref a) ∧ Own K Bn G H e σ x a
  dis : ∀ (q l : Nat) x y, q ≠ l → ags[q]? = some (.o x) → ags[l]? = some (.o y) → vs[q]? ≠ vs[l]?
section
variable {K : PySem.W.Frag} {Bn G H G' H' : Hp} {e as os : Env} {σ : L2.St} {ags : List Ag} {vs : List V}
theorem resA_len : ∀ {ags : List Ag} {as : Env}, resA e ags = some as → as.length = ags.length
  | [], _, h => by cases h; rfl
  | .d x :: r, _, h => by
    obtain ⟨t, h1, rfl⟩ := Option.map_eq_some_iff.mp h
    rw [List.length_cons, List.length_cons, resA_len h1]
  | .o x :: r, _, h => by
    obtain ⟨t, h1, rfl⟩ := Option.map_eq_some_iff.mp h
    rw [List.length_cons, List.length_cons, resA_len h1]
  | .v i :: r, _, h => by
    unfold resA at h
    split at h
    · cases h
    · cases h
    · obtain ⟨t, h1, rfl⟩ := Option.map_eq_some_iff.mp h
      rw [List.length_cons, List.length_cons, resA_len h1]
def AgZ (e : Env) (z : Sl) : Ag → Prop
  | .d x => z = .d x
  | .o x => z = .o x
  | .v i => e[i]? = some z
theorem resA_at : ∀ {ags : List Ag} {as : Env} {q : Nat} {z : Sl}, resA e ags = some as → as[q]? = some z → ∃ g, ags[q]? = some g ∧ AgZ e z g
  | [], _, _, _, h, hz => by cases h; simp at hz
  | g :: r, as, q, z, h, hz => by
    have key : ∃ y t, as = y :: t ∧ AgZ e y g ∧ resA e r = some t := by
      cases g with
      | d x => obtain ⟨t, h1, rfl⟩ := Option.map_eq_some_iff.mp h; exact ⟨_, t, rfl, rfl, h1⟩
      | o x => obtain ⟨t, h1, rfl⟩ := Option.map_eq_some_iff.mp h; exact ⟨_, t, rfl, rfl, h1⟩
      | v i =>
        unfold resA at h
        split at h
        · cases h
        · cases h
        · rename_i z' _ hz'
          obtain ⟨t, h1, rfl⟩ := Option.map_eq_some_iff.mp h
          exact ⟨_, t, rfl, hz', h1⟩
    obtain ⟨y, t, rfl, h1, h2⟩ := key
    cases q with
    | zero => simp at hz; subst hz; exact ⟨g, rfl, h1⟩
    | succ q =>
      obtain ⟨g', h3, h4⟩ := resA_at (q := q) h2 (by simpa using hz)
      exact ⟨g', by simpa using h3, h4⟩
theorem updA_len : ∀ {ags : List Ag} {e os : Env}, (updA e ags os).length = e.length
  | [], e, os => by unfold updA; rfl
  | .v i :: r, e, [] => rfl
  | .v i :: r, e, z :: os => by show (updA (e.set i z) r os).length = _; rw [updA_len]; simp
  | .d _ :: r, e, [] => rfl
  | .d _ :: r, e, z :: os => by show (updA e r os).length = _; exact updA_len
  | .o _ :: r, e, [] => rfl
  | .o _ :: r, e, z :: os => by show (updA e r os).length = _; exact updA_len
theorem updA_no {j : Nat} : ∀ {ags : List Ag} {e os : Env}, j ∉ vars ags → (updA e ags os)[j]? = e[j]?
  | [], e, os, _ => by unfold updA; rfl
  | .v i :: r, e, [], _ => rfl
  | .v i :: r, e, z :: os, h => by
    have h' : j ∉ i :: vars r := h
    show (updA (e.set i z) r os)[j]? = _
    rw [updA_no (fun q => h' (List.mem_cons_of_mem _ q)), List.getElem?_set_ne (fun q => h' (by rw [q]; exact List.mem_cons_self))]
  | .d _ :: r, e, [], _ => rfl
  | .d _ :: r, e, z :: os, h => by show (updA e r os)[j]? = _; exact updA_no h
  | .o _ :: r, e, [], _ => rfl
  | .o _ :: r, e, z :: os, h => by show (updA e r os)[j]? = _; exact updA_no h
theorem mem_vars {j q : Nat} {ags : List Ag} (h : ags[q]? = some (Ag.v j)) : j ∈ vars ags := List.mem_filterMap.mpr ⟨Ag.v j, List.mem_of_getElem? h, rfl⟩
theorem of_vars {j : Nat} {ags : List Ag} (h : j ∈ vars ags) : ∃ q : Nat, ags[q]? = some (Ag.v j) := by
  obtain ⟨g, h1, h2⟩ := List.mem_filterMap.mp h
  cases g with
  | v i => cases h2; exact List.getElem?_of_mem h1
  | d _ => cases h2
  | o _ => cases h2
theorem updA_var {j : Nat} {z : Sl} : ∀ {ags : List Ag} {e os : Env} {q : Nat}, (vars ags).Nodup → ags[q]? = some (.v j) → os[q]? = some z → j < e.length → (updA e ags os)[j]? = some z
  | [], _, _, _, _, h, _, _ => by simp at h
  | g :: r, e, [], _, _, _, h, _ => by simp at h
  | g :: r, e, y :: os, 0, nd, h, h2, hl => by
    simp at h h2
    subst h h2
    have nd' : (j :: vars r).Nodup := nd
    show (updA (e.set j y) r os)[j]? = _
    rw [updA_no (List.nodup_cons.mp nd').1, List.getElem?_set_self hl]
  | g :: r, e, y :: os, q + 1, nd, h, h2, hl => by
    have h : r[q]? = some (.v j) := by simpa using h
    have h2 : os[q]? = some z := by simpa using h2
    cases g with
    | d x => exact updA_var (ags := r) (e := e) (os := os) (q := q) (show (vars r).Nodup from nd) h h2 hl
    | o x => exact updA_var (ags := r) (e := e) (os := os) (q := q) (show (vars r).Nodup from nd) h h2 hl
    | v i => exact updA_var (ags := r) (e := e.set i y) (os := os) (q := q) (List.nodup_cons.mp (show (i :: vars r).Nodup from nd)).2 h h2 (by simpa using hl)
theorem vars_inj {ags : List Ag} {p q i : Nat} (nd : (vars ags).Nodup) (h1 : ags[p]? = some (Ag.v i)) (h2 : ags[q]? = some (Ag.v i)) : p = q := by
  induction ags generalizing p q with
  | nil => simp at h1
  | cons g r ih =>
    cases p with
    | zero =>
      cases q with
      | zero => rfl
      | succ q =>
        simp at h1 h2
        subst h1
        exact absurd (mem_vars h2) (List.nodup_cons.mp (show (i :: vars r).Nodup from nd)).1
    | succ p =>
      cases q with
      | zero =>
        simp at h1 h2
        subst h2
        exact absurd (mem_vars h1) (List.nodup_cons.mp (show (i :: vars r).Nodup from nd)).1
      | succ q =>
        have nd' : (vars r).Nodup := by
          cases g with
          | d x => exact nd
          | o x => exact nd
          | v j => exact (List.nodup_cons.mp (show (j :: vars r).Nodup from nd)).2
        exact congrArg _ (ih nd' (by simpa using h1) (by simpa using h2))
/-- what the callee may not touch: all but what is known, and what is handed over -/
def Given (as : Env) (vs : List V) (b : Addr) : Prop := ∃ (q : Nat) (x : D), as[q]? = some (.o x) ∧ vs[q]? = some (.ref b)
open Classical in
noncomputable def bnC (G H : Hp) (as : Env) (vs : List V) : Hp := fun b => if G b = none ∧ ¬ Given as vs b then H b else none
theorem bnC_in {b : Addr} {u : HO} (h : bnC G H as vs b = some u) : G b = none ∧ ¬ Given as vs b ∧ H b = some u := by
  unfold bnC at h
  split at h
  · rename_i q; exact ⟨q.1, q.2, h⟩
  · cases h
theorem bnC_at {b : Addr} (h1 : G b = none) (h2 : ¬ Given as vs b) : bnC G H as vs b = H b := by
  unfold bnC
  rw [if_pos ⟨h1, h2⟩]
theorem bnC_given {b : Addr} (h : Given as vs b) : bnC G H as vs b = none := by
  unfold bnC
  rw [if_neg fun q => q.2 h]
theorem vmap {q : Nat} {v : V} (h : vs[q]? = some v) : (vs.map some)[q]? = some (some v) := by rw [List.getElem?_map, h]; rfl
theorem vmap' {q : Nat} {v : V} (h : (vs.map some)[q]? = some (some v)) : vs[q]? = some v := by
  rw [List.getElem?_map] at h
  cases e : vs[q]? with
  | none => rw [e] at h; cases h
  | some u => rw [e] at h; cases h; rfl
theorem AL.into (S : SI K Bn G H e σ) (A : AL K Bn G H e σ ags vs) (hr : resA e ags = some as) (nd : (vars ags).Nodup) : SI K (bnC G H as vs) G H as (vs.map some) := by
  refine ⟨S.ex, fun b u h => (bnC_in h).2.2, fun b h => ?_, by rw [resA_len hr, A.len, List.length_map], fun q x h => ?_, fun q x h => ?_, fun q l x y a hql h1 h2 h3 => ?_, fun q ns h => ?_⟩
  · cases q : bnC G H as vs b with
    | none => exact absurd q h
    | some u => exact (bnC_in q).1
  · obtain ⟨g, h1, h2⟩ := resA_at hr h
    cases g with
    | d y => cases h2; obtain ⟨v, q1, q2⟩ := A.dd q _ h1; exact ⟨v, vmap q1, q2⟩
    | o y => cases h2
    | v i =>
      obtain ⟨v, q1, q2⟩ := A.vv q i h1
      obtain ⟨v', q3, q4⟩ := S.dat i x h2
      rw [q2] at q3
      cases q3
      exact ⟨v, vmap q1, q4⟩
  · have own : ∃ a, vs[q]? = some (.ref a) ∧ G a = none ∧ ORep K G H x a := by
      obtain ⟨g, h1, h2⟩ := resA_at hr h
      cases g with
      | d y => cases h2
      | o y => cases h2; obtain ⟨a, q1, q2⟩ := A.oo q _ h1; exact ⟨a, q1, q2.g, q2.r⟩
      | v i =>
        obtain ⟨v, q1, q2⟩ := A.vv q i h1
        obtain ⟨a, q3, q4, _, q5⟩ := S.own i x h2
        rw [q2] at q3
        cases q3
        exact ⟨a, q1, q4, q5⟩
    obtain ⟨a, h1, h2, h3⟩ := own
    exact ⟨a, vmap h1, h2, bnC_given ⟨q, x, h, h1⟩, h3⟩
  · intro h4
    have h3 := vmap' h3
    have h4 := vmap' h4
    obtain ⟨g, g1, g2⟩ := resA_at hr h1
    obtain ⟨g', k1, k2⟩ := resA_at hr h2
    cases g with
    | d _ => cases g2
    | o _ =>
      cases g2
      cases g' with
      | d _ => cases k2
      | o _ => cases k2; exact A.dis q l _ _ hql g1 k1 (h3.trans h4.symm)
      | v j =>
        obtain ⟨b, q1, q2⟩ := A.oo q _ g1
        obtain ⟨v, q3, q4⟩ := A.vv l j k1
        rw [h3] at q1; cases q1
        rw [h4] at q3; cases q3
        exact q2.s j y k2 q4
    | v i =>
      obtain ⟨v, q3, q4⟩ := A.vv q i g1
      rw [h3] at q3; cases q3
      cases g' with
      | d _ => cases k2
      | o _ =>
        cases k2
        obtain ⟨b, q1, q2⟩ := A.oo l _ k1
        rw [h4] at q1; cases q1
        exact q2.s i x g2 q4
      | v j =>
        obtain ⟨v, q5, q6⟩ := A.vv l j k1
        rw [h4] at q5; cases q5
        exact S.sep i j x y a (fun e => by subst e; exact hql (vars_inj nd g1 k1)) g2 k2 q4 q6
  · obtain ⟨g, h1, h2⟩ := resA_at hr h
    cases g with
    | d y => cases h2
    | o y => cases h2
    | v i =>
      obtain ⟨v, q1, q2⟩ := A.vv q i h1
      obtain ⟨a, q3, q4⟩ := S.scr i ns h2
      rw [q2] at q3
      cases q3
      exact ⟨a, vmap q1, q4⟩
theorem AL.outof {r : Ar} {v : V} (S : SI K Bn G H e σ) (A : AL K Bn G H e σ ags vs) (hr : resA e ags = some as) (nd : (vars ags).Nodup) (x : Ex G G') (S1 : SI K (bnC G H as vs) G' H' os (vs.map some)) :
    SI K Bn G' H' (updA e ags os) σ ∧ (Res K (bnC G H as vs) G' H' os (vs.map some) r v → Res K Bn G' H' (updA e ags os) σ r v) := by
  -- an address that is handed over is no slot's but the handed one's
  have gb : ∀ {b : Addr}, Given as vs b → G b = none ∧ Bn b = none := fun {b} ⟨q, y, h1, h2⟩ => by
    obtain ⟨g, g1, g2⟩ := resA_at hr h1
    cases g with
    | d _ => cases g2
    | o _ => cases g2; obtain ⟨c, q1, q2⟩ := A.oo q _ g1; rw [h2] at q1; cases q1; exact ⟨q2.g, q2.b⟩
    | v i =>
      obtain ⟨u, q1, q2⟩ := A.vv q i g1
      obtain ⟨c, q3, q4, q5, _⟩ := S.own i y g2
      rw [h2] at q1; cases q1
      rw [q2] at q3; cases q3
      exact ⟨q4, q5⟩
  have bn : ∀ {b : Addr} {u : HO}, Bn b = some u → bnC G H as vs b = some u := fun {b u} h => by
    rw [bnC_at (S.dj b (by rw [h]; exact fun z => by cases z)) fun z => by rw [(gb z).2] at h; cases h]
    exact S.bx b u h
  have bnn : ∀ {b : Addr}, bnC G H as vs b = none → Bn b = none := fun {b} h => by
    cases q : Bn b with
    | none => rfl
    | some u => rw [bn q] at h; cases h
  -- an own slot that is not handed over
  have keep : ∀ (j : Nat) y, e[j]? = some (.o y) → j ∉ vars ags → ∃ a u, σ[j]? = some (some (V.ref a)) ∧ G a = none ∧ Bn a = none ∧ ORep K G H y a ∧ bnC G H as vs a = some u ∧ H a = some u := fun j y hj hn => by
    obtain ⟨a, q1, q2, q3, q4⟩ := S.own j y hj
    obtain ⟨u, hu⟩ := q4.some
    have hng : ¬ Given as vs a := fun ⟨q, z, h1, h2⟩ => by
      obtain ⟨g, g1, g2⟩ := resA_at hr h1
      cases g with
      | d _ => cases g2
      | o _ => cases g2; obtain ⟨c, k1, k2⟩ := A.oo q _ g1; rw [h2] at k1; cases k1; exact k2.s j y hj q1
      | v i =>
        obtain ⟨w, k1, k2⟩ := A.vv q i g1
        rw [h2] at k1; cases k1
        exact S.sep i j z y a (fun e => by subst e; exact hn (mem_vars g1)) g2 hj k2 q1
    exact ⟨a, u, q1, q2, q3, q4, (bnC_at q2 hng).trans hu, hu⟩
  have hlt : ∀ {j : Nat} {o : Option V}, σ[j]? = some o → j < e.length := fun {j o} h => by rw [S.len]; exact (List.getElem?_eq_some_iff.mp h).1
  have oslen : os.length = vs.length := by rw [S1.len, List.length_map]
  have slot : ∀ {j : Nat} {z : Sl}, (updA e ags os)[j]? = some z → (j ∉ vars ags ∧ e[j]? = some z) ∨ ∃ (q : Nat) (u : V), ags[q]? = some (Ag.v j) ∧ os[q]? = some z ∧ vs[q]? = some u ∧ σ[j]? = some (some u) := fun {j z} h => by
    by_cases hj : j ∈ vars ags
    · obtain ⟨q, hq⟩ := of_vars hj
      obtain ⟨u, k1, k2⟩ := A.vv q j hq
      have hql : q < os.length := by rw [oslen]; exact (List.getElem?_eq_some_iff.mp k1).1
      have := updA_var (os := os) nd hq (List.getElem?_eq_getElem hql) (hlt k2)
      rw [h] at this
      cases this
      exact .inr ⟨q, u, hq, List.getElem?_eq_getElem hql, k1, k2⟩
    · rw [updA_no hj] at h
      exact .inl ⟨hj, h⟩
  have ne0 : ∀ {a : Addr} {u : HO}, bnC G H as vs a = some u → G' a = none := fun {a u} h => S1.dj a (by rw [h]; exact fun z => by cases z)
  refine ⟨⟨S1.ex, fun b u h => S1.bx b u (bn h), fun b h => ?_, by rw [updA_len]; exact S.len, fun j y h => ?_, fun j y h => ?_, fun j l y z a hjl h1 h2 h3 => ?_, fun j ns h => ?_⟩, fun hv => ?_⟩
  · cases q : Bn b with
    | none => exact absurd q h
    | some u => exact ne0 (bn q)
  · rcases slot h with ⟨_, h⟩ | ⟨q, u, _, k2, k3, k4⟩
    · obtain ⟨u, q1, q2⟩ := S.dat j y h
      exact ⟨u, q1, Rep.ex x _ _ q2⟩
    · obtain ⟨w, q1, q2⟩ := S1.dat q y k2
      rw [vmap k3] at q1
      cases q1
      exact ⟨u, k4, q2⟩
  · rcases slot h with ⟨hn, h⟩ | ⟨q, u, _, k2, k3, k4⟩
    · obtain ⟨a, o, q1, q2, q3, q4, q5, q6⟩ := keep j y h hn
      exact ⟨a, q1, ne0 q5, q3, ORep.at ((S1.bx a o q5).trans q6.symm) (ORep.ex x q4)⟩
    · obtain ⟨a, q1, q2, q3, q4⟩ := S1.own q y k2
      rw [vmap k3] at q1
      cases q1
      exact ⟨a, k4, q2, bnn q3, q4⟩
  · intro h4
    rcases slot h1 with ⟨n1, h1⟩ | ⟨q, u, p1, p2, p3, p4⟩
    · obtain ⟨a1, o1, q1, _, _, _, q5, _⟩ := keep j y h1 n1
      rw [h3] at q1; cases q1
      rcases slot h2 with ⟨n2, h2⟩ | ⟨q', u', t1, t2, t3, t4⟩
      · exact S.sep j l y z a hjl h1 h2 h3 h4
      · obtain ⟨a2, k1, _, k3, _⟩ := S1.own q' z t2
        rw [vmap t3] at k1; cases k1
        rw [h4] at t4; cases t4
        rw [q5] at k3; cases k3
    · obtain ⟨a1, q1, _, q3, _⟩ := S1.own q y p2
      rw [vmap p3] at q1; cases q1
      rw [h3] at p4; cases p4
      rcases slot h2 with ⟨n2, h2⟩ | ⟨q', u', t1, t2, t3, t4⟩
      · obtain ⟨a2, o2, k1, _, _, _, k5, _⟩ := keep l z h2 n2
        rw [h4] at k1; cases k1
        rw [q3] at k5; cases k5
      · rw [h4] at t4; cases t4
        refine S1.sep q q' y z _ (fun e => ?_) p2 t2 (vmap p3) (vmap t3)
        subst e
        rw [p1] at t1
        cases t1
        exact hjl rfl
  · rcases slot h with ⟨_, h⟩ | ⟨q, u, _, k2, k3, k4⟩
    · obtain ⟨a, q1, q2⟩ := S.scr j ns h
      exact ⟨a, q1, ex_l x q2⟩
    · obtain ⟨a, q1, q2⟩ := S1.scr q ns k2
      rw [vmap k3] at q1
      cases q1
      exact ⟨a, k4, q2⟩
  · cases r with
    | d y => exact hv
    | o y =>
      obtain ⟨a, rfl, q1, q2, q3, q4⟩ := hv
      refine ⟨a, rfl, q1, bnn q2, q3, fun j z hz hs => ?_⟩
      rcases slot hz with ⟨hn, h⟩ | ⟨q, u, _, k2, k3, k4⟩
      · obtain ⟨a1, o1, p1, _, _, _, p5, _⟩ := keep j z h hn
        rw [hs] at p1; cases p1
        rw [q2] at p5; cases p5
      · rw [hs] at k4; cases k4
        exact q4 q z k2 (vmap k3)
end

/-! ### rows of arguments -/
abbrev EvG := Env → Rs (List Ag)
abbrev PAL (C : Kc) (Bn G H : Hp) (e : Env) (σ : L2.St) (r : List Ag) (v : List V) : Prop := AL C.K Bn G H e σ r v
abbrev tGa (C : Kc) (W : WX) (ev : EvG) : TA := tR C W (PAL C) ev
section
variable {X : Cx} {k : Nat} {C : Kc} {W : WX} {a b e : Expr} {es : List Expr} {p pos : Pos} {ea eb : EvE} {er : EvG} {x : Str} {i : Nat}
def agN : EvG := fun env => .ok [] env
def agD (ea : EvE) (er : EvG) : EvG := fun env => (evD ea env).bind fun x e1 => (er e1).bind fun rs e2 => .ok (.d x :: rs) e2
def agO (ea : EvE) (er : EvG) : EvG := fun env => (ea env).bind fun r e1 => (er e1).bind fun rs e2 => .ok ((match r with | .d x => .d x | .o x => .o x) :: rs) e2
def agV (i : Nat) (er : EvG) : EvG := fun env => match env[i]? with
  | some .u => .bad
  | none => .bad
  | _ => (er env).bind fun rs e2 => .ok (.v i :: rs) e2
theorem AL.cons {K : PySem.W.Frag} {Bn G H : Hp} {e : Env} {σ : L2.St} {ags : List Ag} {vs : List V} {g : Ag} {v : V} (A : AL K Bn G H e σ ags vs)
    (hd : ∀ x, g = Ag.d x → Rep K G x v) (hv : ∀ i, g = Ag.v i → σ[i]? = some (some v)) (ho : ∀ x, g = Ag.o x → ∃ a, v = .ref a ∧ Own K Bn G H e σ x a) (hx : ∀ x, g = Ag.o x → ∀ (j : Nat) (y : D), ags[j]? = some (Ag.o y) → vs[j]? ≠ some v) : AL K Bn G H e σ (g :: ags) (v :: vs) := by
  refine ⟨by simp [A.len], fun q x h => ?_, fun q i h => ?_, fun q x h => ?_, fun q l x y hql h1 h2 => ?_⟩
  · cases q with
    | zero => simp at h; exact ⟨v, rfl, hd x h⟩
    | succ q => obtain ⟨u, h1, h2⟩ := A.dd q x (by simpa using h); exact ⟨u, by simpa using h1, h2⟩
  · cases q with
    | zero => simp at h; exact ⟨v, rfl, hv i h⟩
    | succ q => obtain ⟨u, h1, h2⟩ := A.vv q i (by simpa using h); exact ⟨u, by simpa using h1, h2⟩
  · cases q with
    | zero => simp at h; obtain ⟨a, e1, e2⟩ := ho x h; exact ⟨a, by rw [e1]; rfl, e2⟩
    | succ q => obtain ⟨u, h1, h2⟩ := A.oo q x (by simpa using h); exact ⟨u, by simpa using h1, h2⟩
  · cases q with
    | zero =>
      cases l with
      | zero => exact absurd rfl hql
      | succ l =>
        simp at h1
        have := hx x h1 l y (by simpa using h2)
        simpa [eq_comm] using this
    | succ q =>
      cases l with
      | zero =>
        simp at h2
        have := hx y h2 q x (by simpa using h1)
        simpa using this
      | succ l =>
        have := A.dis q l x y (fun e => hql (by rw [e])) (by simpa using h1) (by simpa using h2)
        simpa using this
theorem q_agN : PA X [] (tGa C W agN) := pa_imp pa_nil fun σ H Q hw => by
  obtain ⟨Bn, G, env, S, h⟩ := hw
  exact h.now S _ ⟨rfl, fun q x e => by simp at e, fun q x e => by simp at e, fun q x e => by simp at e, fun q l x y _ e => by simp at e⟩
theorem q_agD (ha : PE X a (tE C W ea)) (hr : PA X es (tGa C W er)) (hs : starEach (a :: es) X.env = (false, eval a X.env) :: starEach es X.env := by rfl) : PA X (a :: es) (tGa C W (agD ea er)) := pa_imp (pa_cons (q_D ha) hr hs) fun σ H Q hw => by
  obtain ⟨Bn, G, env, S, h⟩ := hw
  refine ⟨Bn, G, env, S, h.bind.imp fun G1 H1 e1 x x1 S1 h v hv => ⟨Bn, G1, e1, S1, h.bind.imp fun G2 H2 e2 rs x2 S2 h vs hvs => h.now S2 _ (AL.cons hvs (fun y hy => ?_) (fun i hi => by cases hi) (fun y hy => by cases hy) fun y hy => by cases hy)⟩⟩
  cases hy
  exact Rep.ex x2 _ _ hv
theorem q_agV {x : Str} {p2 : Pos} (hN : X.N[i]? = some x) (hv : Vis X.env.scope x) (hr : PA X es (tGa C W er)) (hs : starEach (.Name x p2 :: es) X.env = (false, eval (.Name x p2) X.env) :: starEach es X.env := by rfl) (hd : (x == ("__debug__" : Str)) = false := by decide) (hcd : (x == ("__classdict__" : Str)) = false := by decide) :
    PA X (.Name x p2 :: es) (tGa C W (agV i er)) := pa_imp (pa_cons (pe_var (pos := p2) hN hv hd hcd) hr hs) fun σ H Q hw => by
  obtain ⟨Bn, G, env, S, h⟩ := hw
  have fin : ∀ v, σ[i]? = some (some v) → After C W Bn G σ ((er env).bind fun rs e2 => .ok (.v i :: rs) e2) (fun G' H' e a => ∀ b, PAL C Bn G' H' e σ a b → Q b H') → tCons (tVar i) (tGa C W er) σ H Q := fun v hv h =>
    ⟨v, hv, Bn, G, env, S, h.bind.imp fun G2 H2 e2 rs x2 S2 h vs hvs => h.now S2 _ (AL.cons hvs (fun y hy => by cases hy) (fun j hj => by cases hj; exact hv) (fun y hy => by cases hy) fun y hy => by cases hy)⟩
  unfold agV at h
  cases hz : env[i]? with
  | none => rw [hz] at h; exact h.elim
  | some z =>
    rw [hz] at h
    cases z with
    | u => exact h.elim
    | d x => obtain ⟨v, q1, _⟩ := S.dat i x hz; exact fin v q1 h
    | o x => obtain ⟨v, q1, _⟩ := S.own i x hz; exact fin _ q1 h
    | s ns => obtain ⟨v, q1, _⟩ := S.scr i ns hz; exact fin _ q1 h
theorem AL.bnDrop {K : PySem.W.Frag} {Bn G H : Hp} {env : Env} {σ : L2.St} {c : Addr} {o : HO} {ags : List Ag} {vs : List V} (hb : Bn c = none) (A : AL K (upd Bn c o) G H env σ ags vs) : AL K Bn G H env σ ags vs :=
  ⟨A.len, A.dd, A.vv, fun q x h => by
    obtain ⟨d, h1, h2⟩ := A.oo q x h
    obtain ⟨d', e1, e2⟩ := Res.bnDrop (r := .o x) hb ⟨d, rfl, h2⟩
    cases e1
    exact ⟨d, h1, e2⟩, A.dis⟩
theorem q_agO (ha : PE X a (tE C W ea)) (hr : PA X es (tGa C W er)) (hs : starEach (a :: es) X.env = (false, eval a X.env) :: starEach es X.env := by rfl) : PA X (a :: es) (tGa C W (agO ea er)) := pa_imp (pa_cons ha hr hs) fun σ H Q hw => by
  obtain ⟨Bn, G, env, S, h⟩ := hw
  refine ⟨Bn, G, env, S, h.bind.imp fun G1 H1 e1 r x1 S1 h v hv => ?_⟩
  cases r with
  | d x =>
    refine ⟨Bn, G1, e1, S1, h.bind.imp fun G2 H2 e2 rs x2 S2 h vs hvs => h.now S2 _ (AL.cons hvs (fun y hy => ?_) (fun i hi => by cases hi) (fun y hy => by cases hy) fun y hy => by cases hy)⟩
    cases hy
    exact Rep.ex x2 _ _ hv
  | o x =>
    obtain ⟨q, rfl, ho⟩ := hv
    obtain ⟨u, hu⟩ := ho.r.some
    have S1' := S1.bnAdd hu ho.g ho.s
    cases hev : er e1 with
    | bad => rw [hev] at h; exact h.elim
    | ex y e2 => exact ⟨Bn, G1, e1, S1, by rw [hev] at h ⊢; exact h⟩
    | ok rs e2 =>
      refine ⟨upd Bn q u, G1, e1, S1', ?_⟩
      rw [hev] at h ⊢
      intro G2 H2 x2 S2 vs hvs
      have S3 := S2.bnDrop ho.b
      have hq : Own C.K Bn G2 H2 e2 σ x q := ⟨S2.dj q (by rw [upd_same]; exact fun z => by cases z), ho.b, ORep.at ((S2.bx q u upd_same).trans hu.symm) (ORep.ex x2 ho.r), fun i y hy z => by
        obtain ⟨b, q1, _, q3, _⟩ := S2.own i y hy
        rw [z] at q1
        cases q1
        rw [upd_same] at q3
        cases q3⟩
      refine h G2 H2 x2 S3 _ (AL.cons (AL.bnDrop ho.b hvs) (fun y hy => by cases hy) (fun y hy => by cases hy) (fun y hy => by cases hy; exact ⟨q, rfl, hq⟩) fun y hy j z hz e => ?_)
      obtain ⟨b, e1, q2⟩ := hvs.oo j _ hz
      rw [e] at e1
      cases e1
      have := q2.b
      rw [upd_same] at this
      cases this

/-! ### f(a, b, ..) -/
def callA (n : Nat) (run : Run) (ags : List Ag) (e : Env) : Rs Ar := if (vars ags).Nodup then match resA e ags with
  | some as => if as.length = n then match run as with
    | .ok r os => .ok r (updA e ags os)
    | .ex x os => .ex x (updA e ags os)
    | .bad => .bad
    else .bad
  | none => .bad
  else .bad
def evCallG (n : Nat) (run : Run) (er : EvG) : EvE := fun env => (er env).bind fun ags e => callA n run ags e
variable {Fd : FuncData} {f : Addr} {ps : List Str} {n j : Nat} {run : Run}
theorem callA_ok {Bn G H : Hp} {env : Env} {σ : L2.St} {ags : List Ag} {vs : List V} {Q : VK} {pins : List (Addr × Obj)} {s : Shared} {args : Args} {us : List Value} (R : Rm X k C W) (F : FnG X.prog X.w X.K X.mg X.base j f Fd ps (spF C n run)) (hj : j ≤ k) (I : L2.Inv X pins σ H s)
    (hb : (us.length = ps.length) → BindsTo s Fd args (ps.zip us)) (rv : Vals vs us) (S : SI C.K Bn G H env σ) (A : AL C.K Bn G H env σ ags vs) (h : After C W Bn G σ (callA n run ags env) fun G' H' e a => ∀ b, PRes C Bn G' H' e σ a b → Q b H') :
    wpAny (model X.prog X.w) X.A (call (.ref f) args.pos args.kw) (EP X pins σ Q) X.xe s := by
  unfold callA at h
  split at h
  · rename_i nd
    split at h
    · rename_i as hr
      split at h
      · rename_i hl
        have sp : spF C n run vs H Q (fun c d H' => W c d σ H') := by
          refine ⟨_, G, as, A.into S hr nd, hl, ?_⟩
          split at h
          · rename_i r os hrun
            rw [hrun]
            intro G' H' v x1 S1 hv
            have O := A.outof (r := r) (v := v) S hr nd x1 S1
            exact h G' H' x1 O.1 v (O.2 hv)
          · rename_i y os hrun
            rw [hrun]
            intro G' H' c d x1 S1 XR
            have O := A.outof (r := .d .none) (v := .non) S hr nd x1 S1
            exact h G' H' c d x1 O.1 XR
          · exact h.elim
        have hul : us.length = ps.length := by rw [← rv.length]; exact F.len _ _ _ _ sp
        refine wpAny_call (codeAny_mono ((F.mono hj).go X.A X.stack s H args us vs Q _ ⟨R.room, R.gd⟩ I.env0 (hb hul) rv sp) fun r s' hq => ?_)
        cases r with
        | error u => exact R.tk u s' (XE.of_call I (fun _ _ _ z => z) hq)
        | ok fl =>
          cases fl with
          | ret u => exact I.after hq
          | next => exact hq.elim
          | brk => exact hq.elim
          | cont => exact hq.elim
      · exact h.elim
    · exact h.elim
  · exact h.elim
theorem q_callG (R : Rm X k C W) (F : FnG X.prog X.w X.K X.mg X.base j f Fd ps (spF C n run)) (hg : Gl X x) (hm : X.mg x = some (.ref f)) (hk : PySem.W.keepIn X.K (.ref f) = true) (hb : Binds X.K Fd ps []) (ha : PA X (e :: es) (tGa C W er)) (hj : j ≤ k := by decide) (hdb : (x == ("__debug__" : Str)) = false := by decide)
    (he : starEach (e :: es) X.env = (false, eval e X.env) :: starEach es X.env := by rfl) (hpl : (backTo pos (starEach es X.env)).any (·.1) = false := by rfl) : PE X (.Call (.Name x p) (e :: es) [] pos) (tE C W (evCallG n run er)) := by
  refine ⟨fun pins s σ H Q I h => wpAny_Call_Name_kw (ld_glob I hg hm ?_ hdb)⟩
  obtain ⟨Bn, G, env, S, h⟩ := h
  refine PySem.W.callWith_K (h₀ := X.base) I.ok.mod.kin hk (thn (ha.run pos pins s σ H _ I ⟨Bn, G, env, S, h.bind.imp fun G1 H1 e1 ags x1 S1 h vs hvs => (⟨G1, e1, ags, S1, hvs, h⟩ : ∃ G1 e1 ags, SI C.K Bn G1 H1 e1 σ ∧ AL C.K Bn G1 H1 e1 σ ags vs ∧ After C W Bn G1 σ (callA n run ags e1) fun G' H' e a => ∀ b, PRes C Bn G' H' e σ a b → Q b H')⟩)
    fun us s1 ⟨vs, H1, I1, rv, G1, e1, ags, S1, A, h⟩ => ⟨I1.kIn, ?_⟩) he hpl
  exact callA_ok (args := ⟨us, []⟩) R F hj I1 (fun hl => by have := hb s1 us I1.kIn (by simpa using hl); rw [List.append_nil] at this; exact this) rv S1 A h
/-- data alone is handed over -/
def runD (run : Run) (xs : List D) (e : Env) : Rs Ar := match run (xs.map .d) with
  | .ok r _ => .ok r e
  | .ex x _ => .ex x e
  | .bad => .bad
def evCall (n : Nat) (run : Run) (er : EvA) : EvE := fun env => (er env).bind fun xs e => if xs.length = n then runD run xs e else .bad
theorem resA_d (e : Env) : ∀ xs : List D, resA e (xs.map .d) = some (xs.map .d)
  | [] => rfl
  | x :: xs => by rw [List.map_cons, List.map_cons]; unfold resA; rw [resA_d e xs]; rfl
theorem updA_d : ∀ (xs : List D) (e os : Env), updA e (xs.map .d) os = e
  | [], e, os => by unfold updA; rfl
  | x :: xs, e, [] => rfl
  | x :: xs, e, z :: os => by rw [List.map_cons]; show updA e (xs.map .d) os = e; exact updA_d xs e os
theorem vars_d : ∀ xs : List D, vars (xs.map .d) = []
  | [] => rfl
  | x :: xs => by rw [List.map_cons]; show vars (xs.map .d) = []; exact vars_d xs
theorem callA_d {xs : List D} {e : Env} : callA n run (xs.map .d) e = if xs.length = n then runD run xs e else .bad := by
  unfold callA
  rw [vars_d, if_pos List.nodup_nil, resA_d]
  show (if (xs.map Sl.d).length = n then _ else _) = _
  rw [List.length_map]
  split
  · unfold runD
    cases run (xs.map .d) with
    | ok r os => show Rs.ok r (updA e _ os) = _; rw [updA_d]
    | ex r os => show Rs.ex r (updA e _ os) = _; rw [updA_d]
    | bad => rfl
  · rfl
theorem al_d {K : PySem.W.Frag} {Bn G H : Hp} {e : Env} {σ : L2.St} {xs : List D} {vs : List V} (h : Reps K G xs vs) : AL K Bn G H e σ (xs.map .d) vs := by
  refine ⟨by rw [List.length_map]; exact h.len, fun q x e => ?_, fun q x e => ?_, fun q x e => ?_, fun q l x y _ e => ?_⟩
  · rw [List.getElem?_map] at e
    cases hq : xs[q]? with
    | none => rw [hq] at e; cases e
    | some y => rw [hq] at e; cases e; exact h.get hq
  all_goals
    rw [List.getElem?_map] at e
    cases hq : xs[q]? with
    | none => rw [hq] at e; cases e
    | some y => rw [hq] at e; cases e
theorem q_call (R : Rm X k C W) {er : EvA} (F : FnG X.prog X.w X.K X.mg X.base j f Fd ps (spF C n run)) (hg : Gl X x) (hm : X.mg x = some (.ref f)) (hk : PySem.W.keepIn X.K (.ref f) = true) (hb : Binds X.K Fd ps []) (ha : PA X (e :: es) (tA C W er)) (hj : j ≤ k := by decide) (hdb : (x == ("__debug__" : Str)) = false := by decide)
    (he : starEach (e :: es) X.env = (false, eval e X.env) :: starEach es X.env := by rfl) (hpl : (backTo pos (starEach es X.env)).any (·.1) = false := by rfl) : PE X (.Call (.Name x p) (e :: es) [] pos) (tE C W (evCall n run er)) := by
  have ha' : PA X (e :: es) (tGa C W fun env => (er env).bind fun xs e => .ok (xs.map .d) e) := pa_imp ha fun σ H Q hw => by
    obtain ⟨Bn, G, env, S, h⟩ := hw
    exact ⟨Bn, G, env, S, h.bind.imp fun G1 H1 e1 xs x1 S1 h vs hvs => h.now S1 _ (al_d hvs)⟩
  refine pe_imp (q_callG R F hg hm hk hb ha' hj hdb he hpl) fun σ H Q hw => ?_
  obtain ⟨Bn, G, env, S, h⟩ := hw
  refine ⟨Bn, G, env, S, ?_⟩
  have e1 : evCallG n run (fun env => (er env).bind fun xs e => .ok (xs.map .d) e) env = evCall n run er env := by
    show ((er env).bind fun xs e => Rs.ok (xs.map Ag.d) e).bind (fun ags e => callA n run ags e) = (er env).bind fun xs e => if xs.length = n then runD run xs e else .bad
    cases er env with
    | ok xs e => show callA n run (xs.map .d) e = _; exact callA_d
    | ex _ _ => rfl
    | bad => rfl
  rw [e1]
  exact h
/-- f(k = a, ..), all by name -/
def perm (idx : List Nat) {α : Type} (xs : List α) : List α := idx.filterMap fun i => xs[i]?
structure KB (K : PySem.W.Frag) (fd : FuncData) (ps ks : List Str) (idx : List Nat) : Prop where
  to : ∀ (s : Shared) (ws : List Value), K.In s.heap → ws.length = ks.length → BindsTo s fd ⟨[], ks.zip ws⟩ (ps.zip (perm idx ws))
theorem perm_vals {idx : List Nat} {vs : List V} {us : List Value} (r : Vals vs us) : Vals (perm idx vs) (perm idx us) := by
  unfold perm
  induction idx with
  | nil => exact .nil
  | cons i idx ih =>
    cases h : vs[i]? with
    | none => rw [List.filterMap_cons, List.filterMap_cons, h, Vals.none_of r h]; exact ih
    | some v =>
      obtain ⟨u, h1, h2⟩ := Vals.get r h
      rw [List.filterMap_cons, List.filterMap_cons, h, h1]
      exact .cons h2 ih
theorem perm_reps {K : PySem.W.Frag} {G : Hp} {idx : List Nat} {ds : List D} {vs : List V} (r : Reps K G ds vs) : Reps K G (perm idx ds) (perm idx vs) := by
  unfold perm
  induction idx with
  | nil => exact rfl
  | cons i idx ih =>
    cases h : ds[i]? with
    | none =>
      have : vs[i]? = none := List.getElem?_eq_none_iff.mpr (by rw [← r.len]; exact List.getElem?_eq_none_iff.mp h)
      rw [List.filterMap_cons, List.filterMap_cons, h, this]
      exact ih
    | some d =>
      obtain ⟨v, h1, h2⟩ := r.get h
      rw [List.filterMap_cons, List.filterMap_cons, h, h1]
      exact Reps.cons h2 ih
def evCallK (n : Nat) (run : Run) (m : Nat) (idx : List Nat) (er : EvA) : EvE := fun env => (er env).bind fun xs e => if xs.length = m ∧ (perm idx xs).length = n then runD run (perm idx xs) e else .bad
theorem pk_imp {kws : List Keyword} {t t' : TA} (h : PK X kws t) (f : ∀ σ H Q, t' σ H Q → t σ H Q) : PK X kws t' := ⟨fun pos pins s σ H Q I hw => h.run pos pins s σ H Q I (f σ H Q hw)⟩
theorem q_knil : PK X [] (tA C W evNil) := pk_imp pk_nil fun σ H Q hw => by
  obtain ⟨Bn, G, env, S, h⟩ := hw
  exact h.now S _ rfl
theorem q_kcons {nm : Option Str} {kpos : Pos} {kws : List Keyword} {er : EvA} (ha : PE X a (tE C W ea)) (hr : PK X kws (tA C W er)) : PK X (⟨nm, a, kpos⟩ :: kws) (tA C W (evCons ea er)) := pk_imp (pk_cons (q_D ha) hr) fun σ H Q hw => by
  obtain ⟨Bn, G, env, S, h⟩ := hw
  exact ⟨Bn, G, env, S, h.bind.imp fun G1 H1 e1 x x1 S1 h v hv => ⟨Bn, G1, e1, S1, h.bind.imp fun G2 H2 e2 y x2 S2 h u hu => h.now S2 _ (Reps.cons (Rep.ex x2 _ _ hv) hu)⟩⟩
theorem q_callK (R : Rm X k C W) {er : EvA} {kws : List Keyword} {ks : List Str} {idx : List Nat} (F : FnG X.prog X.w X.K X.mg X.base j f Fd ps (spF C n run)) (hg : Gl X x) (hm : X.mg x = some (.ref f)) (hk : PySem.W.keepIn X.K (.ref f) = true) (hb : KB X.K Fd ps ks idx) (ha : PK X kws (tA C W er)) (hj : j ≤ k := by decide)
    (hall : (backToKw pos (keywordEach kws X.env)).all (·.1.isSome) = true := by rfl) (hks : (backToKw pos (keywordEach kws X.env)).filterMap (·.1) = ks := by rfl) (hdb : (x == ("__debug__" : Str)) = false := by decide)
    (hpl : ((backTo pos (starEach [] X.env)).any (·.1) || (backToKw pos (keywordEach kws X.env)).any (·.1.isNone)) = false := by rfl) : PE X (.Call (.Name x p) [] kws pos) (tE C W (evCallK n run ks.length idx er)) := by
  refine ⟨fun pins s σ H Q I h => wpAny_Call_Name_kw (ld_glob I hg hm ?_ hdb)⟩
  obtain ⟨Bn, G, env, S, h⟩ := h
  refine PySem.W.callWith_KW0 (h₀ := X.base) I.ok.mod.kin hk hall ?_ hpl
  refine thn (ha.run pos pins s σ H _ I ⟨Bn, G, env, S, h.bind.imp fun G1 H1 e1 xs x1 S1 h vs hvs => (⟨G1, e1, xs, S1, hvs, h⟩ : ∃ G1 e1 xs, SI C.K Bn G1 H1 e1 σ ∧ Reps C.K G1 xs vs ∧ After C W Bn G1 σ (if xs.length = ks.length ∧ (perm idx xs).length = n then runD run (perm idx xs) e1 else .bad) fun G' H' e a => ∀ b, PRes C Bn G' H' e σ a b → Q b H')⟩)
    fun ws s1 ⟨vs, H1, I1, rv, G1, e1, xs, S1, A, h⟩ => ⟨I1.kIn, ?_⟩
  rw [hks]
  split at h
  · rename_i hc
    refine callA_ok (args := ⟨[], ks.zip ws⟩) R F hj I1 (fun _ => hb.to s1 ws I1.kIn (by rw [← rv.length, ← A.len]; exact hc.1)) (perm_vals (idx := idx) rv) S1 (al_d (perm_reps A)) ?_
    rw [callA_d, if_pos hc.2]
    exact h
  · exact h.elim
end
end Pd
set_option Elab.async false
set_option linter.all false
set_option maxRecDepth 100000
set_option maxHeartbeats 2000000
namespace Pd
open PySem PySem.Spec PyProof.Rows L2
open Evl (Ex Ex.refl Ex.trans ex_rd ex_l ex_t)

section
variable {X : Cx} {k : Nat} {C : Kc} {W : WX} {pin : List Nat} {a b e tg : Expr} {p p2 pos : Pos} {ea eb : EvE} {x y : Str} {i : Nat} {σ : L2.St}
/-! ### dict displays -/
def evVals : List (Str × EvE) → Env → Rs (List (D × D))
  | [], e => .ok [] e
  | q :: r, e => (evD q.2 e).bind fun x e1 => (evVals r e1).bind fun kvs e2 => .ok ((.str q.1, x) :: kvs) e2
def evDsp (kes : List (Str × EvE)) : EvE := fun env => if (kes.map (·.1)).Nodup ∧ kes.length ≤ 15 then (evVals kes env).bind fun kvs e => .ok (.o (.dict kvs)) e else .bad
theorem merge_new : ∀ (xs acc : List (Key × V)), ((acc ++ xs).map (·.1)).Nodup → mergeK acc xs = acc ++ xs
  | [], acc, _ => by unfold mergeK; simp
  | q :: xs, acc, h => by
    have e0 : mergeK acc (q :: xs) = mergeK (putK acc q.1 q.2) xs := rfl
    have hq : (acc.any fun kv => decide (kv.1 = q.1)) ≠ true := fun z => by
      obtain ⟨kv, h1, h2⟩ := List.any_eq_true.mp z
      rw [List.map_append, List.map_cons] at h
      have := (List.nodup_append.mp h).2.2 kv.1 (List.mem_map.mpr ⟨kv, h1, rfl⟩) q.1 List.mem_cons_self
      exact this (by simpa using h2)
    have e1 : putK acc q.1 q.2 = acc ++ [q] := by unfold putK; rw [if_neg hq]
    rw [e0, e1, merge_new xs (acc ++ [q]) (by simpa using h)]
    simp
theorem r_vals {Bn : Hp} {kk : Hp → Hp → Env → List (D × D) → Prop} {R : List (V × V) → Hp → Prop} : ∀ {kes : List (Str × EvE)} {G H : Hp} {env : Env}, SI C.K Bn G H env σ → After C W Bn G σ (evVals kes env) kk →
    (∀ G2 H2 e2 kvs (xs : List (Key × V)), Ex G G2 → SI C.K Bn G2 H2 e2 σ → RepK C.K G2 kvs xs → xs.map (·.1) = kes.map (fun q => (Sum.inr q.1 : Key)) → kk G2 H2 e2 kvs → R (xs.map fun kv => (kV kv.1, kv.2)) H2) →
    tPairs (kes.map fun q => (tC (.str q.1), tD C W (evD q.2))) σ H R
  | [], G, H, env, S, h, f => f G H env [] [] (Ex.refl G) S rfl rfl (h.now S)
  | q :: r, G, H, env, S, h, f => by
    refine ⟨Bn, G, env, S, h.bind.imp fun G1 H1 e1 x x1 S1 h v hv => ?_⟩
    refine r_vals (kk := fun G2 H2 e2 kvs => kk G2 H2 e2 ((.str q.1, x) :: kvs)) S1 (h.bind.imp fun G2 H2 e2 kvs x2 S2 h => h.now S2) fun G2 H2 e2 kvs xs x2 S2 hr hk h => ?_
    exact f G2 H2 e2 ((.str q.1, x) :: kvs) ((.inr q.1, v) :: xs) (x1.trans x2) S2 ⟨q.1, v, xs, rfl, rfl, Rep.ex x2 _ _ hv, hr⟩ (by rw [List.map_cons, List.map_cons, hk]) h
theorem q_dsp {keys : List (Option Expr)} {values : List Expr} (kes : List (Str × EvE)) (h : PPs X pos keys values (kes.map fun q => (tC (.str q.1), tD C W (evD q.2)))) (hall : keys.all (·.isSome) = true := by rfl) (hl : keys.length = values.length := by rfl) (h0 : keys ≠ [] := by intro h; cases h) (h15 : keys.length ≤ 15 := by decide) :
    PE X (.Dict keys values pos) (tE C W (evDsp kes)) := pe_imp (pe_disp h hall hl h0 h15) fun σ H Q hw => by
  obtain ⟨Bn, G, env, S, h⟩ := hw
  intro c hc
  unfold evDsp at h
  split at h
  · rename_i hn
    have hb : Bn c = none := Evl.fresh_back S.bx hc
    have S0 : SI C.K (upd Bn c (.dK [])) G (upd H c (.dK [])) env σ := by
      refine (S.grow (Ex.new hc)).bnAdd upd_same (Evl.fresh_back S.ex hc) fun i y hy z => ?_
      obtain ⟨d, q1, _, _, q4⟩ := S.own i y hy
      rw [z] at q1
      cases q1
      obtain ⟨u, hu⟩ := q4.some
      rw [hc] at hu
      cases hu
    cases hev : evVals kes env with
    | bad => rw [hev] at h; exact h.elim
    | ex z e2 =>
      exact r_vals (kk := fun _ _ _ _ => False) S0 (by rw [hev] at h ⊢; exact fun G' H' cc d x1 S' X => h G' H' cc d x1 (S'.bnDrop hb) X) fun G2 H2 e2 kvs xs x2 S2 hr hk z => z.elim
    | ok kvs e2 =>
      rw [hev] at h
      refine r_vals (kk := fun G' H' e' a => e' = e2 ∧ a = kvs) S0 (by rw [hev]; exact fun _ _ _ _ => ⟨rfl, rfl⟩) fun G2 H2 e3 kvs' xs x2 S2 hr hk hh => ?_
      obtain ⟨rfl, rfl⟩ := hh
      have hl : xs.length ≤ 15 := by have := congrArg List.length hk; simp at this; omega
      refine ⟨S2.bx c _ upd_same, xs, rfl, hl, ?_⟩
      have nd : (xs.map (·.1)).Nodup := by
        rw [hk]
        have := hn.1
        rw [show (kes.map fun q => (Sum.inr q.1 : Key)) = (kes.map (·.1)).map Sum.inr by rw [List.map_map]; rfl]
        exact List.pairwise_map.mpr (this.imp fun h e => h (Sum.inr.inj e))
      rw [merge_new xs [] (by simpa using nd), List.nil_append]
      have S3 := S2.bnMut (o' := .dK xs)
      refine h G2 _ x2 (S3.bnDrop hb) _ ⟨c, rfl, S2.dj c (by rw [upd_same]; exact fun z => by cases z), hb, ⟨xs, upd_same, hr⟩, fun i y hy z => ?_⟩
      obtain ⟨d, q1, _, q3, _⟩ := S2.own i y hy
      rw [z] at q1
      cases q1
      rw [upd_same] at q3
      cases q3
  · exact h.elim
/-- {} -/
def evDNew : EvE := fun env => .ok (.o (.dict [])) env
theorem q_dnew : PE X (.Dict [] [] pos) (tE C W evDNew) := pe_imp pe_dnewK fun σ H Q hw => by
  obtain ⟨Bn, G, env, S, h⟩ := hw
  intro c hc
  have P := Post.dct (K := C.K) (ds := []) (xs := []) S.ex hc rfl
  exact h _ _ P.gx (S.post P).1 _ (S.post P).2

/-! ### the script -/
def scrOf (env : Env) (i : Nat) : Option (List Int) := match env[i]? with
  | some (.s ns) => some ns
  | _ => none
theorem scr_at {env : Env} {i : Nat} {ns : List Int} (h : scrOf env i = some ns) : env[i]? = some (.s ns) := by
  unfold scrOf at h
  split at h
  · rename_i q; cases h; exact q
  · cases h
def evScrLen (i : Nat) : EvE := fun env => match scrOf env i with
  | some ns => .ok (.d (.int (ns.length : Nat))) env
  | none => .bad
theorem q_scrLen (R : Rm X k C W) (hg : Gl X "len") (hm : X.mg "len" = none) (hN : X.N[i]? = some y) (hy : Vis X.env.scope y) (hd2 : (y == ("__debug__" : Str)) = false := by decide) (hcd : (y == ("__classdict__" : Str)) = false := by decide) :
    PE X (.Call (.Name "len" p) [.Name y p2] [] pos) (tE C W (evScrLen i)) :=
  pe_imp (pe_callB call_len_seq hg hm (by rfl) (pa_cons (pe_var hN hy hd2 hcd) pa_nil) (by decide) (by decide)) fun σ H Q hw => by
    obtain ⟨Bn, G, env, S, h⟩ := hw
    unfold evScrLen at h
    split at h
    · rename_i ns hs
      obtain ⟨c, h1, h2⟩ := S.scr i ns (scr_at hs)
      refine ⟨_, h1, c, _, rfl, .inl (ex_l S.ex (by rw [R.kk]; exact h2)), ?_⟩
      rw [List.length_map]
      exact h.now S _ rfl
    · exact h.elim
def evScrIdx (i : Nat) (eb : EvE) : EvE := fun env => match scrOf env i with
  | some ns => (evD eb env).bind fun y e => match y with
    | .int j => ofO ((atI ns j).map fun n => .d (.int n)) e
    | _ => .bad
  | none => .bad
theorem q_scrIdx (R : Rm X k C W) (hN : X.N[i]? = some y) (hy : Vis X.env.scope y) (hb : PE X b (tE C W eb)) (hs : PlainIx b := by intro _ _; rfl) (hd2 : (y == ("__debug__" : Str)) = false := by decide) (hcd : (y == ("__classdict__" : Str)) = false := by decide) :
    PE X (.Subscript (.Name y p2) b pos) (tE C W (evScrIdx i eb)) :=
  pe_imp (pe_ix ix_list (pe_var (pos := p2) hN hy hd2 hcd) (q_D hb) hs) fun σ H Q hw => by
    obtain ⟨Bn, G, env, S, h⟩ := hw
    unfold evScrIdx at h
    split at h
    · rename_i ns hns
      obtain ⟨c, h1, h2⟩ := S.scr i ns (scr_at hns)
      refine ⟨_, h1, Bn, G, env, S, h.bind.imp fun G1 H1 e1 x x1 S1 h v hv => ?_⟩
      split at h
      · rename_i j
        obtain ⟨r, hr, h⟩ := ofO_some h
        obtain ⟨n, hn, rfl⟩ := Option.map_eq_some_iff.mp hr
        cases hv
        refine ⟨c, ns.map V.int, j, .int n, rfl, rfl, ex_l S1.ex (ex_l x1 (by rw [R.kk]; exact h2)), ?_, h G1 H1 (Ex.refl _) S1 _ rfl⟩
        unfold atI at hn ⊢
        rw [List.length_map]
        cases hq : ixN ns.length j with
        | none => rw [hq] at hn; cases hn
        | some m =>
          rw [hq] at hn
          have hn : ns[m]? = some n := hn
          show (ns.map V.int)[m]? = _
          rw [List.getElem?_map, hn]
          rfl
      · exact h.elim
    · exact h.elim
def evItScr (i : Nat) : Env → Rs (List D) := fun env => match scrOf env i with
  | some ns => .ok (ns.map .int) env
  | none => .bad
theorem q_itScr (R : Rm X k C W) (hN : X.N[i]? = some y) (hy : Vis X.env.scope y) (hd2 : (y == ("__debug__" : Str)) = false := by decide) (hcd : (y == ("__classdict__" : Str)) = false := by decide) : PI X tg (.Name y p2) (tIt C W (evItScr i)) :=
  pi_imp (pi_list (pe_var (pos := p2) hN hy hd2 hcd)) fun σ H R' hw => by
    obtain ⟨Bn, G, env, S, h⟩ := hw
    unfold evItScr at h
    split at h
    · rename_i ns hns
      obtain ⟨c, h1, h2⟩ := S.scr i ns (scr_at hns)
      have h2' : SqL X.K G c (ns.map V.int) := by rw [R.kk]; exact h2
      refine ⟨_, h1, c, rfl, ⟨_, ex_l S.ex h2'⟩, ?_⟩
      rw [R.kk]
      refine h.now S _ ?_
      have w := walk_list (K := C.K) (a := c) (xs := ns.map V.int)
      have e0 : (ns.map V.int).length = (ns.map PyData.int).length := by simp
      rw [e0] at w
      refine w.mono (fun H e => ex_l e h2) fun i H x H' hi e y => ?_
      obtain ⟨rfl, hx⟩ := y
      intro G1 d e1 e2 hd
      rw [List.getElem?_map] at hx hd
      cases hq : ns[i]? with
      | none => rw [hq] at hd; cases hd
      | some n => rw [hq] at hx hd; cases hx; cases hd; exact ⟨G1, Post.same e2 rfl⟩
    · exact h.elim

/-! ### truth of a value -/
def truD : D → Option Bool
  | .none => some false
  | .bool b => some b
  | .int i => some (i != 0)
  | .str s => if sz (tl s).length then some (!((tl s).length == 0)) else none
  | .list ds => some !ds.isEmpty
  | .tuple ds => some !ds.isEmpty
  | _ => none
def evTru (ea : EvE) : EvB := fun env => (evD ea env).bind fun x e => ofO (truD x) e
theorem q_tru (R : Rm X k C W) (ha : PE X a (tE C W ea)) (he : ∀ whole, isTrue a X.env whole = (do let v ← whole; standAt a.pos; holding [v] (truthy v)) := by intro _; rfl) : PT X a (tT C W (evTru ea)) :=
  pt_imp (pt_truth (q_D ha) he) fun σ H Q hw => by
    obtain ⟨Bn, G, env, S, h⟩ := hw
    refine ⟨Bn, G, env, S, h.bind.imp fun G1 H1 e1 x x1 S1 h v hv => ?_⟩
    obtain ⟨b, hb, h⟩ := ofO_some h
    refine ⟨b, ?_, h G1 H1 (Ex.refl _) S1 _ rfl⟩
    cases x with
    | none => cases hb; cases hv; exact rfl
    | bool c => cases hb; cases hv; exact rfl
    | int c => cases hb; cases hv; exact rfl
    | str s =>
      have hb : (if sz (tl s).length then some (!((tl s).length == 0)) else none) = some b := hb
      split at hb
      · rename_i hz
        cases hb
        cases hv
        refine ⟨by rw [← len_tl]; exact sz_line hz, ?_⟩
        rw [len_tl]
        show (!(s.length == 0)) = ((s.length : Int) != 0)
        cases hq : s.length with
        | zero => rfl
        | succ n => show true = !(((n + 1 : Nat) : Int) == 0); rw [show (((n + 1 : Nat) : Int) == 0) = false from beq_eq_false_iff_ne.mpr (by omega)]; rfl
      · cases hb
    | list ds =>
      cases hb
      obtain ⟨q, xs, rfl, h2, h3⟩ := hv
      refine .inl ⟨xs, SqL.of (S1.ex _ _ h2), ?_⟩
      cases ds with
      | nil => cases (show xs = [] from h3); rfl
      | cons d r => obtain ⟨y, t, rfl, _⟩ := h3; rfl
    | tuple ds =>
      cases hb
      obtain ⟨q, xs, rfl, h2, h3⟩ := hv
      refine .inr (.inl ⟨xs, ex_t S1.ex (by rw [R.kk]; exact h2), ?_⟩)
      cases ds with
      | nil => cases (show xs = [] from h3); rfl
      | cons d r => obtain ⟨y, t, rfl, _⟩ := h3; rfl
    | dict _ => cases hb
end

/-! ### a law's end -/
theorem law_goes {P : Program} {w : World} {K : PySem.W.Frag} {mg mb : Str → Option Value} {k : Nat} {fa c : Addr} {fd : FuncData} {x : Str} {sp : Sp} {s1 : Shared} {us : List Value} {ns : List Int} (KX : K.In s1.heap) (hns : s1.heap.Ns mainGlobals mg) (hb : s1.heap.Ns builtinsNs mb)
    (hbb : ∀ y : Str, y ≠ "__name__" → mb y = bootBuiltins y) (hlim : s1.heap.NoLimit) (hg : s1.gens = #[]) (hc : s1.heap.get? c = some { cls := .type "list", data := .seq us.toArray }) (hi : IntsAre us ns) (hl : ns.length ≤ sizeLine) (hr : Room k callerA)
    (hdg : s1.heap.NoDigits) (F : ∀ base : Heap, K.In base → base.Ns mainGlobals mg → base.NoDigits → FnG P w K mg base k fa fd [x] sp) (hbind : ∀ (s : Shared) (u : Value), BindsTo s fd ⟨[u], []⟩ [(x, u)]) (hsp : ∀ H : Hp, SqL K H c (ns.map V.int) → sp [.ref c] H (fun v _ => v = .bl true) fun _ _ _ => False) :
    codeAny (model P w) callerA (.call (.ref fa) ⟨[.ref c], []⟩) (fun r s' => r = .ok (.ret (.bool true)) ∧ OldK s1.heap s'.heap ∧ s'.os = s1.os ∧ AllBare s'.gens) s1 := by
  have lu : us.length = ns.length := hi.length
  have core : ∀ H : Hp, (∀ b u, H b = some u → b = c ∧ u = .frz { cls := .type "list", data := .seq us.toArray } (.lst (ns.map V.int))) → SqL K H c (ns.map V.int) → (∀ u, H c = some u → K.lookup c = none) →
      codeAny (model P w) callerA (.call (.ref fa) ⟨[.ref c], []⟩) (fun r s' => r = .ok (.ret (.bool true)) ∧ OldK s1.heap s'.heap ∧ s'.os = s1.os ∧ AllBare s'.gens) s1 := by
    intro H hH hS hK
    have hok : HOk P w H s1.heap := fun b u e => by
      obtain ⟨rfl, rfl⟩ := hH b u e
      exact ⟨hc, by rw [List.length_map]; exact hl, us, _, vals_ints hi, hc⟩
    have out : ∀ {b : Addr} {o : Obj}, s1.heap.get? b = some o → b ≠ c → (hidT s1.heap H).get? b = some o := fun {b o} e hne => hidT_get e (by
      cases q : H b with
      | none => rfl
      | some u => exact absurd (hH b u q).1 hne)
    have nsB : ∀ {b : Addr} {m : Str → Option Value}, s1.heap.Ns b m → (hidT s1.heap H).Ns b m := fun {b m} ⟨o, es, ep, e, d, r⟩ => ⟨o, es, ep, out e (fun z => by subst z; rw [hc] at e; cases e; cases d), d, r⟩
    have inB : K.In (hidT s1.heap H) := fun b o e => hidT_get (KX b o e) (by
      cases q : H b with
      | none => rfl
      | some u =>
        obtain ⟨rfl, _⟩ := hH b u q
        rw [hK u q] at e
        cases e)
    have M : Mod K mg (hidT s1.heap H) := ⟨inB, nsB hns, ⟨mb, nsB hb, hbb⟩, by obtain ⟨mc, h1, h2⟩ := hlim; exact ⟨mc, nsB h1, h2⟩⟩
    have E0 : Env0 P w K mg (hidT s1.heap H) callerA [] s1 H := ⟨rfl, M, fun b o e => of_hidT e, Nat.le_of_eq (hidT_size _ _), trivial, fun b hb => (by cases hb), hok, AllBare.of_eq hg⟩
    refine codeAny_mono ((F _ inB (nsB hns) (by obtain ⟨mc, h1, h2⟩ := hdg; exact ⟨mc, nsB h1, h2⟩)).go callerA [] s1 H ⟨[.ref c], []⟩ [.ref c] [.ref c] _ _ ⟨hr, rfl⟩ E0 (hbind s1 (.ref c)) (.cons rfl .nil) (hsp H hS)) ?_
    intro r s' q
    cases r with
    | error e => obtain ⟨_, _, _, _, _, _, _, _, _, _, _, _, z⟩ := q; exact z.elim
    | ok fl =>
      cases fl with
      | next => exact q.elim
      | brk => exact q.elim
      | cont => exact q.elim
      | ret u =>
        obtain ⟨v, H', os, bare, un, hok', ru, hv⟩ := q
        cases (show v = .bl true from hv)
        cases (show u = Value.bool true from ru)
        refine ⟨rfl, OldK.of_keep fun b o e => ?_, os, bare⟩
        cases q : H b with
        | none => exact un.keep b o e q (fun z => (by cases z)) (fun z => (by cases z))
        | some z =>
          obtain ⟨rfl, rfl⟩ := hH b z q
          obtain ⟨k1, _⟩ := hok' b _ (un.frzs b _ _ q)
          rw [hc] at e
          cases e
          exact k1
  cases hk : K.lookup c with
  | some o =>
    have e := KX c o hk
    rw [hc] at e
    cases e
    exact core (fun _ => none) (fun b u z => (by cases z)) (.inr ⟨_, us.toArray, _, hk, rfl, rfl, rfl, by rw [List.size_toArray, lu]; exact hl, by simpa using vals_ints hi⟩) fun u z => by cases z
  | none =>
    refine core (upd (fun _ => none) c (.frz { cls := .type "list", data := .seq us.toArray } (.lst (ns.map V.int)))) (fun b u z => ?_) (.inl (.inr ⟨_, upd_same⟩)) fun _ _ => hk
    by_cases hb : b = c
    · subst hb
      rw [upd_same] at z
      cases z
      exact ⟨rfl, rfl⟩
    · rw [upd_ne hb] at z
      cases z
/-- as HandS' own end of a law, for defs that repr -/
theorem walk_go {l : PySem.W.OpenLaw} {n k : Nat} {q : Program} {loose : List Str} {XP : (Str → Option Value) → Heap → Prop} {YP : World → Heap → Prop} {d : DefRec} {x : Str} (hn : l.most = some n) (hn2 : n ≤ sizeLine) (hdf : d.params.defaults = []) (hr : Room k callerA)
    (F : ∀ (w : World) (mg : Str → Option Value) (fa : Addr) (h : Heap), YP w h → h.Ns mainGlobals mg → mg d.name = some (.ref fa) → ∃ (C : Kc) (fd : FuncData) (run : Run), C.K.In h ∧ (∀ (s : Shared) (u : Value), BindsTo s fd ⟨[u], []⟩ [(x, u)]) ∧
      (∀ ns : List Int, ns.length ≤ n → ∃ os, run [.s ns] = .ok (.d (.bool true)) os) ∧ ∀ base : Heap, C.K.In base → base.Ns mainGlobals mg → base.NoDigits → FnG l.prog w C.K mg base k fa fd [x] (spF C 1 run)) :
    PySem.W.WalkO q loose XP YP l.row.toRowW d [] (fun f vs => PySem.call f vs) := by
  refine Att.attach_call hn hdf fun w s0 s1 mg mb fa o pm cd doc a us ns G Y _ _ _ hmg hobj hints hlen hg => ?_
  obtain ⟨C, fd, run, KX, hb, hrun, hF⟩ := F w mg fa _ Y G.T.g hmg
  refine law_goes KX G.T.g G.T.b G.T.builtins G.T.nolimit hg hobj hints (Nat.le_trans hlen hn2) hr G.T.nodigits hF hb fun H hS => ?_
  obtain ⟨os, ho⟩ := hrun ns hlen
  refine ⟨fun _ => none, H, [.s ns], ⟨Ex.refl H, fun b u z => (by cases z), fun b z => absurd rfl z, rfl, fun i x h => ?_, fun i x h => ?_, fun i j x y c _ h => ?_, fun i ms h => ?_⟩, rfl, ?_⟩
  · cases i with
    | zero => cases h
    | succ i => simp at h
  · cases i with
    | zero => cases h
    | succ i => simp at h
  · cases i with
    | zero => cases h
    | succ i => simp at h
  · cases i with
    | zero => cases h; exact ⟨a, rfl, hS⟩
    | succ i => simp at h
  · rw [ho]
    exact fun G' H' v _ _ hv => hv
end Pd
set_option Elab.async false
set_option linter.all false
set_option maxRecDepth 100000
set_option maxHeartbeats 2000000
namespace Pd
open PySem PySem.Spec PyProof.Rows L2
open Evl (Ex Ex.refl Ex.trans ex_rd ex_l ex_t)

/-! ### f-strings -/
def fmtD : D → Option Str
  | .str s => if sz (tl s).length then some s else none
  | .int i => if inR 0 1000000000000 i then some (mkS (TL.numL i.toNat)) else none
  | _ => none
def padZ (w : Nat) (l : List Nat) : List Nat := List.replicate (w - l.length) 48 ++ l
section
variable {X : Cx} {k : Nat} {C : Kc} {W : WX} {a b e : Expr} {p pos : Pos} {ea eb : EvE} {es : List Expr}
def evFv (ea : EvE) : EvE := fun env => (evD ea env).bind fun x e => ofO ((fmtD x).map fun s => .d (.str s)) e
theorem small_log {i : Int} (h : 0 ≤ i ∧ i ≤ 1000000000000) : i.natAbs.log2 < 1920 := by
  have : i.natAbs < 2 ^ 1920 := Nat.lt_of_lt_of_le (m := 2 ^ 40) (by omega) (Nat.pow_le_pow_right (by decide) (by decide))
  by_cases h0 : i.natAbs = 0
  · rw [h0]; decide
  · exact (Nat.log2_lt h0).mpr this
theorem text_num {i : Int} (h : 0 ≤ i) : (toString i : Str) = mkS (TL.numL i.toNat) := by
  refine TL.ext_tl ?_
  have e2 : i = ((i.toNat : Nat) : Int) := (Int.toNat_of_nonneg h).symm
  have e3 := TL.tl_num i.toNat
  rw [← e2] at e3
  exact e3
theorem q_fv (ha : PE X a (tE C W ea)) : PE X (.FormattedValue a (-1) none pos) (tE C W (evFv ea)) := pe_imp (pe_fmt (q_D ha)) fun σ H Q hw => by
  obtain ⟨Bn, G, env, S, h⟩ := hw
  refine ⟨Bn, G, env, S, h.bind.imp fun G1 H1 e1 x x1 S1 h v hv => ?_⟩
  obtain ⟨r, hr, h⟩ := ofO_some h
  obtain ⟨s, hs, rfl⟩ := Option.map_eq_some_iff.mp hr
  have g := h G1 H1 (Ex.refl _) S1
  cases x with
  | str y =>
    have hs : (if sz (tl y).length then some y else none) = some s := hs
    split at hs
    · rename_i hz
      cases hs; cases hv
      exact .inl ⟨_, rfl, by rw [← len_tl]; exact sz_line hz, g _ rfl⟩
    · cases hs
  | int i =>
    have hs : (if inR 0 1000000000000 i then some (mkS (TL.numL i.toNat)) else none) = some s := hs
    split at hs
    · rename_i hz
      cases hs; cases hv
      have hz := inR_ok hz
      exact .inr ⟨i, rfl, small_log hz, by rw [text_num hz.1]; exact g _ rfl⟩
    · cases hs
  | _ => cases hs
/-- {a:0w} -/
def evFz (w : Nat) (ea : EvE) : EvE := fun env => (evD ea env).bind fun x e => match x with
  | .int i => if inR 0 1000000000000 i then .ok (.d (.str (mkS (padZ w (TL.numL i.toNat))))) e else .bad
  | _ => .bad
theorem q_fz (R : Rm X k C W) {sp : Str} {j : Nat} {p2 p3 : Pos} (w : Nat) (ha : PE X a (tE C W ea)) (h1 : intSpecOk sp = true) (h2 : intSpecZeroOf sp = true) (h3 : intSpecWidthOf sp = w) (h4 : sp.length ≤ 10) :
    PE X (.FormattedValue a (-1) (some (.JoinedStr [.Constant (.str sp) j p2] p3)) pos) (tE C W (evFz w ea)) := by
  refine ⟨fun pins s σ H Q I hw => wpAny_FormattedValue_spec ?_⟩
  obtain ⟨Bn, G, env, S, h⟩ := hw
  refine thn ((q_D ha).run pins s σ H (fun v H1 => ∃ i, v = .int i ∧ (0 ≤ i ∧ i ≤ 1000000000000) ∧ Q (.str (mkS (padZ w (TL.numL i.toNat)))) H1) I ⟨Bn, G, env, S, h.bind.imp fun G1 H1 e1 x x1 S1 h v hv => ?_⟩) fun v s1 ⟨x, H1, I1, r1, i, e1, hi, q⟩ => ?_
  · cases x with
    | int i =>
      have h : After C W Bn G1 σ (if inR 0 1000000000000 i then Rs.ok (Ar.d (.str (mkS (padZ w (TL.numL i.toNat))))) e1 else .bad) _ := h
      split at h
      · rename_i hz
        cases hv
        exact ⟨i, rfl, inR_ok hz, h.now S1 _ rfl⟩
      · exact h.elim
    | _ => exact h.elim
  · subst e1
    obtain ⟨t, rfl⟩ := r1
    refine thn ((pe_joined1 (pe_str (x := sp))).run pins s1 σ H1 (fun v H2 => v = .str sp ∧ H2 = H1) I1 ⟨rfl, rfl⟩) fun u s2 ⟨y, H2, I2, r2, e2, e3⟩ => ?_
    subst e2 e3
    obtain ⟨t2, rfl⟩ := r2
    refine ⟨sp, t2, rfl, formatField_int_specOf (R.dg.keeps I2.bk) ?_ h1 (fun W hW F => ?_) (by rw [sizeLine_eq]; omega)⟩
    · exact Nat.lt_of_lt_of_le (m := 10 ^ 13) (by omega) (Nat.pow_le_pow_right (by decide) (by decide))
    · have e4 := F.zeroG h2 hi.1
      have e5 : intSpecTextOf sp i = mkS (padZ w (TL.numL i.toNat)) := by
        rw [e4]
        refine TL.ext_tl ?_
        rw [TL.tl_append]
        have e6 : tl (Str.ofString (toString i)) = TL.numL i.toNat := by
          have := congrArg tl (text_num hi.1)
          exact this
        have e7 : Str.cps (Str.ofString (toString i)) = (TL.numL i.toNat).toArray := by
          have := congrArg List.toArray e6
          simpa [tl] using this
        have e8 : (Nat.toDigits 10 i.natAbs).length = (TL.numL i.toNat).length := by
          unfold TL.numL
          rw [List.length_map]
          congr 2
          omega
        show List.replicate (W - (Nat.toDigits 10 i.natAbs).length) 48 ++ tl (Str.ofString (toString i)) = padZ w (TL.numL i.toNat)
        rw [e6, e8, hW, h3]
        rfl
      rw [e5]
      exact ⟨.str _, H2, I2.tok _, ⟨_, rfl⟩, q⟩
def evJs : List EvE → List Nat → Env → Rs (List Nat)
  | [], acc, e => .ok acc e
  | ea :: r, acc, e => (evD ea e).bind fun x e1 => match x with
    | .str y => if sz (acc.length + (tl y).length) then evJs r (acc ++ tl y) e1 else .bad
    | _ => .bad
def evJoin (eas : List EvE) : EvE := fun env => (evJs eas [] env).bind fun l e => .ok (.d (.str (mkS l))) e
theorem r_js {Bn : Hp} {σ : L2.St} {R : Str → Hp → Prop} : ∀ {eas : List EvE} {acc : List Nat} {G H : Hp} {env : Env}, SI C.K Bn G H env σ → After C W Bn G σ (evJs eas acc env) (fun _ H' _ l => R (mkS l) H') → tJs (eas.map fun q => tD C W (evD q)) (mkS acc) σ H R
  | [], acc, G, H, env, S, h => h.now S
  | ea :: r, acc, G, H, env, S, h => by
    refine ⟨Bn, G, env, S, h.bind.imp fun G1 H1 e1 x x1 S1 h v hv => ?_⟩
    cases x with
    | str y =>
      have h : After C W Bn G1 σ (if sz (acc.length + (tl y).length) then evJs r (acc ++ tl y) e1 else .bad) _ := h
      split at h
      · rename_i hz
        cases hv
        have e0 : mkS acc ++ y = mkS (acc ++ tl y) := (mkS_app (mkS acc) y).symm
        refine ⟨y, rfl, ?_, ?_⟩
        · rw [e0, ← len_tl, tl_mkS, List.length_append]
          exact sz_line hz
        · rw [e0]
          exact r_js S1 h
      · exact h.elim
    | _ => exact h.elim
theorem q_join {v1 v2 : Expr} {rest : List Expr} (eas : List EvE) (h : PJ X (v1 :: v2 :: rest) (eas.map fun q => tD C W (evD q))) : PE X (.JoinedStr (v1 :: v2 :: rest) pos) (tE C W (evJoin eas)) := pe_imp (pe_joined h) fun σ H Q hw => by
  obtain ⟨Bn, G, env, S, h⟩ := hw
  exact r_js (acc := []) S (h.bind.imp fun G1 H1 e1 l x1 S1 h => h.now S1 _ rfl)
end
end Pd
set_option Elab.async false
set_option linter.all false
set_option maxRecDepth 100000
set_option maxHeartbeats 2000000
namespace Pd
open PySem PySem.Spec PyProof.Rows L2
open Evl (Ex Ex.refl Ex.trans ex_rd ex_l ex_t)

/-! ### defs by their names -/
/-- the def x keeps its promise -/
def GF (P : Program) (w : World) (C : Kc) (mg : Str → Option Value) (base : Heap) (k : Nat) (x : Str) (params : Arguments) (body : List Stmt) (scope : Scope) (ps : List Str) (n : Nat) (run : Run) : Prop :=
  (∃ fd, FunD C.K x x params body scope [] [] (He.ga C.K x) fd) ∧ (∀ fd, FunD C.K x x params body scope [] [] (He.ga C.K x) fd → FnG P w C.K mg base k (He.ga C.K x) fd ps (spF C n run) ∧ Binds C.K fd ps []) ∧ mg x = some (.ref (He.ga C.K x))
section
variable {P : Program} {w : World} {C : Kc} {mg : Str → Option Value} {base : Heap} {k : Nat} {x : Str} {params : Arguments} {body : List Stmt} {scope : Scope} {N ps : List Str} {pin : List Nat} {code : EvS} {run : Run} {n : Nat}
abbrev BindF (x : Str) (params : Arguments) (body : List Stmt) (scope : Scope) (ps : List Str) : Prop := ∀ (kV doc pm : Value) (an : Option Addr) (cdv ct : Value) (us : List Value), us.length = ps.length → bindArgs (PySem.W.fnOf x x params body scope .none kV doc pm an cdv ct) ⟨us, []⟩ = pure (ps.zip us)
theorem GF.of (d : ∃ fd, FunD C.K x x params body scope [] [] (He.ga C.K x) fd) (g : mg x = some (.ref (He.ga C.K x))) (S : FnScope N ps scope) (hB : BindF x params body scope ps) (hp : (pin.all fun i => decide (i < ps.length)) = true) (dg : base.NoDigits)
    (hb : ∀ (cdv : Value) (A : Around) (outer : List PySem.Env) (s : Shared) (H : Hp) (E : XK), Rm (cxG P w C.K mg base N x scope (He.ga C.K x) cdv A outer s H E) k C (WE E) → PSs (cxG P w C.K mg base N x scope (He.ga C.K x) cdv A outer s H E) body (tS C (WE E) pin code)) :
    GF P w C mg base (k + 1) x params body scope ps ps.length (runB ps.length N.length pin code) := by
  exact ⟨d, fun fd F => ⟨FnG.of F S hp dg hb, F.bindsN hB⟩, g⟩
theorem spF_imp {run run' : Run} (h : ∀ as : Env, as.length = n → run' as = .bad ∨ run as = run' as) : ∀ vs H Q E, spF C n run' vs H Q E → spF C n run vs H Q E := fun vs H Q E ⟨Bn, G, as, S, hl, hq⟩ => by
  refine ⟨Bn, G, as, S, hl, ?_⟩
  rcases h as hl with z | z
  · rw [z] at hq; exact hq.elim
  · rw [z]; exact hq
/-- what a def does told otherwise -/
theorem GF.imp {run' : Run} (Z : GF P w C mg base k x params body scope ps n run) (h : ∀ as : Env, as.length = n → run' as = .bad ∨ run as = run' as) : GF P w C mg base k x params body scope ps n run' := by
  exact ⟨Z.1, fun fd F => ⟨(Z.2.1 fd F).1.imp (spF_imp h), (Z.2.1 fd F).2⟩, Z.2.2⟩
end
section
variable {X : Cx} {k j n : Nat} {C : Kc} {W : WX} {a b e : Expr} {es : List Expr} {p pos : Pos} {ea eb : EvE} {er : EvA} {eg : EvG} {x : Str} {run : Run} {ps ks : List Str} {idx : List Nat} {params : Arguments} {body : List Stmt} {scope : Scope} {kws : List Keyword}
theorem q_callF (R : Rm X k C W) (Z : GF X.prog X.w C X.mg X.base j x params body scope ps n run) (hg : Gl X x) (ha : PA X (e :: es) (tA C W er)) (hj : j ≤ k := by decide) (hdb : (x == ("__debug__" : Str)) = false := by decide)
    (he : starEach (e :: es) X.env = (false, eval e X.env) :: starEach es X.env := by rfl) (hpl : (backTo pos (starEach es X.env)).any (·.1) = false := by rfl) : PE X (.Call (.Name x p) (e :: es) [] pos) (tE C W (evCall n run er)) := by
  obtain ⟨⟨fd, F⟩, Gq, g⟩ := Z
  obtain ⟨G, b⟩ := Gq fd F
  have hK := R.kk
  exact q_call R (by rw [hK]; exact G) hg g (by rw [hK]; exact F.kp) (by rw [hK]; exact b) ha hj hdb he hpl
theorem q_callGF (R : Rm X k C W) (Z : GF X.prog X.w C X.mg X.base j x params body scope ps n run) (hg : Gl X x) (ha : PA X (e :: es) (tGa C W eg)) (hj : j ≤ k := by decide) (hdb : (x == ("__debug__" : Str)) = false := by decide)
    (he : starEach (e :: es) X.env = (false, eval e X.env) :: starEach es X.env := by rfl) (hpl : (backTo pos (starEach es X.env)).any (·.1) = false := by rfl) : PE X (.Call (.Name x p) (e :: es) [] pos) (tE C W (evCallG n run eg)) := by
  obtain ⟨⟨fd, F⟩, Gq, g⟩ := Z
  obtain ⟨G, b⟩ := Gq fd F
  have hK := R.kk
  exact q_callG R (by rw [hK]; exact G) hg g (by rw [hK]; exact F.kp) (by rw [hK]; exact b) ha hj hdb he hpl
abbrev BindK (x : Str) (params : Arguments) (body : List Stmt) (scope : Scope) (ps ks : List Str) (idx : List Nat) : Prop := ∀ (kV doc pm : Value) (an : Option Addr) (cdv ct : Value) (ws : List Value), ws.length = ks.length → bindArgs (PySem.W.fnOf x x params body scope .none kV doc pm an cdv ct) ⟨[], ks.zip ws⟩ = pure (ps.zip (perm idx ws))
theorem q_callKF (R : Rm X k C W) (Z : GF X.prog X.w C X.mg X.base j x params body scope ps n run) (hg : Gl X x) (hB : BindK x params body scope ps ks idx) (ha : PK X kws (tA C W er)) (hj : j ≤ k := by decide)
    (hall : (backToKw pos (keywordEach kws X.env)).all (·.1.isSome) = true := by rfl) (hks : (backToKw pos (keywordEach kws X.env)).filterMap (·.1) = ks := by rfl) (hdb : (x == ("__debug__" : Str)) = false := by decide)
    (hpl : ((backTo pos (starEach [] X.env)).any (·.1) || (backToKw pos (keywordEach kws X.env)).any (·.1.isNone)) = false := by rfl) : PE X (.Call (.Name x p) [] kws pos) (tE C W (evCallK n run ks.length idx er)) := by
  obtain ⟨⟨fd, F⟩, Gq, g⟩ := Z
  obtain ⟨G, b⟩ := Gq fd F
  have hK := R.kk
  refine q_callK R (by rw [hK]; exact G) hg g (by rw [hK]; exact F.kp) ⟨fun s ws hX hl => ?_⟩ ha hj hall hks hdb hpl
  obtain ⟨oc, od, dV, kV, doc, pm, an, cdv, ct, osl, rfl, lk, hcd, hD, _⟩ := F.ex
  rcases hD with ⟨_, rfl⟩ | ⟨z, _⟩
  · exact .of_eq (hB kV doc pm an cdv ct ws hl)
  · exact absurd rfl z
/-- a module's constant -/
theorem q_glo {d : D} {v : V} (hg : Gl X x) (hm : ∃ u, X.mg x = some u ∧ RelV v u) (hv : vD d = some v := by rfl) (hd : (x == ("__debug__" : Str)) = false := by decide) : PE X (.Name x pos) (tE C W (evC d)) := by
  obtain ⟨u, h1, h2⟩ := hm
  exact q_c (pe_glob hg h1 h2 hd) hv
theorem q_gint {i : Int} (hg : Gl X x) (hm : ∃ t, X.mg x = some (.int i t)) (hd : (x == ("__debug__" : Str)) = false := by decide) : PE X (.Name x pos) (tE C W (evC (.int i))) := by
  obtain ⟨t, h⟩ := hm
  exact q_glo hg ⟨_, h, t, rfl⟩ (v := .int i) rfl hd
theorem q_gstr {i : Str} (hg : Gl X x) (hm : ∃ t, X.mg x = some (.str i t)) (hd : (x == ("__debug__" : Str)) = false := by decide) : PE X (.Name x pos) (tE C W (evC (.str i))) := by
  obtain ⟨t, h⟩ := hm
  exact q_glo hg ⟨_, h, t, rfl⟩ (v := .str i) rfl hd
end
end Pd
set_option Elab.async false
set_option linter.all false
set_option maxRecDepth 100000
set_option maxHeartbeats 2000000
namespace Pd
open PySem PySem.Spec PyProof.Rows L2
open Evl (Ex Ex.refl Ex.trans ex_rd ex_l ex_t)

section
variable {X : Cx} {k : Nat} {C : Kc} {W : WX} {pin : List Nat} {a b e : Expr} {st : Stmt} {p p2 pos : Pos} {ea eb : EvE} {x y : Str} {i : Nat}
/-- a statement that is never come to -/
theorem q_never : PS X st (tS C W pin fun _ => .bad) := ps_imp ps_never fun D σ H hw => by
  obtain ⟨Bn, P, G, env, S, h⟩ := hw
  exact h.elim

/-! ### [.. for k, v in d.items()] -/
section
variable {K : PySem.W.Frag} {G G' : Hp}
mutual
theorem Rep.minus (h : ∀ b u, (∀ ys, u ≠ HO.dK ys) → (∀ o ys, u ≠ HO.frz o (.dK ys)) → G b = some u → G' b = some u) : ∀ (d : D) (v : V), d.hasDict = false → Rep K G d v → Rep K G' d v
  | .none, v, _, r => r
  | .bool b, v, _, r => r
  | .int b, v, _, r => r
  | .str b, v, _, r => r
  | .list ds, v, c, r => by
    obtain ⟨a, xs, rfl, h2, h3⟩ := r
    exact ⟨a, xs, rfl, h a _ (fun _ z => by cases z) (fun _ _ z => by cases z) h2, Reps.minus h ds xs (by simpa [PyData.hasDict] using c) h3⟩
  | .tuple ds, v, c, r => by
    obtain ⟨a, xs, rfl, h2, h3⟩ := r
    refine ⟨a, xs, rfl, ?_, Reps.minus h ds xs (by simpa [PyData.hasDict] using c) h3⟩
    rcases h2 with (h2 | ⟨o, h2⟩) | h2
    · exact .inl (.inl (h a _ (fun _ z => by cases z) (fun _ _ z => by cases z) h2))
    · exact .inl (.inr ⟨o, h a _ (fun _ z => by cases z) (fun _ _ z => by cases z) h2⟩)
    · exact .inr h2
  | .dict kvs, v, c, _ => by simp [PyData.hasDict] at c
theorem Reps.minus (h : ∀ b u, (∀ ys, u ≠ HO.dK ys) → (∀ o ys, u ≠ HO.frz o (.dK ys)) → G b = some u → G' b = some u) : ∀ (ds : List D) (vs : List V), PyData.hasDictAll ds = false → Reps K G ds vs → Reps K G' ds vs
  | [], vs, _, r => r
  | d :: ds, vs, c, r => by
    obtain ⟨x, t, rfl, h2, h3⟩ := r
    have c' : d.hasDict = false ∧ PyData.hasDictAll ds = false := by simpa [PyData.hasDictAll] using c
    exact ⟨x, t, rfl, Rep.minus h d x c'.1 h2, Reps.minus h ds t c'.2 h3⟩
end
end
def dictOf (env : Env) (i : Nat) : Option (List (D × D)) := match env[i]? with
  | some (.d (.dict kvs)) => some kvs
  | some (.o (.dict kvs)) => some kvs
  | _ => none
def itemsK (kvs : List (D × D)) : List D := kvs.map fun q => .tuple [q.1, q.2]
def evCompI (i : Nat) (et : D → Env → Option Env) (tt : EvB) (te : EvE) (vs : List Nat) : EvE := fun env => match dictOf env i with
  | none => .bad
  | some kvs => if !PyData.hasDictAll (kvs.map (·.2)) && sz kvs.length then match compL et tt te vs (itemsK kvs) (List.replicate env.length .u) with
    | some q => if PyData.hasDictAll q.1 then .bad else .ok (.o (.list q.1)) env
    | none => .bad
    else .bad
theorem repK_items {K : PySem.W.Frag} {G : Hp} : ∀ {kvs : List (D × D)} {xs : List (Key × V)} {j : Nat} {d : D} {q : Key × V}, RepK K G kvs xs → (itemsK kvs)[j]? = some d → xs[j]? = some q → ∃ d1 d2, d = .tuple [d1, d2] ∧ Rep K G d1 (kV q.1) ∧ Rep K G d2 q.2
  | [], _, _, _, _, h, hd, _ => by simp [itemsK] at hd
  | (k, d) :: kvs, _, 0, _, _, h, hd, hq => by
    obtain ⟨s, x, t, rfl, rfl, h3, h4⟩ := h
    simp [itemsK] at hd hq
    subst hd hq
    exact ⟨_, _, rfl, rfl, h3⟩
  | (k, d) :: kvs, _, j + 1, _, _, h, hd, hq => by
    obtain ⟨s, x, t, rfl, rfl, h3, h4⟩ := h
    exact repK_items (j := j) h4 (by simpa [itemsK] using hd) (by simpa using hq)
theorem RepK.minus {K : PySem.W.Frag} {G G' : Hp} (h : ∀ b u, (∀ ys, u ≠ HO.dK ys) → (∀ o ys, u ≠ HO.frz o (.dK ys)) → G b = some u → G' b = some u) : ∀ {kvs : List (D × D)} {xs : List (Key × V)}, PyData.hasDictAll (kvs.map (·.2)) = false → RepK K G kvs xs → RepK K G' kvs xs
  | [], _, _, r => r
  | (k, d) :: kvs, _, c, r => by
    obtain ⟨s, x, t, rfl, rfl, h3, h4⟩ := r
    have c' : d.hasDict = false ∧ PyData.hasDictAll (kvs.map (·.2)) = false := by simpa [PyData.hasDictAll] using c
    exact ⟨s, x, t, rfl, rfl, Rep.minus h d x c'.1 h3, RepK.minus h c'.2 h4⟩
theorem wipeE_u (n : Nat) : ∀ vs : List Nat, wipeE (List.replicate n .u) vs = List.replicate n .u
  | [] => rfl
  | v :: vs => by
    unfold wipeE
    rw [wipeE_u n vs]
    apply List.ext_getElem?
    intro j
    by_cases hj : v = j
    · subst hj
      by_cases hl : v < n
      · rw [List.getElem?_set_self (by simpa using hl), List.getElem?_replicate, if_pos hl]
      · rw [List.getElem?_eq_none (by simp; omega), List.getElem?_eq_none (by simp; omega)]
    · rw [List.getElem?_set_ne hj]
theorem at_u {n j : Nat} {z : Sl} (h : (List.replicate n Sl.u)[j]? = some z) : z = .u := by
  rw [List.getElem?_replicate] at h
  split at h
  · cases h; rfl
  · cases h
open Classical in
noncomputable def lockB (G H : Hp) (c : Addr) : Hp := fun b => if b = c then none else if G b = none then H b else none
theorem lockB_at {G H : Hp} {b c : Addr} {u : HO} (h1 : b ≠ c) (h2 : G b = none) (h3 : H b = some u) : lockB G H c b = some u := by
  unfold lockB
  rw [if_neg h1, if_pos h2]
  exact h3
theorem lockB_in {G H : Hp} {b c : Addr} {u : HO} (h : lockB G H c b = some u) : b ≠ c ∧ G b = none ∧ H b = some u := by
  unfold lockB at h
  split at h
  · cases h
  · rename_i h1
    split at h
    · rename_i h2; exact ⟨h1, h2, h⟩
    · cases h
/-- the heap while the dict at c is walked -/
theorem si_lock {K : PySem.W.Frag} {Bn G H : Hp} {env : Env} {σ : L2.St} {c : Addr} {od : Obj} {xs : List (Key × V)} (S : SI K Bn G H env σ) (hc : H c = some (.dK xs)) :
    SI K (lockB G H c) (upd G c (.frz od (.dK xs))) (upd H c (.frz od (.dK xs))) (List.replicate env.length .u) σ := by
  refine ⟨fun b u h => ?_, fun b u h => ?_, fun b h => ?_, by simp [S.len], fun j x h => (by have := at_u h; cases this), fun j x h => (by have := at_u h; cases this), fun j l x y a _ h => (by have := at_u h; cases this), fun j ns h => (by have := at_u h; cases this)⟩
  · by_cases hb : b = c
    · subst hb; rw [upd_same] at h ⊢; exact h
    · rw [upd_ne hb] at h ⊢; exact S.ex b u h
  · obtain ⟨h1, _, h3⟩ := lockB_in h
    rw [upd_ne h1]; exact h3
  · cases q : lockB G H c b with
    | none => exact absurd q h
    | some u =>
      obtain ⟨h1, h2, _⟩ := lockB_in q
      rw [upd_ne h1]; exact h2
theorem q_compI (R : Rm X k C W) (own : List (Str × Nat)) {elt : Expr} {telts : List Expr} {kk : Nat} {tpos apos cpos : Pos} {ifs : List Expr} {scope : Scope} {et : D → Env → Option Env} {tt : EvB} {te : EvE} {tgs : List Nat} (hN : X.N[i]? = some x) (hv : Vis X.env.scope x) (ok : blkC X.N X.env.scope scope own = true) (hsub : ∀ j ∈ tgs, j ∈ own.map (·.2))
    (hg : ∀ (s : Shared) (H : Hp) (Ca : Addr) (cl : List (Str × Addr)) (fp : List Addr), PG (X.blk s H scope (compEnvC scope cl Ca X.env) fp) (.Tuple telts kk tpos) (tG C.K [] tgs et))
    (ht : ∀ (s : Shared) (H : Hp) (Ca : Addr) (cl : List (Str × Addr)) (fp : List Addr), PTs (X.blk s H scope (compEnvC scope cl Ca X.env) fp) ifs (tT C W0 tt))
    (he : ∀ (s : Shared) (H : Hp) (Ca : Addr) (cl : List (Str × Addr)) (fp : List Addr), PE (X.blk s H scope (compEnvC scope cl Ca X.env) fp) elt (tE C W0 te))
    (hs : ∀ y, foldedSetIterable (.Call (.Attribute (.Name x p2) "items" apos) [] [] cpos) X.env y = pure y := by intro _; rfl) (hbase : attributeBase (.Name x p2) "items" X.env (eval (.Name x p2) X.env) = eval (.Name x p2) X.env := by rfl) (hline : (apos.endLine == cpos.line) = true := by rfl)
    (hd : (x == ("__debug__" : Str)) = false := by decide) (hcd : (x == ("__classdict__" : Str)) = false := by decide) :
    PE X (.ListComp elt [⟨.Tuple telts kk tpos, .Call (.Attribute (.Name x p2) "items" apos) [] [] cpos, ifs, 0⟩] scope pos) (tE C W (evCompI i et tt te (own.map (·.2)))) :=
  pe_imp (pe_lock (pe_lc R.calm R.nd (pi_items (pe_var (pos := p2) hN hv hd hcd) hbase hline) (blkOk_by ok) hg ht (fun s H Ca cl fp => q_D (he s H Ca cl fp)) hs)) fun σ H Q hw => by
    obtain ⟨Bn, G, env, S, h⟩ := hw
    unfold evCompI at h
    split at h
    · exact h.elim
    · rename_i kvs hk
      split at h
      · rename_i hc
        obtain ⟨c1, c2⟩ := Bool.and_eq_true_iff.mp hc
        have c1 : PyData.hasDictAll (kvs.map (·.2)) = false := by simpa using c1
        split at h
        · rename_i q hq
          obtain ⟨total, eEnd⟩ := q
          split at h
          · exact h.elim
          · rename_i hdt
            have hdt : PyData.hasDictAll total = false := by simpa using hdt
            -- where it stands
            have there : ∃ c xs, σ[i]? = some (some (V.ref c)) ∧ H c = some (.dK xs) ∧ RepK C.K G kvs xs ∧ (∀ u, G c = some u → u = .dK xs) ∧ Bn c = none ∧ ∀ (j : Nat) z, env[j]? = some (.o z) → σ[j]? = some (some (V.ref c)) → G c = none ∧ z = .dict kvs := by
              unfold dictOf at hk
              split at hk
              · rename_i hz
                cases hk
                obtain ⟨v, h1, c, xs, rfl, h2, h3⟩ := S.dat i _ hz
                refine ⟨c, xs, h1, S.ex _ _ h2, h3, fun u hu => by rw [h2] at hu; cases hu; rfl, ?_, fun j z hz hj => ?_⟩
                · cases hb : Bn c with
                  | none => rfl
                  | some u => have := S.dj c (by rw [hb]; exact fun z => by cases z); rw [h2] at this; cases this
                · obtain ⟨b, q1, q2, _⟩ := S.own j z hz
                  rw [hj] at q1
                  cases q1
                  rw [h2] at q2
                  cases q2
              · rename_i hz
                cases hk
                obtain ⟨c, h1, h2, h3, xs, h4, h5⟩ := S.own i _ hz
                refine ⟨c, xs, h1, h4, h5, fun u hu => by (rw [h2] at hu; cases hu), h3, fun j z hz' hj => ⟨h2, ?_⟩⟩
                by_cases hij : i = j
                · subst hij; rw [hz] at hz'; cases hz'; rfl
                · exact absurd hj (S.sep i j _ _ c hij hz hz' h1)
              · cases hk
            obtain ⟨c, xs, h1, h2, h3, h4, h5, h6⟩ := there
            refine ⟨c, .dK xs, h2, True.intro, fun od => ?_⟩
            have SL := si_lock (od := od) S h2
            have gm : ∀ b u, (∀ ys, u ≠ HO.dK ys) → (∀ o ys, u ≠ HO.frz o (.dK ys)) → G b = some u → upd G c (.frz od (.dK xs)) b = some u := fun b u hn _ hb => by
              rw [upd_ne fun z => by subst z; exact hn _ (h4 u hb)]
              exact hb
            refine ⟨_, h1, c, od, xs, rfl, upd_same, fun Dl hDl => ?_⟩
            have rk := RepK.minus gm c1 h3
            have dw : DW C.K (Iti c od xs) (itemsK kvs) (upd G c (.frz od (.dK xs))) := by
              refine dw_pair (n := xs.length) (by simp [itemsK, h3.len]) walk_items (fun H e => e c _ upd_same) fun j d u v hd hu hv => ?_
              cases hx : xs[j]? with
              | none => rw [hx] at hu; cases hu
              | some qq =>
                rw [hx] at hu hv
                cases hu
                cases hv
                exact repK_items rk hd hx
            have hne : Dl ≠ c := fun z => by subst z; rw [upd_same] at hDl; cases hDl
            have hDl0 : H Dl = none := by rw [upd_ne hne] at hDl; exact hDl
            have hwu : compL et tt te (own.map (·.2)) (itemsK kvs) (wipeE (List.replicate env.length .u) (own.map (·.2))) = some (total, eEnd) := by rw [wipeE_u]; exact hq
            have no : noOwn (List.replicate env.length .u) (own.map (·.2)) = true := List.all_eq_true.mpr fun v _ => by
              split
              · rename_i y hy; have := at_u hy; cases this
              · rfl
            refine r_loop (Q := fun v H' => H' c = some (HO.frz od (HO.dK xs)) ∧ Q v (upd H' c (HO.dK xs))) hsub SL dw hDl no (by simpa [itemsK] using c2) hwu fun G' H' xg S' b hb => ?_
            obtain ⟨Da, rfl, q1, q2, ⟨accV, q3, q4⟩, q5⟩ := hb
            have hc' : H' c = some (.frz od (.dK xs)) := S'.ex _ _ (xg c _ upd_same)
            have hDc : Da ≠ c := fun z => by subst z; rw [hc'] at q3; cases q3
            refine ⟨hc', ?_⟩
            -- behind the lock
            have xx : Ex G (fun b => if b = c then G b else G' b) := fun b u hb => by
              by_cases hbc : b = c
              · show (if b = c then G b else G' b) = some u; rw [if_pos hbc]; exact hb
              · show (if b = c then G b else G' b) = some u; rw [if_neg hbc]; exact xg b u (by rw [upd_ne hbc]; exact hb)
            have bl : ∀ b u, b ≠ c → G b = none → H b = some u → H' b = some u ∧ G' b = none := fun b u hbc hg hb => by
              have e1 := lockB_at hbc hg hb
              exact ⟨S'.bx b u e1, S'.dj b (by rw [e1]; exact fun z => by cases z)⟩
            have own' : ∀ (j : Nat) z, env[j]? = some (.o z) → ∃ b, σ[j]? = some (some (V.ref b)) ∧ (if b = c then G b else G' b) = none ∧ Bn b = none ∧ ORep C.K (fun b => if b = c then G b else G' b) (upd H' c (.dK xs)) z b ∧ H b ≠ none := fun j z hz => by
              obtain ⟨b, k1, k2, k3, k4⟩ := S.own j z hz
              obtain ⟨u, hu⟩ := k4.some
              refine ⟨b, k1, ?_, k3, ?_, by rw [hu]; exact fun z => by cases z⟩
              · by_cases hbc : b = c
                · rw [if_pos hbc]; exact k2
                · rw [if_neg hbc]; exact (bl b u hbc k2 hu).2
              · by_cases hbc : b = c
                · subst hbc
                  obtain ⟨_, rfl⟩ := h6 j z hz k1
                  exact ⟨xs, upd_same, RepK.ex xx _ _ h3⟩
                · exact ORep.at ((upd_ne hbc).trans ((bl b u hbc k2 hu).1.trans hu.symm)) (ORep.ex xx k4)
            refine h _ (upd H' c (.dK xs)) xx ⟨fun b u hb => ?_, fun b u hb => ?_, fun b hb => ?_, S.len, fun j z hz => ?_, fun j z hz => ?_, S.sep, S.scr.ex xx⟩ _ ⟨Da, rfl, ?_, ?_, ⟨accV, (upd_ne hDc).trans q3, ?_⟩, fun j z hz hj => ?_⟩
            · have hb : (if b = c then G b else G' b) = some u := hb
              by_cases hbc : b = c
              · subst hbc
                rw [if_pos rfl] at hb
                rw [upd_same, h4 u hb]
              · rw [if_neg hbc] at hb
                rw [upd_ne hbc]
                exact S'.ex b u hb
            · have hbc : b ≠ c := fun z => by subst z; rw [h5] at hb; cases hb
              rw [upd_ne hbc]
              exact (bl b u hbc (S.dj b (by rw [hb]; exact fun z => by cases z)) (S.bx b u hb)).1
            · show (if b = c then G b else G' b) = none
              have hbc : b ≠ c := fun z => by subst z; exact hb h5
              rw [if_neg hbc]
              cases hB : Bn b with
              | none => exact absurd hB hb
              | some u => exact (bl b u hbc (S.dj b hb) (S.bx b u hB)).2
            · obtain ⟨v, k1, k2⟩ := S.dat j z hz
              exact ⟨v, k1, Rep.ex xx _ _ k2⟩
            · obtain ⟨b, k1, k2, k3, k4, _⟩ := own' j z hz
              exact ⟨b, k1, k2, k3, k4⟩
            · show (if Da = c then G Da else G' Da) = none
              rw [if_neg hDc]; exact q1
            · cases hB : Bn Da with
              | none => rfl
              | some u =>
                have hu := S.bx Da u hB
                have e1 := lockB_at hDc (S.dj Da (by rw [hB]; exact fun z => by cases z)) hu
                rw [e1] at q2
                cases q2
            · refine Reps.minus (fun b u _ hn hb => ?_) _ _ hdt q4
              show (if b = c then G b else G' b) = some u
              by_cases hbc : b = c
              · subst hbc
                have := xg b _ upd_same
                rw [hb] at this
                cases this
                exact absurd rfl (hn _ _)
              · rw [if_neg hbc]; exact hb
            · obtain ⟨b, k1, k2, _, k4⟩ := S.own j z hz
              rw [hj] at k1
              cases k1
              obtain ⟨u, hu⟩ := k4.some
              have e1 := lockB_at hDc k2 hu
              rw [e1] at q2
              cases q2
        · exact h.elim
      · exact h.elim
end
end Pd
set_option Elab.async false
set_option linter.all false
set_option maxRecDepth 100000
set_option maxHeartbeats 2000000
namespace Pd
open PySem PySem.Spec PyProof.Rows L2
open Evl (Ex Ex.refl Ex.trans ex_rd ex_l ex_t)

/-! ### what a def gives that was handed no list: its list is a new one -/
mutual
def noList : D → Bool
  | .list _ => false
  | .dict _ => false
  | .tuple ds => noLists ds
  | _ => true
def noLists : List D → Bool
  | [] => true
  | d :: ds => noList d && noLists ds
end
def isTupO : HO → Bool
  | .tup _ => true
  | .frz _ (.tup _) => true
  | _ => false
section
variable {K : PySem.W.Frag} {G G' : Hp}
mutual
theorem Rep.tups (h : ∀ b u, isTupO u = true → G b = some u → G' b = some u) : ∀ (d : D) (v : V), noList d = true → Rep K G d v → Rep K G' d v
  | .none, v, _, r => r
  | .bool b, v, _, r => r
  | .int b, v, _, r => r
  | .str b, v, _, r => r
  | .list ds, v, c, r => by simp [noList] at c
  | .tuple ds, v, c, r => by
    obtain ⟨a, xs, rfl, h2, h3⟩ := r
    refine ⟨a, xs, rfl, ?_, Reps.tups h ds xs (by simpa [noList] using c) h3⟩
    rcases h2 with (h2 | ⟨o, h2⟩) | h2
    · exact .inl (.inl (h a _ rfl h2))
    · exact .inl (.inr ⟨o, h a _ rfl h2⟩)
    · exact .inr h2
  | .dict kvs, v, c, _ => by simp [noList] at c
theorem Reps.tups (h : ∀ b u, isTupO u = true → G b = some u → G' b = some u) : ∀ (ds : List D) (vs : List V), noLists ds = true → Reps K G ds vs → Reps K G' ds vs
  | [], vs, _, r => r
  | d :: ds, vs, c, r => by
    obtain ⟨x, t, rfl, h2, h3⟩ := r
    have c' : noList d = true ∧ noLists ds = true := by simpa [noLists] using c
    exact ⟨x, t, rfl, Rep.tups h d x c'.1 h2, Reps.tups h ds t c'.2 h3⟩
end
end
open Classical in
noncomputable def tupsOf (G : Hp) : Hp := fun b => match G b with
  | some u => if isTupO u = true then some u else none
  | none => none
theorem tupsOf_at {G : Hp} {b : Addr} {u : HO} (h : G b = some u) (t : isTupO u = true) : tupsOf G b = some u := by unfold tupsOf; rw [h]; exact if_pos t
theorem tupsOf_in {G : Hp} {b : Addr} {u : HO} (h : tupsOf G b = some u) : G b = some u ∧ isTupO u = true := by
  unfold tupsOf at h
  split at h
  · rename_i w hw
    split at h
    · rename_i ht; cases h; exact ⟨hw, ht⟩
    · cases h
  · cases h
def freshA (r : Ar) : Ar := match r with
  | .d (.list ds) => if noLists ds then .o (.list ds) else r
  | r => r
def runN (run : Run) (xs : List D) (e : Env) : Rs Ar := match run (xs.map .d) with
  | .ok r _ => .ok (freshA r) e
  | .ex x _ => .bad
  | .bad => .bad
def evCallN (n : Nat) (run : Run) (er : EvA) : EvE := fun env => (er env).bind fun xs e => if xs.length = n ∧ noLists xs = true then runN run xs e else .bad
section
variable {X : Cx} {k j n : Nat} {C : Kc} {W : WX} {a b e : Expr} {es : List Expr} {p pos : Pos} {er : EvA} {x : Str} {run : Run} {ps : List Str} {params : Arguments} {body : List Stmt} {scope : Scope}
theorem al_map {xs : List D} {j : Nat} {z : Sl} (h : (xs.map Sl.d)[j]? = some z) : ∃ x, z = .d x ∧ xs[j]? = some x := by
  rw [List.getElem?_map] at h
  cases q : xs[j]? with
  | none => rw [q] at h; cases h
  | some y => rw [q] at h; cases h; exact ⟨y, rfl, rfl⟩
theorem runN_sp {Bn G H : Hp} {env : Env} {σ : L2.St} {xs : List D} {vs : List V} {Q : VK} {E : XK} (S : SI C.K Bn G H env σ) (hn : noLists xs = true) (hl : xs.length = n) (hr : Reps C.K G xs vs)
    (h : After C W Bn G σ (runN run xs env) fun G' H' e a => ∀ b, PRes C Bn G' H' e σ a b → Q b H') : spF C n run vs H Q E := by
  have hr' : Reps C.K (tupsOf G) xs vs := Reps.tups (fun b u t h => tupsOf_at h t) xs vs hn hr
  -- the rest of the heap is kept
  let B : Hp := fun b => if tupsOf G b = none then H b else none
  have Bat : ∀ {b u}, tupsOf G b = none → H b = some u → B b = some u := fun {b u} h1 h2 => by show (if tupsOf G b = none then H b else none) = some u; rw [if_pos h1]; exact h2
  have Bin : ∀ {b u}, B b = some u → tupsOf G b = none ∧ H b = some u := fun {b u} h => by
    have h : (if tupsOf G b = none then H b else none) = some u := h
    split at h
    · rename_i q; exact ⟨q, h⟩
    · cases h
  refine ⟨B, tupsOf G, xs.map .d, ⟨fun b u q => S.ex b u (tupsOf_in q).1, fun b u q => (Bin q).2, fun b q => ?_, by rw [List.length_map, List.length_map]; exact hr.len, fun i y hy => ?_, fun i y hy => ?_, fun i l y z c _ h1 => ?_, fun i ns hy => ?_⟩, by rw [List.length_map]; exact hl, ?_⟩
  · cases q' : B b with
    | none => exact absurd q' q
    | some u => exact (Bin q').1
  · obtain ⟨y', e1, e2⟩ := al_map hy
    cases e1
    obtain ⟨v, q1, q2⟩ := hr'.get e2
    exact ⟨v, vmap q1, q2⟩
  · obtain ⟨y', e1, e2⟩ := al_map hy; cases e1
  · obtain ⟨y', e1, e2⟩ := al_map h1; cases e1
  · obtain ⟨y', e1, e2⟩ := al_map hy; cases e1
  · unfold runN at h
    split at h
    · rename_i r os hrun
      rw [hrun]
      intro G' H' v x1 S1 hv
      have hH : ∀ b u, G b = some u → H' b = some u := fun b u q => by
        by_cases ht : isTupO u = true
        · exact S1.ex b u (x1 b u (tupsOf_at q ht))
        · refine S1.bx b u (Bat ?_ (S.ex b u q))
          cases q' : tupsOf G b with
          | none => rfl
          | some w => obtain ⟨q2, q3⟩ := tupsOf_in q'; rw [q] at q2; cases q2; exact absurd q3 ht
      have nG' : ∀ b u, H b = some u → tupsOf G b = none → G' b = none := fun b u q1 q2 => S1.dj b (by rw [Bat q2 q1]; exact fun z => by cases z)
      have nt : ∀ b, G b = none → tupsOf G b = none := fun b q => by unfold tupsOf; rw [q]
      -- what is known behind it, without the address c
      have go : ∀ (A : Addr → Prop), (∀ b, A b → G b = none) → ∃ G'' : Hp, Ex G G'' ∧ (∀ b, A b → G'' b = none) ∧ (∀ b u, ¬ A b → G' b = some u → G'' b = some u) ∧ SI C.K Bn G'' H' env σ := fun A hA => by
        classical
        let G2 : Hp := fun b => if A b then none else match G b with
          | some u => some u
          | none => G' b
        have g2 : ∀ b u, G2 b = some u → ¬ A b ∧ (G b = some u ∨ (G b = none ∧ G' b = some u)) := fun b u q => by
          have q : (if A b then none else match G b with
            | some u => some u
            | none => G' b) = some u := q
          split at q
          · cases q
          · rename_i hn'
            refine ⟨hn', ?_⟩
            cases hg : G b with
            | none => rw [hg] at q; exact .inr ⟨rfl, q⟩
            | some w => rw [hg] at q; exact .inl q
        have g2' : ∀ b u, G b = some u → G2 b = some u := fun b u q => by
          show (if A b then none else match G b with
            | some u => some u
            | none => G' b) = some u
          have hnA : ¬ A b := fun z => by rw [hA b z] at q; cases q
          rw [if_neg hnA, q]
        refine ⟨G2, g2', fun b q => by show (if A b then none else _) = none; rw [if_pos q], fun b u q1 q2 => ?_, fun b u q => ?_, fun b u q => ?_, fun b q => ?_, S.len, fun i y hy => ?_, fun i y hy => ?_, S.sep, S.scr.ex g2'⟩
        · show (if A b then none else match G b with
            | some u => some u
            | none => G' b) = some u
          rw [if_neg q1]
          cases hg : G b with
          | none => exact q2
          | some w =>
            have e1 := hH b w hg
            rw [S1.ex b u q2] at e1
            cases e1
            rfl
        · rcases (g2 b u q).2 with q | ⟨_, q⟩
          · exact hH b u q
          · exact S1.ex b u q
        · have hg := S.dj b (by rw [q]; exact fun z => by cases z)
          exact S1.bx b u (Bat (nt b hg) (S.bx b u q))
        · cases hb : Bn b with
          | none => exact absurd hb q
          | some w =>
            have hg := S.dj b q
            cases hq : G2 b with
            | none => rfl
            | some u =>
              rcases (g2 b u hq).2 with z | ⟨_, z⟩
              · rw [hg] at z; cases z
              · rw [nG' b w (S.bx b w hb) (nt b hg)] at z; cases z
        · obtain ⟨v, k1, k2⟩ := S.dat i y hy
          exact ⟨v, k1, Rep.ex g2' _ _ k2⟩
        · obtain ⟨c, k1, k2, k3, k4⟩ := S.own i y hy
          obtain ⟨u, hu⟩ := k4.some
          refine ⟨c, k1, ?_, k3, ORep.at ((S1.bx c u (Bat (nt c k2) hu)).trans hu.symm) (ORep.ex g2' k4)⟩
          cases hq : G2 c with
          | none => rfl
          | some w =>
            rcases (g2 c w hq).2 with z | ⟨_, z⟩
            · rw [k2] at z; cases z
            · rw [nG' c u hu (nt c k2)] at z; cases z
      have owns : ∀ (i : Nat) y c, env[i]? = some (.o y) → σ[i]? = some (some (V.ref c)) → B c ≠ none ∧ G' c = none := fun i y c hy hc => by
        obtain ⟨c', k1, k2, k3, k4⟩ := S.own i y hy
        rw [hc] at k1
        cases k1
        obtain ⟨u, hu⟩ := k4.some
        exact ⟨by (rw [Bat (nt c k2) hu]; exact fun z => by cases z), nG' c u hu (nt c k2)⟩
      have bnN : ∀ c, B c = none → Bn c = none := fun c hc => by
        cases hb : Bn c with
        | none => rfl
        | some u => rw [Bat (nt c (S.dj c (by rw [hb]; exact fun z => by cases z))) (S.bx c u hb)] at hc; cases hc
      cases r with
      | o y =>
        obtain ⟨c, rfl, q1, q2, q3, q4⟩ := hv
        have hc : G c = none := by
          cases hg : G c with
          | none => rfl
          | some w =>
            exfalso
            by_cases ht : isTupO w = true
            · have := x1 c w (tupsOf_at hg ht); rw [q1] at this; cases this
            · have ht' : tupsOf G c = none := by
                cases q' : tupsOf G c with
                | none => rfl
                | some z => obtain ⟨q2, q3⟩ := tupsOf_in q'; rw [hg] at q2; cases q2; exact absurd q3 ht
              rw [Bat ht' (S.ex c w hg)] at q2
              cases q2
        obtain ⟨G2, x2, x4, x3, S2⟩ := go (fun b => b = c) (fun b z => by subst z; exact hc)
        have xg : Ex G' G2 := fun b u q => x3 b u (fun z => by subst z; rw [q1] at q; cases q) q
        have hG2 : G2 c = none := x4 c rfl
        exact h G2 H' x2 S2 _ ⟨c, rfl, hG2, bnN c q2, ORep.ex xg q3, fun i z hz hs => (owns i z c hz hs).1 q2⟩
      | d y =>
        have plain : (After C W Bn G σ (.ok (.d y) env) fun G' H' e a => ∀ b, PRes C Bn G' H' e σ a b → Q b H') → Q v H' := fun h => by
          obtain ⟨G2, x2, _, x3, S2⟩ := go (fun _ => False) (fun _ z => z.elim)
          exact h G2 H' x2 S2 v (Rep.ex (fun b u q => x3 b u id q) _ _ hv)
        cases y with
        | list ds =>
          have h : After C W Bn G σ (.ok (if noLists ds then Ar.o (.list ds) else Ar.d (.list ds)) env) _ := h
          split at h
          · rename_i hds
            obtain ⟨c, xs', rfl, k1, k2⟩ := hv
            have hc : G c = none := by
              cases hg : G c with
              | none => rfl
              | some w =>
                by_cases ht : isTupO w = true
                · have := x1 c w (tupsOf_at hg ht); rw [k1] at this; cases this; cases ht
                · have ht' : tupsOf G c = none := by
                    cases q' : tupsOf G c with
                    | none => rfl
                    | some z => obtain ⟨q2, q3⟩ := tupsOf_in q'; rw [hg] at q2; cases q2; exact absurd q3 ht
                  rw [nG' c w (S.ex c w hg) ht'] at k1
                  cases k1
            obtain ⟨G2, x2, x4, x3, S2⟩ := go (fun b => b = c) (fun b z => by subst z; exact hc)
            have hBc : B c = none := by
              cases hb : B c with
              | none => rfl
              | some u => have := S1.dj c (by rw [hb]; exact fun z => by cases z); rw [k1] at this; cases this
            refine h G2 H' x2 S2 _ ⟨c, rfl, x4 c rfl, bnN c hBc, ⟨xs', S1.ex _ _ k1, Reps.tups (fun b u t q => x3 b u (fun z => ?_) q) ds xs' hds k2⟩, fun i z hz hs => (owns i z c hz hs).1 hBc⟩
            subst z
            rw [k1] at q
            cases q
            cases t
          · exact plain h
        | _ => exact plain h
    · exact h.elim
    · exact h.elim
theorem q_callN (R : Rm X k C W) (Z : GF X.prog X.w C X.mg X.base j x params body scope ps n run) (hg : Gl X x) (ha : PA X (e :: es) (tA C W er)) (hj : j ≤ k := by decide) (hdb : (x == ("__debug__" : Str)) = false := by decide)
    (he : starEach (e :: es) X.env = (false, eval e X.env) :: starEach es X.env := by rfl) (hpl : (backTo pos (starEach es X.env)).any (·.1) = false := by rfl) : PE X (.Call (.Name x p) (e :: es) [] pos) (tE C W (evCallN n run er)) := by
  obtain ⟨⟨fd, F⟩, Gq, g⟩ := Z
  obtain ⟨G, b⟩ := Gq fd F
  have hK := R.kk
  have hk : PySem.W.keepIn X.K (.ref (He.ga C.K x)) = true := by rw [hK]; exact F.kp
  refine ⟨fun pins s σ H Q I hw => wpAny_Call_Name_kw (ld_glob I hg g ?_ hdb)⟩
  obtain ⟨Bn, G0, env, S, h⟩ := hw
  refine PySem.W.callWith_K (h₀ := X.base) I.ok.mod.kin hk (thn (ha.run pos pins s σ H (fun vs H1 => spF C n run vs H1 Q fun _ _ _ => False) I ⟨Bn, G0, env, S, h.bind.imp fun G1 H1 e1 xs x1 S1 h vs hvs => ?_⟩) fun us s1 ⟨vs, H1, I1, rv, sp⟩ => ⟨I1.kIn, ?_⟩) he hpl
  · split at h
    · rename_i hc
      exact runN_sp S1 hc.2 hc.1 hvs h
    · exact h.elim
  · have hul : us.length = ps.length := by rw [← rv.length]; exact G.len _ _ _ _ sp
    have hb := b s1 us (by rw [← hK]; exact I1.kIn) (by simpa using hul)
    rw [List.append_nil] at hb
    refine wpAny_call (codeAny_mono ((G.mono hj).go X.A X.stack s1 H1 ⟨us, []⟩ us vs Q _ ⟨R.room, R.gd⟩ (by rw [← hK]; exact I1.env0) hb rv sp) fun r s' hq => ?_)
    cases r with
    | error u => obtain ⟨_, _, _, _, _, _, _, _, _, _, _, _, z⟩ := hq; exact z.elim
    | ok fl =>
      cases fl with
      | ret u => exact I1.after hq
      | next => exact hq.elim
      | brk => exact hq.elim
      | cont => exact hq.elim
end
end Pd
set_option Elab.async false
set_option linter.all false
set_option maxRecDepth 100000
set_option maxHeartbeats 4000000
namespace Pd
open PySem PySem.Spec PyProof.Rows L2
open Evl (Ex Ex.refl Ex.trans ex_rd ex_l ex_t)

/-! ### a row of answers, two of them lists that are spoilt -/
/-- an object that is no slot's and not known changes -/
theorem SI.wild {K : PySem.W.Frag} {Bn G H : Hp} {env : Env} {σ : L2.St} {c : Addr} {o : HO} (S : SI K Bn G H env σ) (h1 : G c = none) (h2 : Bn c = none) (h3 : ∀ (i : Nat) y, env[i]? = some (.o y) → σ[i]? ≠ some (some (V.ref c))) : SI K Bn G (upd H c o) env σ := by
  refine ⟨S.ex.mut h1, S.bx.mut h2, S.dj, S.len, S.dat, fun i x h => ?_, S.sep, S.scr⟩
  obtain ⟨a, q1, q2, q3, q4⟩ := S.own i x h
  exact ⟨a, q1, q2, q3, ORep.at (upd_ne fun z => h3 i x h (by rw [← z]; exact q1)) q4⟩
def seenD (e : Env) (i : Nat) : Option D := match e[i]? with
  | some (.d x) => some x
  | some (.o x) => some x
  | _ => none
def evSpoil (it du : Nat) (er : EvL) : EvS := fun env => (er env).go fun rs e => match rs with
  | [r0, .o (.list d1), .o (.list d2), r3] => match seenD e du with
    | none => .bad
    | some dd => if decide (it < e.length) && (sz d1.length && sz d2.length) then match callD .repr [.list [r0.x, .list d1, .list d2, r3.x]] with
      | some (.d (.str s)) => match callD .repr [dd] with
        | some (.d (.str t)) => match cmpD .NotEq (.str s) (.str t) with
          | some true => .rt (.d (.bool false)) (e.set it .u)
          | some false => .nx (e.set it .u)
          | none => .bad
        | _ => .bad
      | _ => .bad
      else .bad
  | _ => .bad
section
variable {X : Cx} {k : Nat} {C : Kc} {W : WX} {pin : List Nat} {es : List Expr} {er : EvL} {x y : Str} {it du : Nat} {p1 p2 p3 p4 p5 p6 p7 p8 p9 p10 p11 p12 p13 p14 p15 p16 p17 p18 p19 p20 q14 q15 q16 q17 q18 q19 q20 : Pos} {j1 j2 j3 j4 j5 : Nat}
theorem seen_rep {K : PySem.W.Frag} {Bn G H H' : Hp} {env : Env} {σ : L2.St} {i : Nat} {d : D} (S : SI K Bn G H env σ) (h : seenD env i = some d) (x : Ex H H') : ∃ v, σ[i]? = some (some v) ∧ Rep K H' d v := by
  unfold seenD at h
  split at h
  · rename_i z; cases h; obtain ⟨v, q1, q2⟩ := S.dat i _ z; exact ⟨v, q1, Rep.ex (S.ex.trans x) _ _ q2⟩
  · rename_i z; cases h; obtain ⟨v, q1, _, _, q2⟩ := S.own i _ z; exact ⟨_, q1, Rep.ex x _ _ (BRep.rep S.ex (BRep.own q2))⟩
  · cases h
theorem res_rep {K : PySem.W.Frag} {Bn G H H' : Hp} {env : Env} {σ : L2.St} {r : Ar} {v : V} (S : SI K Bn G H env σ) (h : Res K Bn G H env σ r v) (x : Ex H H') : Rep K H' r.x v := by
  cases r with
  | d y => exact Rep.ex (S.ex.trans x) _ _ h
  | o y => obtain ⟨a, rfl, q⟩ := h; exact Rep.ex x _ _ (BRep.rep S.ex (BRep.own q.r))
theorem q_spoil (R : Rm X k C W) (hN : X.N[it]? = some x) (hx : Loc X.env.scope x) (hM : X.N[du]? = some y) (hy : Vis X.env.scope y) (hg : Gl X "repr") (hm : X.mg "repr" = none) (ha : PA X es (tL C W er)) (hne : it ≠ du := by decide) (hp : it ∉ pin := by decide)
    (hf : X.fn x = true ∨ X.env.scope.names.lookup x = some .local := by first | exact .inl rfl | exact .inr rfl)
    (m1 : mOk X (.Subscript (.Name x p14) (.Constant (.int 1) j2 p15) p16) "append" p17 (.Constant .none j3 p18) p19 := by exact ⟨rfl, rfl, rfl, rfl⟩) (m2 : mOk X (.Subscript (.Name x q14) (.Constant (.int 2) j4 q15) q16) "append" q17 (.Constant .none j5 q18) q19 := by exact ⟨rfl, rfl, rfl, rfl⟩)
    (hd : (x == ("__debug__" : Str)) = false := by decide) (hcd : (x == ("__classdict__" : Str)) = false := by decide) (hd2 : (y == ("__debug__" : Str)) = false := by decide) (hcd2 : (y == ("__classdict__" : Str)) = false := by decide) :
    PSs X [.Assign [.Name x p1] (.List es p2) p3, .If (.Compare (.Call (.Name "repr" p4) [.Name x p5] [] p6) [.NotEq] [.Call (.Name "repr" p7) [.Name y p8] [] p9] p10) [.Return (some (.Constant (.bool false) j1 p11)) p12] [] p13,
      .Expr (.Call (.Attribute (.Subscript (.Name x p14) (.Constant (.int 1) j2 p15) p16) "append" p17) [.Constant .none j3 p18] [] p19) p20, .Expr (.Call (.Attribute (.Subscript (.Name x q14) (.Constant (.int 2) j4 q15) q16) "append" q17) [.Constant .none j5 q18] [] q19) q20] (tS C W pin (evSpoil it du er)) := by
  have hvx : Vis X.env.scope x := hx.imp id .inl
  have app : ∀ {n : Int} {j j' : Nat} {a1 a2 a3 a4 a5 a6 a7 : Pos}, mOk X (.Subscript (.Name x a1) (.Constant (.int n) j a2) a3) "append" a4 (.Constant .none j' a5) a6 →
      PS X (.Expr (.Call (.Attribute (.Subscript (.Name x a1) (.Constant (.int n) j a2) a3) "append" a4) [.Constant .none j' a5] [] a6) a7) (tDrop (tBM X.K "list" rAppend (tOp (rIxL X.K) (tVar it) (tC (.int n))) (tCons (tC .non) tNil))) := fun m =>
    ps_expr (pe_bm PySem.F.plainAttrs_list PySem.F.slot_list_append PySem.F.type_list_append mt_append (pe_ix ix_list (pe_var hN hvx hd hcd) pe_int (by intro _ _; rfl)) (pa_cons pe_non pa_nil rfl) m.base m.few m.line rfl rfl) rfl
  have rp : ∀ {z : Str} {n : Nat} {a1 a2 a3 : Pos}, X.N[n]? = some z → Vis X.env.scope z → (z == ("__debug__" : Str)) = false → (z == ("__classdict__" : Str)) = false → PE X (.Call (.Name "repr" a1) [.Name z a2] [] a3) (tCB (rCall C.K (callD .repr)) (tCons (tVar n) tNil)) := fun h1 h2 h3 h4 =>
    pe_callB (id := "repr") (cbf R .repr) hg hm (by rfl) (pa_cons (pe_var h1 h2 h3 h4) pa_nil rfl) (by decide) (by decide) rfl rfl
  refine pss_imp (pss_cons (ps_set (pos' := p1) R.nd hN hx (pe_lst ha) rfl hf) (pss_cons (ps_if (pt_cmpR (opc R .NotEq) (rp hN hvx hd hcd) (rp hM hy hd2 hcd2) rfl) (pss_one (ps_ret pe_bl)) pss_nil) (pss_cons (app m1) (pss_one (app m2))))) fun D σ H hw => ?_
  obtain ⟨Bn, P, G, env, S, h⟩ := hw
  refine ⟨Bn, G, env, S.si, (h.go S).imp fun G1 H1 e rs x1 S1 h vs hv => ?_⟩
  split at h
  · rename_i r0 d1 d2 r3
    split at h
    · exact h.elim
    · rename_i dd hdd
      split at h
      · rename_i hc
        obtain ⟨c0, c12⟩ := Bool.and_eq_true_iff.mp hc
        obtain ⟨c1, c2⟩ := Bool.and_eq_true_iff.mp c12
        have c0 : it < e.length := by simpa using c0
        split at h
        · rename_i s1 hr1
          split at h
          · rename_i s2 hr2
            have l4 := hv.len
            match vs, l4, hv with
            | [v0, v1, v2, v3], _, hv =>
              have R0 := hv.at_ 0 r0 v0 rfl rfl
              obtain ⟨a1, e1, O1⟩ := hv.at_ 1 _ v1 rfl rfl
              obtain ⟨a2, e2, O2⟩ := hv.at_ 2 _ v2 rfl rfl
              have R3 := hv.at_ 3 r3 v3 rfl rfl
              have n12 : a1 ≠ a2 := fun z => hv.dis 1 2 _ _ (by decide) rfl rfl (by show some v1 = some v2; rw [e1, e2, z])
              subst e1 e2
              obtain ⟨ys1, f1, g1⟩ := O1.r
              obtain ⟨ys2, f2, g2⟩ := O2.r
              refine ⟨by rw [sizeLine_eq]; show 4 ≤ _; decide, fun q hq => ?_⟩
              have n1 : a1 ≠ q := ne_of_none f1 hq
              have n2 : a2 ≠ q := ne_of_none f2 hq
              have X2 : Ex H1 (upd H1 q (.lst [v0, .ref a1, .ref a2, v3])) := Ex.new hq
              have iσ : it < σ.length := by rw [← S1.len]; exact c0
              have σit : (σ.set it (some (V.ref q)))[it]? = some (some (V.ref q)) := List.getElem?_set_self iσ
              -- both texts
              have RQ : Rep C.K (upd H1 q (.lst [v0, .ref a1, .ref a2, v3])) (.list [r0.x, .list d1, .list d2, r3.x]) (.ref q) := ⟨q, _, rfl, upd_same, v0, _, rfl, res_rep S1 R0 X2, _, _, rfl, ⟨a1, ys1, rfl, X2 _ _ f1, Reps.ex (S1.ex.trans X2) _ _ g1⟩, _, _, rfl, ⟨a2, ys2, rfl, X2 _ _ f2, Reps.ex (S1.ex.trans X2) _ _ g2⟩, _, _, rfl, res_rep S1 R3 X2, rfl⟩
              refine ⟨_, σit, upd H1 q (.lst [v0, .ref a1, .ref a2, v3]), _, _, Ex.refl _, Reps.one RQ, hr1, fun w G3 H3 P3 => ?_⟩
              have hw3 : w = .str s1 := P3.rs
              subst hw3
              obtain ⟨vd, k1, k2⟩ := seen_rep S1 hdd (X2.trans P3.hx)
              refine ⟨vd, (List.getElem?_set_ne hne).trans k1, H3, [dd], _, Ex.refl _, Reps.one k2, hr2, fun w' G4 H4 P4 => ?_⟩
              have hw4 : w' = .str s2 := P4.rs
              subst hw4
              have X4 : Ex H1 H4 := X2.trans (P3.hx.trans P4.hx)
              have SU : SIP C.K pin Bn P G1 H4 (e.set it .u) (σ.set it (some (V.ref q))) := ⟨(S1.grow X4).setU, S.pf, fun z hz => by
                have : it ≠ z.1 := fun e => hp (by rw [← S.pf, e]; exact List.mem_map.mpr ⟨z, hz, rfl⟩)
                rw [List.getElem?_set_ne this]
                exact S.pv z hz⟩
              split at h
              · rename_i hb
                refine ⟨.str s1, .str s2, true, rfl, rfl, hb, true, rfl, ?_⟩
                exact h G1 H4 _ _ (Ex.refl _) SU rfl
              · rename_i hb
                refine ⟨.str s1, .str s2, false, rfl, rfl, hb, false, rfl, ?_⟩
                -- the lists are spoilt
                have own : ∀ (c : Addr) (o : PyData), Own C.K Bn G1 H1 e σ o c → ∀ (i : Nat) z, (e.set it .u)[i]? = some (.o z) → (σ.set it (some (V.ref q)))[i]? ≠ some (some (V.ref c)) := fun c o O i z hz hs => by
                  by_cases hi : it = i
                  · subst hi; rw [List.getElem?_set_self c0] at hz; cases hz
                  · rw [List.getElem?_set_ne hi] at hz hs
                    exact O.s i z hz hs
                have hq4 : H4 q = some (.lst [v0, .ref a1, .ref a2, v3]) := (P3.hx.trans P4.hx) _ _ upd_same
                refine ⟨_, σit, q, _, 1, .ref a1, rfl, rfl, SqL.of hq4, rfl, .inl ⟨rfl, ys1, SqL.of (X4 _ _ f1)⟩, a1, ys1, .non, rfl, rfl, X4 _ _ f1, ?_, ?_⟩
                · rw [← g1.len, sizeLine_eq]; have := sz_ok c1; omega
                refine ⟨_, σit, q, _, 2, .ref a2, rfl, rfl, SqL.of ((upd_ne (Ne.symm n1)).trans hq4), rfl, .inl ⟨rfl, ys2, SqL.of ((upd_ne (Ne.symm n12)).trans (X4 _ _ f2))⟩, a2, ys2, .non, rfl, rfl, (upd_ne (Ne.symm n12)).trans (X4 _ _ f2), ?_, ?_⟩
                · rw [← g2.len, sizeLine_eq]; have := sz_ok c2; omega
                exact h.now (SU.to ((SU.si.wild O1.g O1.b (own a1 _ O1)).wild O2.g O2.b (own a2 _ O2)))
              · exact h.elim
          · exact h.elim
        · exact h.elim
      · exact h.elim
  · exact h.elim
end
end Pd
set_option Elab.async false
set_option linter.all false
set_option maxRecDepth 100000
set_option maxHeartbeats 4000000
namespace Pd
open PySem PySem.Spec PyProof.Rows L2
open Evl (Ex Ex.refl Ex.trans ex_rd ex_l ex_t)

/-! ### a pair turned round: t[::-1] -/
theorem turned_parts {M : Model} {A : Around} {E : Value → Shared → Prop} {s : Shared} {sl : Addr} {tk : Tok} {Q : Int × Int × Nat → Shared → Prop} (hs : ∃ o, s.heap.get? sl = some o ∧ o.cls = .type "slice" ∧ o.data = .fields #[.none, .none, .int (-1) tk]) (hp : ∀ Q' : Option Int → Shared → Prop, Q' (some (-1)) s → wpAny M A (Builtin.Slice.slicePartIndex (.int (-1) tk)) Q' E s)
    (h : Q (1, -1, 2) s) : wpAny M A (Builtin.Slice.sliceApplied (.ref sl) (pure (2 : Int))) Q E s := by
  obtain ⟨os, hos, hcs, hds⟩ := hs
  unfold Builtin.Slice.sliceApplied
  unfold Builtin.Slice.sliceFields
  refine wpAny_bind (wpAny_bind (wpAny_field hos hds (x := .none) rfl (wpAny_bind (wpAny_field hos hds (x := .none) rfl (wpAny_bind (wpAny_field hos hds (x := .int (-1) tk) rfl (wpAny_pure ?_)))))))
  refine wpAny_bind (hp _ ?_)
  show wpAny _ _ (if ((-1 : Int) == 0) = true then _ else _) _ _ s
  rw [if_neg (by decide)]
  exact wpAny_bind (wpAny_pure (wpAny_bind (wpAny_pure (wpAny_bind (wpAny_pure (wpAny_pure h))))))
theorem pair_turned {prog : Program} {w : World} {A : Around} {E : Value → Shared → Prop} {s : Shared} {t sl : Addr} {u1 u2 : Value} {tk : Tok} {Q : Value → Shared → Prop} (ht : IsTup s.heap t #[u1, u2]) (hs : ∃ o, s.heap.get? sl = some o ∧ o.cls = .type "slice" ∧ o.data = .fields #[.none, .none, .int (-1) tk])
    (h : Q (.ref s.heap.objs.size) { s with heap := s.heap.push { cls := .type "tuple", data := .seq #[u2, u1] } }) : wpAny (model prog w) A (getItem (.ref t) (.ref sl)) Q E s := by
  have hT : s.TypeIs (.ref sl) "slice" := by obtain ⟨os, hos, hcs, _⟩ := hs; exact ⟨os, hos, hcs⟩
  unfold getItem
  try (with_reducible refine (wpAny_holding ?_))
  first | refine wpAny_bind (wpAny_pure ?_) | skip
  have hTt := IsTup.typeIs ht
  refine wpAny_bind (wpAny_sequenceKey hTt (by decide) ?_)
  refine wpAny_bind (wpAny_callSpecial?_slot (name := Str.ofString "__getitem__") hTt PyProof.Rows.slot_tuple_getitem (wpAny_call_entry PyProof.Rows.slot_tuple_getitem hTt entry_tuple_getitem ?_ (args_tuple_getitem _ _)))
  show wpAny _ _ (Builtin.Tuple.tupleItemsOf (.ref t) >>= _) _ _ s
  refine wpAny_bind (tupleItemsOf_ ht (wpAny_bind (wpAny_typeOf hT ?_)))
  rw [if_pos (by decide)]
  refine wpAny_bind (turned_parts hs (fun Q' q => slicePart_int q) ?_)
  show wpAny _ _ (if (((1 : Int) == 0 && (-1 : Int) == 1 && (2 : Nat) == 2) = true) then _ else _) _ _ s
  rw [if_neg (by decide)]
  have hz : sizeOk (.seq #[u2, u1]) := by show 2 ≤ sizeLine; rw [sizeLine_eq]; decide
  first
    | exact wpAny_bind (m := Builtin.Tuple.tupleExact _) (wpAny_newObj_type (wpAny_pure ⟨_, rfl, wpAny_pure h⟩) hz)
    | exact wpAny_bind (m := Builtin.Tuple.tupleExact _) (wpAny_newObj_type (wpAny_bind (wpAny_pure (wpAny_pure ⟨_, rfl, wpAny_pure h⟩))) hz)
    | exact wpAny_bind (wpAny_bind (m := Builtin.Tuple.tupleExact _) (wpAny_newObj_type (wpAny_pure (wpAny_pure ⟨_, rfl, wpAny_pure h⟩)) hz))
    | exact wpAny_bind (wpAny_bind (m := Builtin.Tuple.tupleExact _) (wpAny_newObj_type (wpAny_pure ⟨_, rfl, wpAny_pure h⟩) hz))
section
variable {X : Cx} {k : Nat} {C : Kc} {W : WX} {a st : Expr} {p2 pos : Pos} {ea es : EvE}
def evTurn (ea es : EvE) : EvE := fun env => (evD ea env).bind fun x e1 => (evD es e1).bind fun y e2 => match y with
  | .int i => if i = -1 then match x with
    | .tuple [d1, d2] => .ok (.d (.tuple [d2, d1])) e2
    | _ => .bad
    else .bad
  | _ => .bad
theorem q_turn (R : Rm X k C W) (ha : PE X a (tE C W ea)) (hst : PE X st (tE C W es)) (ht : ∀ o r, letTemporaryGo a o r = pure () := by intro _ _; rfl) : PE X (.Subscript a (.Slice none none (some st) p2) pos) (tE C W (evTurn ea es)) := by
  refine ⟨fun pins s σ H Q I hw => wpAny_Subscript_Slice_step PyProof.Rows.slot_tuple_getitem.lookup ?_ ht⟩
  obtain ⟨Bn, G, env, S, h⟩ := hw
  refine thn ((q_D ha).run pins s σ H (fun v H1 => ∃ G1 e1 x, SI C.K Bn G1 H1 e1 σ ∧ Rep C.K G1 x v ∧ After C W Bn G1 σ ((evD es e1).bind fun y e2 => match y with
    | .int i => if i = -1 then match x with
      | .tuple [d1, d2] => .ok (.d (.tuple [d2, d1])) e2
      | _ => .bad
      else .bad
    | _ => .bad) fun G' H' e a => ∀ b, PRes C Bn G' H' e σ a b → Q b H') I ⟨Bn, G, env, S, h.bind.imp fun G1 H1 e1 x x1 S1 h v hv => ⟨G1, e1, x, S1, hv, h⟩⟩) fun v s1 ⟨xv, H1, I1, r1, G1, e1, x, S1, hx, h⟩ => ?_
  refine wpAny_Slice (thn (po_none.run pins s1 σ H1 (fun o H2 => o = none ∧ H2 = H1) I1 ⟨rfl, rfl⟩) fun vl s2 ⟨o2, H2, I2, pl, q2, q2'⟩ => thn (po_none.run pins s2 σ H2 (fun o H3 => o = none ∧ H3 = H2) I2 ⟨rfl, rfl⟩) fun vu s3 ⟨o3, H3, I3, pu, q3, q3'⟩ => ?_)
  subst q2 q2' q3 q3'
  cases pl
  cases pu
  refine thn ((po_some (q_D hst)).run pins s3 σ H3 (fun o H4 => ∃ G2 d1 d2 e2, o = some (-1) ∧ Ex G1 G2 ∧ SI C.K Bn G2 H4 e2 σ ∧ x = .tuple [d1, d2] ∧ ∀ G' H', Ex G2 G' → SI C.K Bn G' H' e2 σ → ∀ b, PRes C Bn G' H' e2 σ (.d (.tuple [d2, d1])) b → Q b H') I3 ⟨Bn, G1, e1, S1, h.bind.imp fun G2 H2 e2 y x2 S2 h u hu => ?_⟩) fun vs s4 ⟨o4, H4, I4, ps, G2, d1, d2, e2, q4, x2, S2, ex, hk⟩ => ?_
  · cases y with
    | int i =>
      by_cases hi : i = -1
      · subst hi
        cases hu
        have g : After C W Bn G2 σ (match x with
          | .tuple [d1, d2] => Rs.ok (Ar.d (.tuple [d2, d1])) e2
          | _ => .bad) (fun G' H' e a => ∀ b, PRes C Bn G' H' e σ a b → Q b H') := h
        clear h
        split at g
        · rename_i d1 d2
          exact ⟨-1, rfl, G2, d1, d2, e2, rfl, x2, S2, rfl, g⟩
        · exact g.elim
      · have g : After C W Bn G2 σ (if i = -1 then match x with
          | .tuple [d1, d2] => Rs.ok (Ar.d (.tuple [d2, d1])) e2
          | _ => .bad
          else .bad) (fun G' H' e a => ∀ b, PRes C Bn G' H' e σ a b → Q b H') := h
        rw [if_neg hi] at g
        exact g.elim
    | _ => exact h.elim
  · subst q4 ex
    cases ps with
    | int _ tk =>
      obtain ⟨t, xs, rfl, g1, v1, r1', e3, m1, v2, r2', e4, m2, e5⟩ := hx
      cases (show r2' = [] from e5)
      subst e3
      cases e4
      cases r1
      have I5 : L2.Inv X pins σ H4 { s4 with heap := s4.heap.push { cls := .type "slice", data := .fields #[.none, .none, .int (-1) tk] } } := I4.kept (t' := s4.toks) fun b ob q => Heap.get?_push_of_some _ q
      have hq : SqT X.K H4 t [v1, v2] := by rw [R.kk]; exact ex_t (x2.trans S2.ex) g1
      obtain ⟨its, rv, hT, hz⟩ := I5.tuple hq
      obtain ⟨u1, u2, rfl, ru1, ru2⟩ := vals2 rv
      refine ⟨hT.typeIs, pair_turned hT ⟨_, Heap.get?_push_size _ rfl, rfl, rfl⟩ ?_⟩
      have hfr : H4 (s4.heap.push { cls := .type "slice", data := .fields #[.none, .none, .int (-1) tk] }).objs.size = none := I5.hok.fresh (Nat.le_refl _)
      have PP := Post.tup (K := C.K) (ds := [d2, d1]) (xs := [v2, v1]) S2.ex hfr (Reps.cons (Rep.ex x2 _ _ m2) (Reps.one (Rep.ex x2 _ _ m1)))
      refine ⟨V.ref _, _, I5.laid (t' := s4.toks) (o := .tup [v2, v1]) (fun b ob q => Heap.get?_push_of_some _ q) (Nat.le_refl _) ?_, rfl, hk _ _ PP.gx (S2.post PP).1 _ (S2.post PP).2⟩
      exact ⟨by rw [sizeLine_eq]; show 2 ≤ _; decide, [u2, u1], .cons ru2 (.cons ru1 .nil), IsTup.new _ _⟩
end
end Pd
set_option Elab.async false
set_option linter.all false
set_option maxRecDepth 100000
set_option maxHeartbeats 2000000
namespace Pd
open PySem PySem.Spec PyProof.Rows L2

/-! ### plain texts -/
theorem mkS_inj {a b : List Nat} (h : mkS a = mkS b) : a = b := by have := congrArg tl h; exact this
section
open PySem.StrLaws PySem.Builtin.Str
/-- a limit only cuts what is found -/
theorem occ_fold (s sub : Str) (hi L B : Nat) : ∀ (l : List Nat) (a b : Array Nat × Nat), b.1.size + l.length ≤ B → a.1.toList = b.1.toList.take L → (a.1.size < L → a = b) →
    (forIn l a (occBody s sub hi L)).run.fst.toList = (forIn l b (occBody s sub hi B)).run.fst.toList.take L
  | [], a, b, _, h, _ => h
  | i :: l, a, b, hB, h, e => by
    rw [List.forIn_cons, List.forIn_cons]
    have hb : b.1.size < B := by simp at hB; omega
    by_cases ha : a.1.size < L
    · have := e ha
      subst this
      unfold occBody
      by_cases hc : (a.2 ≤ i ∧ i + sub.length ≤ hi) ∧ subAt s sub i = true
      · rw [if_pos ⟨⟨⟨ha, hc.1.1⟩, hc.1.2⟩, hc.2⟩, if_pos ⟨⟨⟨hb, hc.1.1⟩, hc.1.2⟩, hc.2⟩]
        refine occ_fold s sub hi L B l _ _ (by simp at hB ⊢; omega) ?_ (fun _ => rfl)
        rw [List.take_of_length_le]
        simp
        omega
      · rw [if_neg fun z => hc ⟨⟨z.1.1.2, z.1.2⟩, z.2⟩, if_neg fun z => hc ⟨⟨z.1.1.2, z.1.2⟩, z.2⟩]
        exact occ_fold s sub hi L B l _ _ (by simp at hB ⊢; omega) h (fun _ => rfl)
    · unfold occBody
      rw [if_neg fun z => ha z.1.1.1]
      have hl : L ≤ b.1.toList.length := by
        have := congrArg List.length h
        rw [List.length_take] at this
        simp at this ⊢
        omega
      split
      · refine occ_fold s sub hi L B l _ _ (by simp at hB ⊢; omega) ?_ (fun z => absurd z ha)
        show a.1.toList = (b.1.push i).toList.take L
        rw [Array.toList_push, List.take_append_of_le_length hl]
        exact h
      · exact occ_fold s sub hi L B l _ _ (by simp at hB ⊢; omega) h (fun z => absurd z ha)
theorem occ_take (s sub : Str) (L : Nat) : occurrences s sub 0 s.length L = (occurrences s sub 0 s.length (s.length + 1)).take L := by
  rw [occ_eq, occ_eq]
  exact occ_fold s sub s.length L (s.length + 1) _ _ _ (by simp) (by simp) (fun _ => rfl)
end
theorem join_spl (c : Nat) : ∀ (m acc : List Nat), TL.joinL [c] (TL.spl [c] 0 acc m) = acc ++ m
  | [], acc => by rw [TL.spl_nil]; simp [TL.joinL]
  | d :: m, acc => by
    by_cases h : TL.pre [c] (d :: m) = true
    · rw [TL.spl_hit h]
      have hd : d = c := by simpa [TL.pre] using h
      have ih := join_spl c m []
      show TL.joinL [c] (acc :: TL.spl [c] 0 [] m) = _
      cases hs : TL.spl [c] 0 [] m with
      | nil =>
        exfalso
        cases m with
        | nil => rw [TL.spl_nil] at hs; cases hs
        | cons e m =>
          by_cases h2 : TL.pre [c] (e :: m) = true
          · rw [TL.spl_hit h2] at hs; cases hs
          · rw [TL.spl_miss (by simpa using h2)] at hs
            have := congrArg (TL.joinL [c]) hs
            rw [join_spl c m] at this
            simp [TL.joinL] at this
      | cons p r =>
        rw [hs] at ih
        show acc ++ ([c] ++ TL.joinL [c] (p :: r)) = _
        rw [ih, hd]
        simp
    · rw [TL.spl_miss (by simpa using h), join_spl c m]
      simp
def max2 : List (List Nat) → List (List Nat)
  | p :: q :: r :: t => [p, q, TL.joinL [32] (r :: t)]
  | ps => ps
def splitL (l : List Nat) : List (List Nat) := TL.spl [32] 0 [] l
theorem split_eq (l : List Nat) : Txt.split (mkS l) (mkS [32]) = (splitL l).map mkS := by
  refine TL.map_tl_inj ?_
  have h := TL.split_spl (mkS l) (mkS [32]) (by show ([32] : List Nat) ≠ []; decide) (TL.kind_ok (by decide +kernel))
  rw [h]
  show splitL l = _
  rw [List.map_map]
  have : (TL.tl ∘ mkS) = id := rfl
  rw [this, List.map_id]
theorem splitMax_eq (l : List Nat) : Txt.splitMax (mkS l) (mkS [32]) 2 = (max2 (splitL l)).map mkS := by
  refine TL.map_tl_inj ?_
  rw [List.map_map, show (TL.tl ∘ mkS) = id from rfl, List.map_id]
  have hy : TL.tl (mkS [32]) ≠ [] := by show ([32] : List Nat) ≠ []; decide
  obtain ⟨f, g, hn⟩ := PySem.StrLaws.occ_tight (mkS l) (mkS [32]) (TL.len1 hy)
  have key := TL.parts_spl hy _ 0 f (Nat.zero_le _) g hn
  rw [List.drop_zero] at key
  have key : (PySem.StrLaws.partsFrom (mkS l) 1 0 (PySem.Builtin.Str.occurrences (mkS l) (mkS [32]) 0 (mkS l).length ((mkS l).length + 1))).map TL.tl = splitL l := key
  have ot := occ_take (mkS l) (mkS [32]) 2
  generalize PySem.Builtin.Str.occurrences (mkS l) (mkS [32]) 0 (mkS l).length ((mkS l).length + 1) = O at key ot g
  -- what the limited one gives, from its cuts
  have goal : (PySem.StrLaws.partsFrom (mkS l) 1 0 (O.take 2)).map TL.tl = max2 (splitL l) := by
    rw [← key]
    match O with
    | [] => rfl
    | [a] => rfl
    | [a, b] => rfl
    | a :: b :: c :: r =>
      have e1 := join_spl 32 ((TL.tl (mkS l)).drop (b + 1)) []
      obtain ⟨_, _, _, g2⟩ := g
      obtain ⟨_, hb, _, g3⟩ := g2
      have hb2 : b + 1 ≤ l.length := by
        have := hb.1
        have e2 : (mkS l).length = l.length := by simp [mkS, Str.length]
        have e3 : (mkS [32]).length = 1 := rfl
        omega
      have e4 := TL.parts_spl hy (c :: r) (b + 1) f hb2 g3 hn
      have e5 : TL.joinL [32] ((PySem.StrLaws.partsFrom (mkS l) 1 (b + 1) (c :: r)).map TL.tl) = (TL.tl (mkS l)).drop (b + 1) := by
        have e6 : (PySem.StrLaws.partsFrom (mkS l) 1 (b + 1) (c :: r)).map TL.tl = TL.spl [32] 0 [] ((TL.tl (mkS l)).drop (b + 1)) := e4
        rw [e6, e1]
        rfl
      show [TL.tl (PySem.Builtin.Str.strSub (mkS l) 0 a), TL.tl (PySem.Builtin.Str.strSub (mkS l) (a + 1) b), TL.tl (PySem.Builtin.Str.strSub (mkS l) (b + 1) (mkS l).length)] = max2 (TL.tl (PySem.Builtin.Str.strSub (mkS l) 0 a) :: TL.tl (PySem.Builtin.Str.strSub (mkS l) (a + 1) b) :: (PySem.StrLaws.partsFrom (mkS l) 1 (b + 1) (c :: r)).map TL.tl)
      obtain ⟨p, t, hpt⟩ := PySem.StrLaws.partsFrom_ne (mkS l) 1 (b + 1) (c :: r)
      rw [hpt] at e5 ⊢
      rw [TL.tl_strSub_end]
      show _ = [_, _, TL.joinL [32] ((p :: t).map TL.tl)]
      rw [e5]
  have none_case : O.take 2 = [] → [mkS l].map TL.tl = max2 (splitL l) := fun ho => by
    rw [ho] at goal
    rw [← goal]
    show [TL.tl (mkS l)] = [TL.tl (PySem.Builtin.Str.strSub (mkS l) 0 (mkS l).length)]
    rw [TL.tl_strSub_end, List.drop_zero]
  unfold Txt.splitMax
  have hlim : limitOf (mkS l) 2 = 2 := rfl
  rw [hlim, ot]
  by_cases h1 : (decide ((mkS l).length < (mkS [32]).length) || decide (PySem.Builtin.Str.strKind (mkS l) < PySem.Builtin.Str.strKind (mkS [32]))) = true
  · rw [if_pos h1]
    refine none_case ?_
    cases O with
    | nil => rfl
    | cons a r =>
      exfalso
      have hk : ¬ PySem.Builtin.Str.strKind (mkS l) < PySem.Builtin.Str.strKind (mkS [32]) := TL.kind_ok (by decide +kernel)
      have := g.2.1.1
      simp only [Bool.or_eq_true, decide_eq_true_eq] at h1
      rcases h1 with h | h
      · omega
      · exact hk h
  · rw [if_neg h1]
    by_cases h2 : (O.take 2).isEmpty = true
    · rw [if_pos h2]
      exact none_case (List.isEmpty_iff.mp h2)
    · rw [if_neg h2, PySem.StrLaws.partsBetween_eq]
      exact goal
end Pd
set_option Elab.async false
set_option linter.all false
set_option maxRecDepth 100000
set_option maxHeartbeats 2000000
namespace Pd
open PySem PySem.Spec PyProof.Rows L2

/-! ### working an evaluator out, by simp -/
section
variable {α β : Type} {a : α} {e env : Env} {f : α → Env → Rs β} {g : α → Env → Rt} {x y : D} {r : Ar} {i n : Nat} {ea eb ec : EvE} {er : EvA} {ta tb : EvB} {xc : Xc}
@[simp] theorem bind_ok : (Rs.ok a e).bind f = f a e := rfl
@[simp] theorem bind_bad : (Rs.bad : Rs α).bind f = .bad := rfl
@[simp] theorem go_ok : (Rs.ok a e).go g = g a e := rfl
@[simp] theorem go_bad : (Rs.bad : Rs α).go g = .bad := rfl
@[simp] theorem ofO_ok : ofO (some a) e = .ok a e := rfl
@[simp] theorem ofO_no : ofO (none : Option α) e = .bad := rfl
@[simp] theorem evD_eq : evD ea env = (ea env).bind fun r e => .ok r.x e := rfl
@[simp] theorem x_d : (Ar.d x).x = x := rfl
@[simp] theorem x_o : (Ar.o x).x = x := rfl
@[simp] theorem slA_d : slA (Ar.d x) = .d x := rfl
@[simp] theorem slA_o : slA (Ar.o x) = .o x := rfl
@[simp] theorem evC_eq : evC x env = .ok (.d x) env := rfl
@[simp] theorem evVar_eq : evVar i env = match env[i]? with
  | some (.d x) => .ok (.d x) env
  | some (.o x) => .ok (.d x) (env.set i (.d x))
  | _ => .bad := rfl
@[simp] theorem evBor_eq : evBor i env = match env[i]? with
  | some (.d x) => .ok x env
  | some (.o x) => .ok x env
  | _ => .bad := rfl
@[simp] theorem evBin_eq {f : D → D → Option Ar} : evBin f ea eb env = (evD ea env).bind fun x e1 => (evD eb e1).bind fun y e2 => ofO (f x y) e2 := rfl
@[simp] theorem evNeg_eq : evNeg ea env = (evD ea env).bind fun x e => match x with
  | .int i => .ok (.d (.int (-i))) e
  | _ => .bad := rfl
@[simp] theorem evCmp_eq {f : D → D → Option Bool} : evCmp f ea eb env = (evD ea env).bind fun x e1 => (evD eb e1).bind fun y e2 => ofO ((f x y).map fun b => .d (.bool b)) e2 := rfl
@[simp] theorem evCmpB_eq {f : D → D → Option Bool} {ed : EvD} : evCmpB f ea ed env = (evD ea env).bind fun x e1 => (ed e1).bind fun y e2 => ofO ((f x y).map fun b => .d (.bool b)) e2 := rfl
@[simp] theorem evChn_eq {f g : D → D → Option Bool} : evChn f g ea eb ec env = (evD ea env).bind fun x e1 => (evD eb e1).bind fun y e2 => (ofO (f x y) e2).bind fun b e2 => match b with
  | true => (evD ec e2).bind fun z e3 => ofO ((g y z).map fun b => .d (.bool b)) e3
  | false => .ok (.d (.bool false)) e2 := rfl
@[simp] theorem evIs_eq : evIs ea env = (ea env).bind fun r e => ofO (boolD r) e := rfl
@[simp] theorem boolD_b {b : Bool} : boolD (.d (.bool b)) = some b := rfl
@[simp] theorem evAnd_eq : evAnd ta tb env = (ta env).bind fun b e => match b with
  | true => tb e
  | false => .ok false e := rfl
@[simp] theorem evOr_eq : evOr ta tb env = (ta env).bind fun b e => match b with
  | true => .ok true e
  | false => tb e := rfl
@[simp] theorem evNot_eq : evNot ta env = (ta env).bind fun b e => .ok (!b) e := rfl
@[simp] theorem evAndV_eq : evAndV ea eb env = (ea env).bind fun r e => (ofO (boolD r) e).bind fun b e => match b with
  | true => eb e
  | false => .ok (.d (.bool false)) e := rfl
@[simp] theorem evOrV_eq : evOrV ea eb env = (ea env).bind fun r e => (ofO (boolD r) e).bind fun b e => match b with
  | true => .ok (.d (.bool true)) e
  | false => eb e := rfl
@[simp] theorem evNotV_eq : evNotV ea env = (ea env).bind fun r e => (ofO (boolD r) e).bind fun b e => .ok (.d (.bool (!b))) e := rfl
@[simp] theorem evIf_eq : evIf ta ea eb env = (ta env).bind fun b e => match b with
  | true => ea e
  | false => eb e := rfl
@[simp] theorem evNil_eq : evNil env = .ok [] env := rfl
@[simp] theorem evCons_eq : evCons ea er env = (evD ea env).bind fun x e1 => (er e1).bind fun xs e2 => .ok (x :: xs) e2 := rfl
@[simp] theorem evTup_eq : evTup er env = (er env).bind fun xs e => if sz xs.length then .ok (.d (.tuple xs)) e else .bad := rfl
@[simp] theorem evLst_eq : evLst er env = (er env).bind fun xs e => if sz xs.length then .ok (.o (.list xs)) e else .bad := rfl
@[simp] theorem evIdx_eq {ed : EvD} : evIdx ed eb env = (ed env).bind fun x e1 => (evD eb e1).bind fun y e2 => ofO ((idxD x y).map .d) e2 := rfl
@[simp] theorem evIdxV_eq : evIdxV i eb env = (evBor i env).bind fun _ env => (evD eb env).bind fun y e => (evBor i e).bind fun x e => ofO ((idxD x y).map .d) e := rfl
@[simp] theorem evSlc_eq {el eh : Env → Rs (Option Int)} : evSlc ea el eh env = (evD ea env).bind fun x e1 => (el e1).bind fun l e2 => (eh e2).bind fun u e3 => ofO (slcD x l u) e3 := rfl
@[simp] theorem evPart_eq : evPart ea env = (evD ea env).bind fun x e => match x with
  | .int i => .ok (some i) e
  | _ => .bad := rfl
@[simp] theorem evNoPart_eq : evNoPart env = .ok none env := rfl
@[simp] theorem evCallB_eq {f : Bf} : evCallB f er env = (er env).bind fun xs e => ofO (callD f xs) e := rfl
@[simp] theorem evCallV_eq {f : Bf} : evCallV f i env = (evBor i env).bind fun x e => (ofO (callD f [x]) e).bind fun r e => if flatA r then .ok r e else .bad := rfl
@[simp] theorem evIsi_eq {ts : List Tk} : evIsi ts ea env = (evD ea env).bind fun x e => .ok (.d (.bool (ts.any fun t => isiD x t))) e := rfl
@[simp] theorem evMth_eq {m : Mt} : evMth m ea er env = (evD ea env).bind fun x e => match x with
  | .str s => (er e).bind fun xs e => ofO (mthD m s xs) e
  | _ => .bad := rfl
@[simp] theorem evIt_eq : evIt ea env = (evD ea env).bind fun x e => ofO (itemsD x) e := rfl
@[simp] theorem evTru_eq : evTru ea env = (evD ea env).bind fun x e => ofO (truD x) e := rfl
@[simp] theorem truD_b {b : Bool} : truD (.bool b) = some b := rfl
@[simp] theorem evCall_eq {run : Pd.Run} : evCall n run er env = (er env).bind fun xs e => if xs.length = n then runD run xs e else .bad := rfl
@[simp] theorem evCallN_eq {run : Pd.Run} : evCallN n run er env = (er env).bind fun xs e => if xs.length = n ∧ noLists xs = true then runN run xs e else .bad := rfl
@[simp] theorem evCallK_eq {run : Pd.Run} {m : Nat} {idx : List Nat} : evCallK n run m idx er env = (er env).bind fun xs e => if xs.length = m ∧ (perm idx xs).length = n then runD run (perm idx xs) e else .bad := rfl
@[simp] theorem perm_one : perm [0] [x] = [x] := rfl
@[simp] theorem evNx_eq : evNx env = .nx env := rfl
@[simp] theorem evSeq_eq {s t : EvS} : evSeq s t env = match s env with
  | .nx e => t e
  | r => r := rfl
@[simp] theorem evRet_eq : evRet ea env = (ea env).go fun r e => .rt r e := rfl
@[simp] theorem evDrop_eq : evDrop ea env = (ea env).go fun _ e => .nx e := rfl
@[simp] theorem evIfS_eq {t u : EvS} : evIfS ta t u env = (ta env).go fun b e => match b with
  | true => t e
  | false => u e := rfl
@[simp] theorem evSet_eq : evSet i ea env = (ea env).go fun r e => if i < e.length then .nx (e.set i (slA r)) else .bad := rfl
@[simp] theorem evFor_eq {ei : Env → Rs (List D)} {et : D → Env → Option Env} {b : EvS} : evFor ei et b env = (ei env).go fun items e => forL et b items e := rfl
@[simp] theorem evComp_eq {ei : Env → Rs (List D)} {et : D → Env → Option Env} {tt : EvB} {te : EvE} {vs : List Nat} : evComp ei et tt te vs env = (ei env).bind fun items e =>
  if noOwn e vs && sz items.length then match compL et tt te vs items (wipeE e vs) with
    | some q => .ok (.o (.list q.1)) (putB e q.2 vs)
    | none => .bad
  else .bad := rfl
@[simp] theorem gN_eq : gN i x env = if i < env.length then some (env.set i (.d x)) else none := rfl
@[simp] theorem evAsg_eq {et : D → Env → Option Env} : evAsg ea et env = (evD ea env).go fun x e => match et x e with
  | some e' => .nx e'
  | none => .bad := rfl
theorem sz_le (h : n ≤ 1000000) : sz n = true := Nat.ble_eq_true_of_le h
end
/-- a comprehension that takes all -/
theorem compL_map {et : D → Env → Option Env} {tt : EvB} {te : EvE} {vs : List Nat} {e0 : Env} (f : D → D) : ∀ (items : List D), (∀ x ∈ items, ∃ e1 e2 e3, et x e0 = some e1 ∧ tt e1 = .ok true e2 ∧ evD te e2 = .ok (f x) e3 ∧ wipeE e3 vs = e0) → compL et tt te vs items e0 = some (items.map f, e0)
  | [], _ => rfl
  | x :: r, h => by
    obtain ⟨e1, e2, e3, h1, h2, h3, h4⟩ := h x List.mem_cons_self
    have ih := compL_map (vs := vs) f r fun y hy => h y (List.mem_cons_of_mem _ hy)
    unfold compL
    simp only [h1, h2, h3, h4, ih, List.map_cons]
theorem asBools_map {α : Type} (p : α → Bool) : ∀ l : List α, asBools (l.map fun c => .bool (p c)) = some (l.map p)
  | [] => rfl
  | c :: l => by
    rw [List.map_cons, List.map_cons]
    show (asBools (l.map fun c => .bool (p c))).map (p c :: ·) = _
    rw [asBools_map p l]
    rfl
theorem all_map_id {α : Type} (p : α → Bool) (l : List α) : (l.map p).all id = l.all p := by
  rw [List.all_map]
  rfl
abbrev S (l : List Nat) : D := .str (mkS l)
@[simp] theorem tl_mk (l : List Nat) : tl (mkS l) = l := rfl
end Pd
set_option Elab.async false
set_option linter.all false
set_option maxRecDepth 100000
set_option maxHeartbeats 2000000
namespace Pd
open PySem PySem.Spec PyProof.Rows L2

/-! ### values' operations, by simp -/
section
variable {x y z : D} {ds r : List D} {kvs : List (D × D)} {k : Str} {i j : Int} {n : Nat} {e : Env}
theorem atI_nat {α : Type} {l : List α} {i : Nat} : atI l (i : Int) = l[i]? := by
  unfold atI ixN
  by_cases h : i < l.length
  · simp [h]
  · simp [h, List.getElem?_eq_none (Nat.le_of_not_lt h)]
@[simp] theorem atI_0 {α : Type} {l : List α} : atI l 0 = l[0]? := atI_nat (i := 0)
@[simp] theorem atI_1 {α : Type} {l : List α} : atI l 1 = l[1]? := atI_nat (i := 1)
@[simp] theorem atI_2 {α : Type} {l : List α} : atI l 2 = l[2]? := atI_nat (i := 2)
@[simp] theorem idx_tup : idxD (.tuple ds) (.int i) = atI ds i := rfl
@[simp] theorem idx_lst : idxD (.list ds) (.int i) = atI ds i := rfl
@[simp] theorem idx_dct : idxD (.dict kvs) (.str k) = lookD kvs k := rfl
@[simp] theorem len_tup : callD .len [.tuple ds] = some (.d (.int (ds.length : Nat))) := rfl
@[simp] theorem len_lst : callD .len [.list ds] = some (.d (.int (ds.length : Nat))) := rfl
@[simp] theorem flatA_int : flatA (.d (.int i)) = true := rfl
@[simp] theorem isi_tt : isiD (.tuple ds) .tuple = true := rfl
@[simp] theorem isi_ss : isiD (.str k) .str = true := rfl
@[simp] theorem is_none_none : cmpD .Is .none .none = some true := rfl
@[simp] theorem isnot_none_none : cmpD .IsNot .none .none = some false := rfl
@[simp] theorem is_none_tup : cmpD .Is (.tuple ds) .none = some false := rfl
@[simp] theorem isnot_none_tup : cmpD .IsNot (.tuple ds) .none = some true := rfl
@[simp] theorem is_none_lst : cmpD .Is (.list ds) .none = some false := rfl
@[simp] theorem isnot_none_lst : cmpD .IsNot (.list ds) .none = some true := rfl
@[simp] theorem is_none_dct : cmpD .Is (.dict kvs) .none = some false := rfl
@[simp] theorem isnot_none_dct : cmpD .IsNot (.dict kvs) .none = some true := rfl
@[simp] theorem lt_int : cmpD .Lt (.int i) (.int j) = some (decide (i < j)) := rfl
@[simp] theorem le_int : cmpD .LtE (.int i) (.int j) = some (decide (i ≤ j)) := rfl
@[simp] theorem gt_int : cmpD .Gt (.int i) (.int j) = some (decide (j < i)) := rfl
@[simp] theorem ge_int : cmpD .GtE (.int i) (.int j) = some (decide (j ≤ i)) := rfl
theorem shaped_int (i : Int) : SeqAt.shaped (.int i) = true := rfl
@[simp] theorem eq_int : cmpD .Eq (.int i) (.int j) = some (decide (i = j)) := by
  show (if SeqAt.shaped (.int i) && SeqAt.shaped (.int j) then some (PyData.eqv (.int i) (.int j)) else none) = _
  rw [shaped_int, shaped_int, if_pos (show (true && true) = true from rfl)]
  show some (i == j) = _
  by_cases h : i = j <;> simp [h]
@[simp] theorem add_int : binD .Add (.int i) (.int j) = some (.d (.int (i + j))) := rfl
@[simp] theorem sub_int : binD .Sub (.int i) (.int j) = some (.d (.int (i - j))) := rfl
theorem outs_nil {e : Env} : outs [] n e = List.replicate n .u := by
  unfold outs
  simp [List.map_const']
/-- what a def gives to a caller that hands data -/
def rtE (t : Rt) (env : Env) : Rs Ar := match t with
  | .rt r _ => .ok r env
  | .nx _ => .ok (.d .none) env
  | .ex x _ => .ex x env
  | _ => .bad
theorem runD_eq {np : Nat} {pin : List Nat} {code : EvS} {xs : List D} {env : Env} : runD (runB np n pin code) xs env = rtE (code (xs.map .d ++ List.replicate (n - np) .u)) env := by
  unfold runD runB
  cases code (xs.map .d ++ List.replicate (n - np) .u) <;> rfl
@[simp] theorem rtE_rt {a : Ar} {e env : Env} : rtE (.rt a e) env = .ok a env := rfl
@[simp] theorem rtE_nx {e env : Env} : rtE (.nx e) env = .ok (.d .none) env := rfl
end
end Pd
set_option Elab.async false
set_option linter.all false
set_option maxRecDepth 100000
set_option maxHeartbeats 4000000
namespace K93
open PySem PySem.Spec PyProof.Rows L2 Pd
def code_is_integer : EvS := (evRet (evAndV (evIsi [.int] (evVar 0)) (evNotV (evIsi [.bool] (evVar 0)))))
def run_is_integer : Pd.Run := runB 1 1 [] code_is_integer
def code_is_within : EvS := (evRet (evAndV (evCall 1 run_is_integer (evCons (evVar 0) evNil)) (evChn (cmpD .LtE) (cmpD .LtE) (evVar 1) (evVar 0) (evVar 2))))
def run_is_within : Pd.Run := runB 3 3 [] code_is_within
def code_is_tuple : EvS := (evRet (evAndV (evIsi [.tuple] (evVar 0)) (evCmp (cmpD .Eq) (evCallV .len 0) (evVar 1))))
def run_is_tuple : Pd.Run := runB 2 2 [] code_is_tuple
def code_are_signs : EvS := (evRet (evAndV (evIsi [.str] (evVar 0)) (evCallB .all (evCons (evComp (evIt (evVar 0)) (gN 1) (fun env => .ok true env) (evChn (cmpD .LtE) (cmpD .LtE) (evC (.str " ")) (evVar 1) (evC (.str "~"))) [1]) evNil))))
def run_are_signs : Pd.Run := runB 1 2 [] code_are_signs
def code_is_device_any : EvS := (evSeq (evIfS (evOr (evNot (evTru (evCall 2 run_is_tuple (evCons (evVar 0) (evCons (evC (.int 2)) evNil))))) (evNot (evTru (evCallB .all (evCons (evComp (evIt (evVar 0)) (gN 1) (fun env => .ok true env) (evCall 1 run_are_signs (evCons (evVar 1) evNil)) [1]) evNil))))) (evRet (evC (.bool false))) evNx) (evRet (evAndV (evCmp (cmpD .Eq) (evCallB .len (evCons (evIdxV 0 (evC (.int 0))) evNil)) (evCallB .len (evCons (evIdxV 0 (evC (.int 1))) evNil))) (evChn (cmpD .LtE) (cmpD .LtE) (evC (.int 60)) (evCallB .len (evCons (evIdxV 0 (evC (.int 0))) evNil)) (evC (.int 2000))))))
def run_is_device_any : Pd.Run := runB 1 2 [] code_is_device_any
def code_is_short_name : EvS := (evSeq (evIfS (evOr (evNot (evTru (evIsi [.str] (evVar 0)))) (evNot (evIs (evChn (cmpD .LtE) (cmpD .LtE) (evC (.int 1)) (evCallV .len 0) (evC (.int 12)))))) (evRet (evC (.bool false))) evNx) (evRet (evCallB .all (evCons (evComp (evIt (evVar 0)) (gN 1) (fun env => .ok true env) (evCmp (cmpD .In) (evVar 1) (evC (.str "abcdefghijklmnopqrstuvwxyz"))) [1]) evNil))))
def run_is_short_name : Pd.Run := runB 1 2 [] code_is_short_name
def code_is_entry_any : EvS := (evSeq (evIfS (evOr (evNot (evTru (evIsi [.tuple] (evVar 0)))) (evOr (evIs (evCmp (cmpD .NotIn) (evCallV .len 0) (evTup (evCons (evC (.int 2)) (evCons (evC (.int 3)) evNil))))) (evNot (evTru (evIsi [.str] (evIdxV 0 (evC (.int 0)))))))) (evRet (evC (.bool false))) evNx) (evSeq (evIfS (evNot (evTru (evCall 1 run_is_short_name (evCons (evIdxV 0 (evC (.int 1))) evNil)))) (evRet (evC (.bool false))) evNx) (evSeq (evIfS (evIs (evCmp (cmpD .Eq) (evCallV .len 0) (evC (.int 2)))) (evRet (evCmp (cmpD .Eq) (evIdxV 0 (evC (.int 0))) (evC (.str "close")))) evNx) (evSeq (evIfS (evIs (evCmp (cmpD .Eq) (evIdxV 0 (evC (.int 0))) (evC (.str "open")))) (evRet (evCall 1 run_is_short_name (evCons (evIdxV 0 (evC (.int 2))) evNil))) evNx) (evRet (evAndV (evCmp (cmpD .Eq) (evIdxV 0 (evC (.int 0))) (evC (.str "call"))) (evAndV (evCall 1 run_are_signs (evCons (evIdxV 0 (evC (.int 2))) evNil)) (evCmp (cmpD .LtE) (evCallB .len (evCons (evIdxV 0 (evC (.int 2))) evNil)) (evC (.int 40))))))))))
def run_is_entry_any : Pd.Run := runB 1 1 [] code_is_entry_any
def code_row_told : EvS := (evSeq (evSet 1 (evMth .join (evC (.str " ")) (evCons (evVar 0) evNil))) (evRet (evBin (binD .Add) (evJoin [(evFv (evC (.str "+"))), (evFz 3 (evCallV .len 1))]) (evVar 1))))
def run_row_told : Pd.Run := runB 1 2 [] code_row_told
def code_are_figures : EvS := (evRet (evCallB .all (evCons (evComp (evIt (evVar 0)) (gN 1) (fun env => .ok true env) (evCmp (cmpD .In) (evVar 1) (evC (.str "0123456789"))) [1]) evNil)))
def run_are_figures : Pd.Run := runB 1 2 [] code_are_figures
def code_entry_at : EvS := (evSeq (evSet 2 (evSlc (evVar 0) (evPart (evBin (binD .Add) (evVar 1) (evC (.int 1)))) (evPart (evBin (binD .Add) (evVar 1) (evC (.int 4)))))) (evSeq (evIfS (evOr (evIs (evCmp (cmpD .NotEq) (evSlc (evVar 0) (evPart (evVar 1)) (evPart (evBin (binD .Add) (evVar 1) (evC (.int 1))))) (evC (.str "+")))) (evOr (evIs (evCmp (cmpD .Lt) (evCallV .len 2) (evC (.int 3)))) (evNot (evTru (evCall 1 run_are_figures (evCons (evVar 2) evNil)))))) (evRet (evC .none)) evNx) (evSeq (evSet 3 (evSlc (evVar 0) (evPart (evBin (binD .Add) (evVar 1) (evC (.int 4)))) (evPart (evBin (binD .Add) (evBin (binD .Add) (evVar 1) (evC (.int 4))) (evCallB .int (evCons (evVar 2) evNil)))))) (evSeq (evSet 4 (evCallB .tuple (evCons (evMth .split (evVar 3) (evCons (evC (.str " ")) (evCons (evC (.int 2)) evNil))) evNil))) (evSeq (evIfS (evOr (evIs (evCmp (cmpD .Lt) (evCallV .len 3) (evCallB .int (evCons (evVar 2) evNil)))) (evNot (evTru (evCall 1 run_is_entry_any (evCons (evVar 4) evNil))))) (evRet (evC .none)) evNx) (evRet (evVar 4)))))))
def run_entry_at : Pd.Run := runB 2 5 [] code_entry_at
def code_rows_from : EvS := (evSeq (evPar [2, 3] (evConsO (evLst evNil) (evConsO (evC (.int 10)) evNilO))) (evSeq (evSet 1 (evCall 2 run_entry_at (evCons (evVar 0) (evCons (evVar 3) evNil)))) (evSeq (evWhl 4000 (evIs (evCmp (cmpD .IsNot) (evVar 1) (evC .none))) (evSeq (evApp 2 (evVar 1)) (evSeq (evSet 3 (evBin (binD .Add) (evVar 3) (evCallB .len (evCons (evCall 1 run_row_told (evCons (evVar 1) evNil)) evNil)))) (evSet 1 (evCall 2 run_entry_at (evCons (evVar 0) (evCons (evVar 3) evNil))))))) (evRet (evTup (evCons (evVar 2) (evCons (evVar 3) evNil)))))))
def run_rows_from : Pd.Run := runB 1 4 [] code_rows_from
def code_behind_entry : EvS := (evSeq (evPar [2, 3, 4] (evConsO (evIdxV 1 (evC (.int 0))) (evConsO (evIdxV 1 (evC (.int 1))) (evConsO (evCallB .dict (evCons (evVar 0) evNil)) evNilO)))) (evSeq (evIfS (evIs (evCmp (cmpD .Eq) (evVar 2) (evC (.str "open")))) (evSeq (evIfS (evIs (evCmpB (cmpD .In) (evVar 3) (evBor 4))) (fun _ => .bad) evNx) (evSeq (evPut 4 (evVar 3) (evTup (evCons (evIdxV 1 (evC (.int 2))) (evCons (evTup evNil) evNil)))) (evRet (evVar 4)))) evNx) (evSeq (evIfS (evIs (evCmpB (cmpD .NotIn) (evVar 3) (evBor 4))) (fun _ => .bad) evNx) (evSeq (evIfS (evIs (evCmp (cmpD .Eq) (evVar 2) (evC (.str "call")))) (evPut 4 (evVar 3) (evTup (evCons (evIdx (evD (evIdxV 4 (evVar 3))) (evC (.int 0))) (evCons (evBin (binD .Add) (evIdx (evD (evIdxV 4 (evVar 3))) (evC (.int 1))) (evTup (evCons (evIdxV 1 (evC (.int 2))) evNil))) evNil)))) (evPopK 4 (evVar 3))) (evRet (evVar 4))))))
def run_behind_entry : Pd.Run := runB 2 5 [] code_behind_entry
def code_behind_all : EvS := (evSeq (evSet 1 evDNew) (evSeq (evFor (evIt (evVar 0)) (gN 2) (evSeq (evIfS (evIs (evCmp (cmpD .Eq) (evCmpB (cmpD .In) (evIdxV 2 (evC (.int 1))) (evBor 1)) (evCmp (cmpD .Eq) (evIdxV 2 (evC (.int 0))) (evC (.str "open"))))) (evRet (evC .none)) evNx) (evSet 1 (evCall 2 run_behind_entry (evCons (evVar 1) (evCons (evVar 2) evNil)))))) (evRet (evVar 1))))
def run_behind_all : Pd.Run := runB 1 3 [] code_behind_all
def code_listed : EvS := (evRet (evCallB .sorted (evCons (evCompI 0 (gT [(gN 1), (gT [(gN 2), (gN 3)])]) (fun env => .ok true env) (evTup (evCons (evVar 1) (evCons (evVar 2) (evCons (evVar 3) evNil)))) [1, 2, 3]) evNil)))
def run_listed : Pd.Run := runB 1 4 [] code_listed
def code_log_on : EvS := (evSeq (evSet 2 (evIdxV 0 (evVar 1))) (evSeq (evIfS (evOr (evIs (evCmp (cmpD .NotEq) (evIdxV 2 (evC (.int 0))) (evC (.str "+")))) (evNot (evTru (evCall 1 run_are_figures (evCons (evSlc (evVar 2) (evPart (evC (.int 1))) (evPart (evC (.int 10)))) evNil))))) (evRet (evC .none)) evNx) (evSeq (evAsg (evCall 1 run_rows_from (evCons (evVar 2) evNil)) (gT [(gN 4), (gN 5)])) (evSeq (evSet 3 (evCall 1 run_behind_all (evCons (evVar 4) evNil))) (evSeq (evIfS (evIs (evCmp (cmpD .Is) (evVar 3) (evC .none))) (evRet (evC .none)) evNx) (evRet (evDsp [("tape", (evVar 1)), ("turn", (evCallB .int (evCons (evSlc (evVar 2) (evPart (evC (.int 1))) (evPart (evC (.int 10)))) evNil))), ("entries", (evVar 4)), ("end", (evVar 5)), ("fields", (evVar 3))])))))))
def run_log_on : Pd.Run := runB 2 6 [] code_log_on
def code_read_store : EvS := (evSeq (evPar [1, 2] (evConsO (evCall 2 run_log_on (evCons (evVar 0) (evCons (evC (.int 0)) evNil))) (evConsO (evCall 2 run_log_on (evCons (evVar 0) (evCons (evC (.int 1)) evNil))) evNilO))) (evSeq (evIfS (evOr (evIs (evCmp (cmpD .Is) (evVar 1) (evC .none))) (evIs (evCmp (cmpD .Is) (evVar 2) (evC .none)))) (evRet (evIf (evIs (evCmp (cmpD .Is) (evVar 1) (evC .none))) (evVar 2) (evVar 1))) evNx) (evRet (evIf (evIs (evCmp (cmpD .Gt) (evIdxV 2 (evC (.str "turn"))) (evIdxV 1 (evC (.str "turn"))))) (evVar 2) (evVar 1)))))
def run_read_store : Pd.Run := runB 1 3 [] code_read_store
def code_room_in : EvS := (evRet (evBin (binD .Sub) (evCallB .len (evCons (evIdxV 0 (evC (.int 0))) evNil)) (evIdxV 1 (evC (.str "end")))))
def run_room_in : Pd.Run := runB 2 2 [] code_room_in
def code_want_store : EvS := (evSeq (evSet 1 (evIf (evTru (evCall 1 run_is_device_any (evCons (evVar 0) evNil))) (evCall 1 run_read_store (evCons (evVar 0) evNil)) (evC .none))) (evSeq (evIfS (evIs (evCmp (cmpD .Is) (evVar 1) (evC .none))) (fun _ => .bad) evNx) (evRet (evVar 1))))
def run_want_store : Pd.Run := runB 1 2 [] code_want_store
def code_new_store : EvS := (evSeq (evIfS (evNot (evTru (evCall 3 run_is_within (evCons (evVar 0) (evCons (evC (.int 60)) (evCons (evC (.int 2000)) evNil)))))) (fun _ => .bad) evNx) (evRet (evTup (evCons (evBin (binD .Add) (evBin (binD .Add) (evC (.str "+")) (evBin (binD .Mult) (evC (.str "0")) (evBin (binD .Sub) (evC (.int 10)) (evC (.int 1))))) (evBin (binD .Mult) (evC (.str "~")) (evBin (binD .Sub) (evVar 0) (evC (.int 10))))) (evCons (evBin (binD .Mult) (evC (.str "~")) (evVar 0)) evNil)))))
def run_new_store : Pd.Run := runB 1 1 [] code_new_store
def code_is_store : EvS := (evRet (evAndV (evCall 1 run_is_device_any (evCons (evVar 0) evNil)) (evCmp (cmpD .IsNot) (evCall 1 run_read_store (evCons (evVar 0) evNil)) (evC .none))))
def run_is_store : Pd.Run := runB 1 1 [] code_is_store
def code_kept : EvS := (evRet (evCall 1 run_listed (evCons (evIdx (evD (evCall 1 run_want_store (evCons (evVar 0) evNil))) (evC (.str "fields"))) evNil)))
def run_kept : Pd.Run := runB 1 1 [] code_kept
def code_turn_of : EvS := (evRet (evIdx (evD (evCall 1 run_want_store (evCons (evVar 0) evNil))) (evC (.str "turn"))))
def run_turn_of : Pd.Run := runB 1 1 [] code_turn_of
def code_room : EvS := (evRet (evCall 2 run_room_in (evCons (evVar 0) (evCons (evCall 1 run_want_store (evCons (evVar 0) evNil)) evNil))))
def run_room : Pd.Run := runB 1 1 [] code_room
def code_entries_in : EvS := (evRet (evIdx (evD (evCall 1 run_want_store (evCons (evVar 0) evNil))) (evC (.str "entries"))))
def run_entries_in : Pd.Run := runB 1 1 [] code_entries_in
def code__law_pot : EvS := (evSeq (evSet 2 (evIf (evIs (evCmp (cmpD .Lt) (evVar 1) (evScrLen 0))) (evCallB .abs (evCons (evScrIdx 0 (evVar 1)) evNil)) (evBin (binD .Add) (evBin (binD .Add) (evBin (binD .Mult) (evC (.int 6101)) (evVar 1)) (evC (.int 1087))) (evCallB .int (evCons (evBin (binD .Mod) (evCallB .sum (evCons (evComp (evItScr 0) (gN 3) (fun env => .ok true env) (evCallB .abs (evCons (evVar 3) evNil)) [3]) evNil)) (evC (.int 1000003))) evNil))))) (evRet (evLst (evCons (evCallB .max2 (evCons (evC (.int 0)) (evCons (evBin (binD .Sub) (evVar 2) (evBin (binD .Pow) (evC (.int 10)) (evC (.int 18)))) evNil))) (evCons (evBin (binD .Add) (evBin (binD .Mod) (evCallB .int (evCons (evBin (binD .Add) (evBin (binD .Add) (evBin (binD .Mult) (evBin (binD .Mod) (evCallB .int (evCons (evVar 2) evNil)) (evC (.int 2147483549))) (evC (.int 42179))) (evBin (binD .Mult) (evC (.int 11071)) (evVar 1))) (evC (.int 67))) evNil)) (evC (.int 2147483563))) (evC (.int 1))) evNil)))))
def run__law_pot : Pd.Run := runB 2 4 [0] code__law_pot
def code__law_draw : EvS := (evSeq (evIfS (evIs (evCmp (cmpD .Gt) (evIdxV 0 (evC (.int 0))) (evC (.int 0)))) (evSeq (evAsg (evCallB .divmod (evCons (evIdxV 0 (evC (.int 0))) (evCons (evVar 1) evNil))) (gT [(gPut 0 (evC (.int 0))), (gN 2)])) (evRet (evVar 2))) evNx) (evSeq (evPut 0 (evC (.int 1)) (evBin (binD .Mod) (evCallB .int (evCons (evBin (binD .Add) (evBin (binD .Mult) (evIdxV 0 (evC (.int 1))) (evC (.int 39373))) (evC (.int 11083))) evNil)) (evC (.int 2147483587)))) (evRet (evBin (binD .Mod) (evCallB .int (evCons (evBin (binD .FloorDiv) (evBin (binD .Mod) (evCallB .int (evCons (evBin (binD .Mult) (evIdxV 0 (evC (.int 1))) (evIdxV 0 (evC (.int 1)))) evNil)) (evC (.int 2147483549))) (evC (.int 19))) evNil)) (evVar 1)))))
def run__law_draw : Pd.Run := runB 2 3 [0] code__law_draw
def code__law_pick : EvS := (evRet (evIdxV 1 (evCallG 2 run__law_draw (agV 0 (agD (evCallV .len 1) agN)))))
def run__law_pick : Pd.Run := runB 2 2 [0] code__law_pick
def code__law_is_name : EvS := (evRet (evAndV (evIsi [.str] (evVar 0)) (evAndV (evChn (cmpD .LtE) (cmpD .LtE) (evC (.int 1)) (evCallV .len 0) (evC (.int 12))) (evCallB .all (evCons (evComp (evIt (evVar 0)) (gN 1) (fun env => .ok true env) (evChn (cmpD .LtE) (cmpD .LtE) (evC (.str "a")) (evVar 1) (evC (.str "z"))) [1]) evNil)))))
def run__law_is_name : Pd.Run := runB 1 2 [] code__law_is_name
def code__law_is_signs : EvS := (evRet (evAndV (evIsi [.str] (evVar 0)) (evCallB .all (evCons (evComp (evIt (evVar 0)) (gN 1) (fun env => .ok true env) (evChn (cmpD .LtE) (cmpD .LtE) (evC (.str " ")) (evVar 1) (evC (.str "~"))) [1]) evNil))))
def run__law_is_signs : Pd.Run := runB 1 2 [] code__law_is_signs
def code__law_is_entry : EvS := (evSeq (evIfS (evOr (evNot (evTru (evIsi [.tuple] (evVar 0)))) (evOr (evIs (evCmp (cmpD .NotIn) (evCallV .len 0) (evTup (evCons (evC (.int 2)) (evCons (evC (.int 3)) evNil))))) (evOr (evNot (evTru (evIsi [.str] (evIdxV 0 (evC (.int 0)))))) (evNot (evTru (evCall 1 run__law_is_name (evCons (evIdxV 0 (evC (.int 1))) evNil))))))) (evRet (evC (.bool false))) evNx) (evSeq (evIfS (evOr (evIs (evCmp (cmpD .Eq) (evCallV .len 0) (evC (.int 2)))) (evIs (evCmp (cmpD .NotIn) (evIdxV 0 (evC (.int 0))) (evTup (evCons (evC (.str "open")) (evCons (evC (.str "call")) evNil)))))) (evRet (evAndV (evCmp (cmpD .Eq) (evCallV .len 0) (evC (.int 2))) (evCmp (cmpD .Eq) (evIdxV 0 (evC (.int 0))) (evC (.str "close"))))) evNx) (evRet (evIf (evIs (evCmp (cmpD .Eq) (evIdxV 0 (evC (.int 0))) (evC (.str "open")))) (evCall 1 run__law_is_name (evCons (evIdxV 0 (evC (.int 2))) evNil)) (evAndV (evCall 1 run__law_is_signs (evCons (evIdxV 0 (evC (.int 2))) evNil)) (evCmp (cmpD .LtE) (evCallB .len (evCons (evIdxV 0 (evC (.int 2))) evNil)) (evC (.int 40))))))))
def run__law_is_entry : Pd.Run := runB 1 1 [] code__law_is_entry
def code__law_row : EvS := (evSeq (evSet 1 (evIdxV 0 (evC (.int 0)))) (evSeq (evFor (evIt (evSlc (evVar 0) (evPart (evC (.int 1))) evNoPart)) (gN 2) (evSet 1 (evBin (binD .Add) (evBin (binD .Add) (evVar 1) (evC (.str " "))) (evVar 2)))) (evRet (evBin (binD .Add) (evBin (binD .Add) (evC (.str "+")) (evMth .zfill (evCallB .str (evCons (evCallV .len 1) evNil)) (evCons (evC (.int 3)) evNil))) (evVar 1)))))
def run__law_row : Pd.Run := runB 1 3 [] code__law_row
def code__law_bar : EvS := (evSeq (evIfS (evIs (evCmp (cmpD .Eq) (evIdxV 1 (evC (.int 0))) (evC (.str "open")))) (evRet (evIf (evIs (evCmpB (cmpD .In) (evIdxV 1 (evC (.int 1))) (evBor 0))) (evLst (evCons (evC (.str "taken")) (evCons (evIdxV 1 (evC (.int 1))) evNil))) (evC .none))) evNx) (evRet (evIf (evIs (evCmpB (cmpD .In) (evIdxV 1 (evC (.int 1))) (evBor 0))) (evC .none) (evLst (evCons (evC (.str "unknown")) (evCons (evIdxV 1 (evC (.int 1))) evNil))))))
def run__law_bar : Pd.Run := runB 2 2 [] code__law_bar
def code__law_behind : EvS := (evSeq (evPar [2, 3, 4] (evConsO (evCallB .dict (evCons (evVar 0) evNil)) (evConsO (evIdxV 1 (evC (.int 0))) (evConsO (evIdxV 1 (evC (.int 1))) evNilO)))) (evSeq (evIfS (evIs (evCmp (cmpD .Eq) (evVar 3) (evC (.str "open")))) (evPut 2 (evVar 4) (evTup (evCons (evIdxV 1 (evC (.int 2))) (evCons (evTup evNil) evNil)))) (evIfS (evIs (evCmp (cmpD .Eq) (evVar 3) (evC (.str "call")))) (evPut 2 (evVar 4) (evTup (evCons (evIdx (evD (evIdxV 2 (evVar 4))) (evC (.int 0))) (evCons (evBin (binD .Add) (evIdx (evD (evIdxV 2 (evVar 4))) (evC (.int 1))) (evTup (evCons (evIdxV 1 (evC (.int 2))) evNil))) evNil)))) (evPopK 2 (evVar 4)))) (evRet (evVar 2))))
def run__law_behind : Pd.Run := runB 2 5 [] code__law_behind
def code__law_listed : EvS := (evRet (evCallB .sorted (evCons (evCompI 0 (gT [(gN 1), (gN 2)]) (fun env => .ok true env) (evTup (evCons (evVar 1) (evCons (evIdxV 2 (evC (.int 0))) (evCons (evIdxV 2 (evC (.int 1))) evNil)))) [1, 2]) evNil)))
def run__law_listed : Pd.Run := runB 1 3 [] code__law_listed
def code__law_row_in : EvS := (evSeq (evSet 2 (evSlc (evVar 0) (evPart (evBin (binD .Add) (evVar 1) (evC (.int 1)))) (evPart (evBin (binD .Add) (evVar 1) (evC (.int 4)))))) (evSeq (evIfS (evOr (evIs (evCmp (cmpD .NotEq) (evSlc (evVar 0) (evPart (evVar 1)) (evPart (evBin (binD .Add) (evVar 1) (evC (.int 1))))) (evC (.str "+")))) (evOr (evIs (evCmp (cmpD .Lt) (evCallV .len 2) (evC (.int 3)))) (evNot (evTru (evCallB .all (evCons (evComp (evIt (evVar 2)) (gN 6) (fun env => .ok true env) (evChn (cmpD .LtE) (cmpD .LtE) (evC (.str "0")) (evVar 6) (evC (.str "9"))) [6]) evNil)))))) (evRet (evC .none)) evNx) (evSeq (evSet 3 (evSlc (evVar 0) (evPart (evBin (binD .Add) (evVar 1) (evC (.int 4)))) (evPart (evBin (binD .Add) (evBin (binD .Add) (evVar 1) (evC (.int 4))) (evCallB .int (evCons (evVar 2) evNil)))))) (evSeq (evSet 4 (evMth .split (evVar 3) (evCons (evC (.str " ")) evNil))) (evSeq (evSet 5 (evIf (evIs (evCmp (cmpD .Gt) (evCallV .len 4) (evC (.int 2)))) (evTup (evCons (evIdxV 4 (evC (.int 0))) (evCons (evIdxV 4 (evC (.int 1))) (evCons (evMth .join (evC (.str " ")) (evCons (evSlc (evVar 4) (evPart (evC (.int 2))) evNoPart) evNil)) evNil)))) (evCallB .tuple (evCons (evVar 4) evNil)))) (evRet (evIf (evAnd (evIs (evCmp (cmpD .Eq) (evCallV .len 3) (evCallB .int (evCons (evVar 2) evNil)))) (evTru (evCall 1 run__law_is_entry (evCons (evVar 5) evNil)))) (evTup (evCons (evVar 5) (evCons (evBin (binD .Add) (evC (.int 4)) (evCallB .int (evCons (evVar 2) evNil))) evNil))) (evC .none))))))))
def run__law_row_in : Pd.Run := runB 2 7 [] code__law_row_in
def code__law_log : EvS := (evSeq (evIfS (evOr (evIs (evCmp (cmpD .NotEq) (evIdxV 0 (evC (.int 0))) (evC (.str "+")))) (evNot (evTru (evCallB .all (evCons (evComp (evIt (evSlc (evVar 0) (evPart (evC (.int 1))) (evPart (evC (.int 10))))) (gN 6) (fun env => .ok true env) (evChn (cmpD .LtE) (cmpD .LtE) (evC (.str "0")) (evVar 6) (evC (.str "9"))) [6]) evNil))))) (evRet (evC .none)) evNx) (evSeq (evPar [3, 4, 5] (evConsO (evLst evNil) (evConsO (evC (.int 10)) (evConsO evDNew evNilO)))) (evSeq (evSet 1 (evCall 2 run__law_row_in (evCons (evVar 0) (evCons (evVar 4) evNil)))) (evSeq (evFor (evRng1 (evCons (evCallV .len 0) evNil)) (gN 2) (evIfS (evIs (evCmp (cmpD .IsNot) (evVar 1) (evC .none))) (evSeq (evIfS (evIs (evCmp (cmpD .IsNot) (evCall 2 run__law_bar (evCons (evVar 5) (evCons (evIdxV 1 (evC (.int 0))) evNil))) (evC .none))) (evRet (evC .none)) evNx) (evSeq (evPar [3, 4, 5] (evConsO (evBin (binD .Add) (evVar 3) (evLst (evCons (evIdxV 1 (evC (.int 0))) evNil))) (evConsO (evBin (binD .Add) (evVar 4) (evIdxV 1 (evC (.int 1)))) (evConsO (evCall 2 run__law_behind (evCons (evVar 5) (evCons (evIdxV 1 (evC (.int 0))) evNil))) evNilO)))) (evSet 1 (evCall 2 run__law_row_in (evCons (evVar 0) (evCons (evVar 4) evNil)))))) evNx)) (evRet (evDsp [("turn", (evCallB .int (evCons (evSlc (evVar 0) (evPart (evC (.int 1))) (evPart (evC (.int 10)))) evNil))), ("entries", (evVar 3)), ("end", (evVar 4)), ("fields", (evVar 5))]))))))
def run__law_log : Pd.Run := runB 1 7 [] code__law_log
def code__law_store : EvS := (evSeq (evPar [1, 2] (evConsO (evCall 1 run__law_log (evCons (evIdxV 0 (evC (.int 0))) evNil)) (evConsO (evCall 1 run__law_log (evCons (evIdxV 0 (evC (.int 1))) evNil)) evNilO))) (evSeq (evIfS (evAnd (evIs (evCmp (cmpD .IsNot) (evVar 2) (evC .none))) (evOr (evIs (evCmp (cmpD .Is) (evVar 1) (evC .none))) (evIs (evCmp (cmpD .Gt) (evIdxV 2 (evC (.str "turn"))) (evIdxV 1 (evC (.str "turn"))))))) (evRet (evVar 2)) evNx) (evRet (evVar 1))))
def run__law_store : Pd.Run := runB 1 3 [] code__law_store
def code__law_kept : EvS := (evSeq (evSet 1 (evCall 1 run__law_store (evCons (evVar 0) evNil))) (evRet (evIf (evIs (evCmp (cmpD .Is) (evVar 1) (evC .none))) (evC .none) (evCall 1 run__law_listed (evCons (evIdxV 1 (evC (.str "fields"))) evNil)))))
def run__law_kept : Pd.Run := runB 1 2 [] code__law_kept
def code__law_text : EvS := (evRet (evCallG 2 run__law_pick (agV 0 (agD (evLst (evCons (evC (.str "halt")) (evCons (evC (.str "march 4")) (evCons (evC (.str "")) (evCons (evC (.str "back to set one")) (evCons (evC (.str "+007close f")) (evCons (evC (.str "~")) (evCons (evC (.str "+")) (evCons (evC (.str "exchange ann bob")) (evCons (evBin (binD .Mult) (evC (.str "x")) (evC (.int 40))) (evCons (evC (.str " ")) evNil))))))))))) agN))))
def run__law_text : Pd.Run := runB 1 1 [0] code__law_text
def code__law_entry : EvS := (evSeq (evSet 2 (evLst (evCons (evC (.str "f")) (evCons (evC (.str "g")) (evCons (evC (.str "left")) evNil))))) (evSeq (evPar [4, 5, 6] (evConsO (evComp (evIt (evVar 2)) (gN 3) (evIs (evCmpB (cmpD .NotIn) (evVar 3) (evBor 1))) (evVar 3) [3]) (evConsO (evCallB .sorted (evCons (evVar 1) evNil)) (evConsO (evCallG 2 run__law_draw (agV 0 (agD (evC (.int 8)) agN))) evNilO)))) (evSeq (evIfS (evOr (evIs (evCmp (cmpD .Eq) (evVar 5) (evLst evNil))) (evAnd (evIs (evCmp (cmpD .NotEq) (evVar 4) (evLst evNil))) (evIs (evCmp (cmpD .Eq) (evVar 6) (evC (.int 0)))))) (evRet (evTup (evCons (evC (.str "open")) (evCons (evCallG 2 run__law_pick (agV 0 (agD (evVar 4) agN))) (evCons (evCallG 2 run__law_pick (agV 0 (agD (evLst (evCons (evC (.str "turn")) (evCons (evC (.str "d")) evNil))) agN))) evNil))))) evNx) (evSeq (evSet 3 (evCallG 2 run__law_pick (agV 0 (agD (evVar 5) agN)))) (evRet (evIf (evIs (evCmp (cmpD .Eq) (evVar 6) (evC (.int 1)))) (evTup (evCons (evC (.str "close")) (evCons (evVar 3) evNil))) (evTup (evCons (evC (.str "call")) (evCons (evVar 3) (evCons (evCallG 1 run__law_text (agV 0 agN)) evNil))))))))))
def run__law_entry : Pd.Run := runB 2 7 [0] code__law_entry
def code__law_hurt : EvS := (evSeq (evPar [2, 3] (evConsO (evCallG 2 run__law_draw (agV 0 (agD (evCallV .len 1) agN))) (evConsO (evCallG 2 run__law_pick (agV 0 (agD (evLst (evCons (evC (.str "~")) (evCons (evC (.str "0")) (evCons (evC (.str "1")) (evCons (evC (.str " ")) (evCons (evC (.str "+")) (evCons (evC (.str "a")) evNil))))))) agN))) evNilO))) (evRet (evCallG 2 run__law_pick (agV 0 (agD (evLst (evCons (evVar 1) (evCons (evVar 1) (evCons (evVar 1) (evCons (evVar 1) (evCons (evBin (binD .Add) (evBin (binD .Add) (evSlc (evVar 1) evNoPart (evPart (evVar 2))) (evVar 3)) (evSlc (evVar 1) (evPart (evBin (binD .Add) (evVar 2) (evC (.int 1)))) evNoPart)) (evCons (evBin (binD .Add) (evC (.str "~")) (evSlc (evVar 1) (evPart (evC (.int 1))) evNoPart)) (evCons (evSlc (evVar 1) evNoPart (evPart (evVar 2))) evNil)))))))) agN)))))
def run__law_hurt : Pd.Run := runB 2 4 [0] code__law_hurt
def code__law_tape : EvS := (evSeq (evSet 2 (evBin (binD .Add) (evCallG 2 run__law_pick (agV 0 (agD (evLst (evCons (evC (.str "+")) (evCons (evC (.str "+")) (evCons (evC (.str "+")) (evCons (evC (.str "+")) (evCons (evC (.str "~")) evNil)))))) agN))) (evMth .zfill (evCallB .str (evCons (evCallG 2 run__law_pick (agV 0 (agD (evLst (evCons (evC (.int 0)) (evCons (evC (.int 1)) (evCons (evC (.int 1)) (evCons (evC (.int 2)) (evCons (evC (.int 10)) (evCons (evC (.int 999999999)) evNil))))))) agN))) evNil)) (evCons (evC (.int 9)) evNil)))) (evSeq (evSet 2 (evCallG 2 run__law_pick (agV 0 (agD (evBin (binD .Add) (evBin (binD .Mult) (evLst (evCons (evVar 2) evNil)) (evC (.int 7))) (evLst (evCons (evBin (binD .Add) (evBin (binD .Add) (evSlc (evVar 2) evNoPart (evPart (evC (.int 4)))) (evC (.str "x"))) (evSlc (evVar 2) (evPart (evC (.int 5))) evNoPart)) evNil))) agN)))) (evSeq (evPar [5, 6] (evConsO evDNew (evConsO (evC (.str "")) evNilO))) (evSeq (evFor (evRng1 (evCons (evCallG 2 run__law_draw (agV 0 (agD (evC (.int 9)) agN))) evNil)) (gN 3) (evSeq (evSet 7 (evCallG 2 run__law_entry (agV 0 (agD (evVar 5) agN)))) (evSeq (evIfS (evIs (evCmp (cmpD .Eq) (evCallG 2 run__law_draw (agV 0 (agD (evC (.int 16)) agN))) (evC (.int 0)))) (evSet 7 (evCallG 2 run__law_pick (agV 0 (agD (evLst (evCons (evTup (evCons (evC (.str "close")) (evCons (evC (.str "f")) evNil))) (evCons (evTup (evCons (evC (.str "open")) (evCons (evC (.str "f")) (evCons (evC (.str "d")) evNil)))) (evCons (evTup (evCons (evC (.str "call")) (evCons (evC (.str "g")) (evCons (evC (.str "x")) evNil)))) evNil)))) agN)))) evNx) (evSeq (evIfS (evIs (evCmp (cmpD .Is) (evCall 2 run__law_bar (evCons (evVar 5) (evCons (evVar 7) evNil))) (evC .none))) (evSet 5 (evCall 2 run__law_behind (evCons (evVar 5) (evCons (evVar 7) evNil)))) evNx) (evSet 6 (evBin (binD .Add) (evVar 6) (evCallG 2 run__law_hurt (agV 0 (agD (evCall 1 run__law_row (evCons (evVar 7) evNil)) agN))))))))) (evSeq (evSet 4 (evCallG 2 run__law_pick (agV 0 (agD (evLst (evCons (evC (.str "~")) (evCons (evC (.str "~")) (evCons (evC (.str "")) (evCons (evC (.str "+")) (evCons (evBin (binD .Add) (evC (.str "~")) (evCall 1 run__law_row (evCons (evTup (evCons (evC (.str "close")) (evCons (evC (.str "f")) evNil))) evNil))) (evCons (evCall 1 run__law_row (evCons (evTup (evCons (evC (.str "open")) (evCons (evC (.str "left")) (evCons (evC (.str "d")) evNil)))) evNil)) (evCons (evC (.str "+0")) evNil)))))))) agN)))) (evRet (evSlc (evBin (binD .Add) (evBin (binD .Add) (evBin (binD .Add) (evVar 2) (evVar 6)) (evVar 4)) (evBin (binD .Mult) (evC (.str "~")) (evVar 1))) evNoPart (evPart (evVar 1)))))))))
def run__law_tape : Pd.Run := runB 2 8 [0] code__law_tape
def code__law_device_right : EvS := (evSeq (evSet 1 (evCall 1 run__law_store (evCons (evVar 0) evNil))) (evSeq (evIfS (evIs (evCmp (cmpD .NotEq) (evCallB .repr (evCons (evLst (evCons (evCall 1 run_is_store (evCons (evVar 0) evNil)) (evCons (evCallK 1 run_is_store 1 [0] (evCons (evVar 0) evNil)) evNil))) evNil)) (evCallB .repr (evCons (evBin (binD .Mult) (evLst (evCons (evCmp (cmpD .IsNot) (evVar 1) (evC .none)) evNil)) (evC (.int 2))) evNil)))) (evRet (evC (.bool false))) evNx) (evSeq (evIfS (evIs (evCmp (cmpD .Is) (evVar 1) (evC .none))) (evRet (evC (.bool true))) evNx) (evSeq (evSet 2 (evLst (evCons (evIdxV 1 (evC (.str "turn"))) (evCons (evCall 1 run__law_listed (evCons (evIdxV 1 (evC (.str "fields"))) evNil)) (evCons (evIdxV 1 (evC (.str "entries"))) (evCons (evBin (binD .Sub) (evCallB .len (evCons (evIdxV 0 (evC (.int 0))) evNil)) (evIdxV 1 (evC (.str "end")))) evNil)))))) (evSeq (evFor (evRng1 (evCons (evC (.int 2)) evNil)) (gN 3) (evSpoil 4 2 (evConsO (evCallN 1 run_turn_of (evCons (evVar 0) evNil)) (evConsO (evCallN 1 run_kept (evCons (evVar 0) evNil)) (evConsO (evCallN 1 run_entries_in (evCons (evVar 0) evNil)) (evConsO (evCallN 1 run_room (evCons (evVar 0) evNil)) evNilO)))))) (evRet (evCmp (cmpD .Eq) (evCallB .repr (evCons (evLst (evCons (evCallK 1 run_turn_of 1 [0] (evCons (evVar 0) evNil)) (evCons (evCallK 1 run_kept 1 [0] (evCons (evVar 0) evNil)) (evCons (evCallK 1 run_entries_in 1 [0] (evCons (evVar 0) evNil)) (evCons (evCallK 1 run_room 1 [0] (evCons (evVar 0) evNil)) evNil))))) evNil)) (evCallV .repr 2))))))))
def run__law_device_right : Pd.Run := runB 1 5 [] code__law_device_right
def code__law_right : EvS := (evSeq (evFor (evRng1 (evCons (evC (.int 8)) evNil)) (gN 1) (evSeq (evSet 2 (evBin (binD .Add) (evC (.int 60)) (evCallG 2 run__law_draw (agV 0 (agD (evC (.int 200)) agN))))) (evSeq (evSet 4 (evTup (evCons (evCallG 2 run__law_tape (agV 0 (agD (evVar 2) agN))) (evCons (evCallG 2 run__law_tape (agV 0 (agD (evVar 2) agN))) evNil)))) (evIfS (evOr (evNot (evTru (evCall 1 run__law_device_right (evCons (evVar 4) evNil)))) (evOr (evNot (evTru (evCall 1 run__law_device_right (evCons (evTurn (evVar 4) (evNeg (evC (.int 1)))) evNil)))) (evOr (evTru (evCall 1 run_is_store (evCons (evCallB .list (evCons (evVar 4) evNil)) evNil))) (evTru (evCall 1 run_is_store (evCons (evSlc (evVar 4) evNoPart (evPart (evC (.int 1)))) evNil)))))) (evRet (evC (.bool false))) evNx)))) (evSeq (evSet 2 (evBin (binD .Add) (evC (.int 60)) (evCallG 2 run__law_draw (agV 0 (agD (evC (.int 1941)) agN))))) (evSeq (evSet 3 (evCall 1 run_new_store (evCons (evVar 2) evNil))) (evSeq (evIfS (evOr (evIs (evCmp (cmpD .NotEq) (evVar 3) (evTup (evCons (evBin (binD .Add) (evC (.str "+000000000")) (evBin (binD .Mult) (evC (.str "~")) (evBin (binD .Sub) (evVar 2) (evC (.int 10))))) (evCons (evBin (binD .Mult) (evC (.str "~")) (evVar 2)) evNil))))) (evIs (evCmp (cmpD .NotEq) (evCallK 1 run_new_store 1 [0] (evCons (evVar 2) evNil)) (evVar 3)))) (evRet (evC (.bool false))) evNx) (evRet (evCmp (cmpD .Eq) (evLst (evCons (evCall 1 run_turn_of (evCons (evVar 3) evNil)) (evCons (evCall 1 run_kept (evCons (evVar 3) evNil)) (evCons (evCall 1 run_entries_in (evCons (evVar 3) evNil)) (evCons (evCall 1 run_room (evCons (evVar 3) evNil)) evNil))))) (evLst (evCons (evC (.int 0)) (evCons (evLst evNil) (evCons (evLst evNil) (evCons (evBin (binD .Sub) (evVar 2) (evC (.int 10))) evNil)))))))))))
def run__law_right : Pd.Run := runB 1 5 [0] code__law_right
def code_law : EvS := (evRet (evCallB .all (evCons (evComp (evRng1 (evCons (evCallB .max2 (evCons (evC (.int 1)) (evCons (evCallB .min2 (evCons (evC (.int 2)) (evCons (evScrLen 0) evNil))) evNil))) evNil)) (gN 1) (fun env => .ok true env) (evCallG 1 run__law_right (agO (evCallG 2 run__law_pot (agV 0 (agD (evVar 1) agN))) agN)) [1]) evNil)))
def run_law : Pd.Run := runB 1 2 [0] code_law
end K93
set_option Elab.async false
set_option linter.all false
set_option maxRecDepth 100000
set_option maxHeartbeats 2000000
namespace K93
open PySem PySem.Spec PyProof.Rows L2 Pd

/-! ### names, signs, figures -/
def isLow (c : Nat) : Bool := decide (97 ≤ c) && decide (c ≤ 122)
def isFig (c : Nat) : Bool := decide (48 ≤ c) && decide (c ≤ 57)
def isPrt (c : Nat) : Bool := decide (32 ≤ c) && decide (c ≤ 126)
def isName (l : List Nat) : Bool := (decide (1 ≤ l.length) && decide (l.length ≤ 12)) && l.all isLow
def isSigns (l : List Nat) : Bool := l.all isPrt
theorem comp_signs {T : EvE} {p : Nat → Bool} {l : List Nat} (hl : l.length ≤ 100000) (hT : ∀ c ∈ l, T [.d (S l), .d (S [c])] = .ok (.d (.bool (p c))) [.d (S l), .d (S [c])]) :
    evCallB .all (evCons (evComp (evIt (evVar 0)) (gN 1) (fun env => .ok true env) T [1]) evNil) [.d (S l), .u] = .ok (.d (.bool (l.all p))) [.d (S l), .u] := by
  have hz : sz l.length = true := sz_le (by omega)
  have hc : compL (gN 1) (fun env => .ok true env) T [1] (l.map fun c => S [c]) [.d (S l), .u] = some ((l.map fun c => S [c]).map (fun x => match x with
      | .str s => .bool ((tl s).all p)
      | _ => .none), [.d (S l), .u]) := by
    refine compL_map _ _ fun x hx => ?_
    obtain ⟨c, hc, rfl⟩ := List.mem_map.mp hx
    refine ⟨[.d (S l), .d (S [c])], _, [.d (S l), .d (S [c])], rfl, rfl, ?_, rfl⟩
    rw [evD_eq, hT c hc]
    simp
  have hm : ((l.map fun c => S [c]).map (fun x => match x with
      | .str s => PyData.bool ((tl s).all p)
      | _ => .none)) = l.map fun c => .bool (p c) := by
    rw [List.map_map]
    refine List.map_congr_left fun c _ => ?_
    show PyData.bool ([c].all p) = _
    simp
  rw [hm] at hc
  simp [noOwn, wipeE, itemsD, hz, hc, putB, callD, asBools_map, all_map_id]
theorem lt_one (a c : Nat) : (decide ([a] < [c]) : Bool) = decide (a < c) := by
  by_cases h : a < c
  · rw [decide_eq_true h, decide_eq_true (List.cons_lt_cons_iff.mpr (.inl h))]
  · rw [decide_eq_false h]
    refine decide_eq_false fun z => ?_
    rcases List.cons_lt_cons_iff.mp z with z | ⟨_, z⟩
    · exact h z
    · exact absurd z (List.lt_irrefl _)
theorem le_one (a c : Nat) : (!decide ([c] < [a]) : Bool) = decide (a ≤ c) := by
  rw [lt_one]
  by_cases h : a ≤ c
  · rw [decide_eq_true h, decide_eq_false (by omega)]; rfl
  · rw [decide_eq_false h, decide_eq_true (by omega)]; rfl
/-- a sign within bounds -/
theorem chn_signs {a b : Nat} {x y : PySem.Str} (hx : tl x = [a]) (hy : tl y = [b]) (l : List Nat) (c : Nat) : evChn (cmpD .LtE) (cmpD .LtE) (evC (.str x)) (evVar 1) (evC (.str y)) [.d (S l), .d (S [c])] = .ok (.d (.bool (decide (a ≤ c) && decide (c ≤ b)))) [.d (S l), .d (S [c])] := by
  simp only [evChn_eq, evD_eq, evC_eq, evVar_eq, bind_ok, x_d, cmpD, hx, hy, tl_mk, le_one, List.getElem?_cons_succ, List.getElem?_cons_zero, ofO_ok]
  by_cases h : a ≤ c
  · rw [decide_eq_true h]
    simp [h]
  · rw [decide_eq_false h]
    simp [h]
theorem are_signs_eq (l : List Nat) (e : Pd.Env) (hl : l.length ≤ 100000) : runD run_are_signs [S l] e = .ok (.d (.bool (isSigns l))) e := by
  have := comp_signs (p := isPrt) hl (fun c _ => chn_signs (a := 32) (b := 126) (x := " ") (y := "~") (by decide) (by decide) l c)
  unfold runD run_are_signs runB code_are_signs
  simp only [evAndV_eq, evIsi_eq, evD_eq, evVar_eq, evRet_eq, List.map_cons, List.map_nil, List.cons_append, List.nil_append, List.replicate, List.getElem?_cons_zero, bind_ok, x_d, this, isiD, isSigns, List.any_cons, List.any_nil, Bool.or_false, ofO_ok, boolD_b, go_ok]
theorem law_is_signs_eq (l : List Nat) (e : Pd.Env) (hl : l.length ≤ 100000) : runD run__law_is_signs [S l] e = .ok (.d (.bool (isSigns l))) e := by
  have := comp_signs (p := isPrt) hl (fun c _ => chn_signs (a := 32) (b := 126) (x := " ") (y := "~") (by decide) (by decide) l c)
  unfold runD run__law_is_signs runB code__law_is_signs
  simp only [evAndV_eq, evIsi_eq, evD_eq, evVar_eq, evRet_eq, List.map_cons, List.map_nil, List.cons_append, List.nil_append, List.replicate, List.getElem?_cons_zero, bind_ok, x_d, this, isiD, isSigns, List.any_cons, List.any_nil, Bool.or_false, ofO_ok, boolD_b, go_ok]
theorem fig_in (c : Nat) : (tl "0123456789").contains c = isFig c := by
  rw [show tl "0123456789" = [48, 49, 50, 51, 52, 53, 54, 55, 56, 57] by decide +kernel]
  by_cases h : isFig c = true
  · rw [h]
    simp [isFig] at h
    have : c = 48 ∨ c = 49 ∨ c = 50 ∨ c = 51 ∨ c = 52 ∨ c = 53 ∨ c = 54 ∨ c = 55 ∨ c = 56 ∨ c = 57 := by omega
    simpa using this
  · have h' : isFig c = false := by simpa using h
    rw [h']
    simp [isFig] at h
    have : ¬ (c = 48 ∨ c = 49 ∨ c = 50 ∨ c = 51 ∨ c = 52 ∨ c = 53 ∨ c = 54 ∨ c = 55 ∨ c = 56 ∨ c = 57) := by omega
    simpa using this
theorem low_in (c : Nat) : (tl "abcdefghijklmnopqrstuvwxyz").contains c = isLow c := by
  rw [show tl "abcdefghijklmnopqrstuvwxyz" = [97, 98, 99, 100, 101, 102, 103, 104, 105, 106, 107, 108, 109, 110, 111, 112, 113, 114, 115, 116, 117, 118, 119, 120, 121, 122] by decide +kernel]
  by_cases h : isLow c = true
  · rw [h]
    simp [isLow] at h
    have : c = 97 ∨ c = 98 ∨ c = 99 ∨ c = 100 ∨ c = 101 ∨ c = 102 ∨ c = 103 ∨ c = 104 ∨ c = 105 ∨ c = 106 ∨ c = 107 ∨ c = 108 ∨ c = 109 ∨ c = 110 ∨ c = 111 ∨ c = 112 ∨ c = 113 ∨ c = 114 ∨ c = 115 ∨ c = 116 ∨ c = 117 ∨ c = 118 ∨ c = 119 ∨ c = 120 ∨ c = 121 ∨ c = 122 := by omega
    simpa using this
  · have h' : isLow c = false := by simpa using h
    rw [h']
    simp [isLow] at h
    have : ¬ (c = 97 ∨ c = 98 ∨ c = 99 ∨ c = 100 ∨ c = 101 ∨ c = 102 ∨ c = 103 ∨ c = 104 ∨ c = 105 ∨ c = 106 ∨ c = 107 ∨ c = 108 ∨ c = 109 ∨ c = 110 ∨ c = 111 ∨ c = 112 ∨ c = 113 ∨ c = 114 ∨ c = 115 ∨ c = 116 ∨ c = 117 ∨ c = 118 ∨ c = 119 ∨ c = 120 ∨ c = 121 ∨ c = 122) := by omega
    simpa using this
theorem are_figures_eq (l : List Nat) (e : Pd.Env) (hl : l.length ≤ 100000) : runD run_are_figures [S l] e = .ok (.d (.bool (l.all isFig))) e := by
  have := comp_signs (T := evCmp (cmpD .In) (evVar 1) (evC (.str "0123456789"))) (p := isFig) hl (fun c _ => by simp only [evCmp_eq, evD_eq, evVar_eq, evC_eq, bind_ok, x_d, List.getElem?_cons_succ, List.getElem?_cons_zero, cmpD, tl_mk, fig_in, Option.map_some, ofO_ok])
  unfold runD run_are_figures runB code_are_figures
  simp only [evRet_eq, List.map_cons, List.map_nil, List.append_eq, List.cons_append, List.nil_append, List.replicate]
  rw [this]
  rfl
theorem len_d (l : List Nat) (hl : l.length ≤ 100000) : callD .len [S l] = some (.d (.int (l.length : Nat))) := by
  have hz : sz l.length = true := sz_le (by omega)
  simp [callD, lenD, hz]
/-- 1 <= len <= 12 -/
theorem chn_len (l : List Nat) (z : Sl) (hl : l.length ≤ 100000) : evChn (cmpD .LtE) (cmpD .LtE) (evC (.int 1)) (evCallV .len 0) (evC (.int 12)) [.d (S l), z] = .ok (.d (.bool (decide (1 ≤ l.length) && decide (l.length ≤ 12)))) [.d (S l), z] := by
  have e1 : (decide ((1 : Int) ≤ (l.length : Nat)) : Bool) = decide (1 ≤ l.length) := by
    by_cases h : 1 ≤ l.length
    · rw [decide_eq_true h, decide_eq_true (by omega)]
    · rw [decide_eq_false h, decide_eq_false (by omega)]
  have e2 : (decide (((l.length : Nat) : Int) ≤ 12) : Bool) = decide (l.length ≤ 12) := by
    by_cases h : l.length ≤ 12
    · rw [decide_eq_true h, decide_eq_true (by omega)]
    · rw [decide_eq_false h, decide_eq_false (by omega)]
  simp only [evChn_eq, evD_eq, evC_eq, evCallV_eq, evBor_eq, bind_ok, x_d, List.getElem?_cons_zero, len_d l hl, ofO_ok, flatA, flatD, if_true, cmpD, e1, e2]
  by_cases h : 1 ≤ l.length
  · simp [h]
  · simp [h]
theorem is_short_name_eq (l : List Nat) (e : Pd.Env) (hl : l.length ≤ 100000) : runD run_is_short_name [S l] e = .ok (.d (.bool (isName l))) e := by
  have h1 := comp_signs (T := evCmp (cmpD .In) (evVar 1) (evC (.str "abcdefghijklmnopqrstuvwxyz"))) (p := isLow) hl (fun c _ => by simp only [evCmp_eq, evD_eq, evVar_eq, evC_eq, bind_ok, x_d, List.getElem?_cons_succ, List.getElem?_cons_zero, cmpD, tl_mk, low_in, Option.map_some, ofO_ok])
  have h2 := chn_len l .u hl
  unfold runD run_is_short_name runB code_is_short_name
  simp only [evSeq_eq, evIfS_eq, evOr_eq, evNot_eq, evIs_eq, evTru_eq, evIsi_eq, evD_eq, evVar_eq, evRet_eq, evC_eq, evNx_eq, List.map_cons, List.map_nil, List.cons_append, List.nil_append, List.replicate, List.getElem?_cons_zero, bind_ok, x_d, h1, h2, isiD, List.any_cons, List.any_nil, Bool.or_false, truD_b, ofO_ok, boolD_b, Bool.not_true, go_ok]
  unfold isName
  cases h : (decide (1 ≤ l.length) && decide (l.length ≤ 12)) with
  | true => simp only [Bool.not_true, h1, go_ok, Bool.true_and]
  | false => simp
theorem law_is_name_eq (l : List Nat) (e : Pd.Env) (hl : l.length ≤ 100000) : runD run__law_is_name [S l] e = .ok (.d (.bool (isName l))) e := by
  have h1 := comp_signs (p := isLow) hl (fun c _ => chn_signs (a := 97) (b := 122) (x := "a") (y := "z") (by decide) (by decide) l c)
  have h2 := chn_len l .u hl
  unfold runD run__law_is_name runB code__law_is_name
  simp only [evAndV_eq, evIsi_eq, evD_eq, evVar_eq, evRet_eq, List.map_cons, List.map_nil, List.cons_append, List.nil_append, List.replicate, List.getElem?_cons_zero, bind_ok, x_d, h1, h2, isiD, List.any_cons, List.any_nil, Bool.or_false, ofO_ok, boolD_b, go_ok]
  unfold isName
  cases h : (decide (1 ≤ l.length) && decide (l.length ≤ 12)) with
  | true => simp [h1]
  | false => simp
end K93
set_option Elab.async false
set_option linter.all false
set_option maxRecDepth 100000
set_option maxHeartbeats 2000000
namespace K93
open PySem PySem.Spec PyProof.Rows L2 Pd

/-! ### entries -/
theorem mkS_eq (a b : List Nat) : (mkS a == mkS b) = decide (a = b) := by
  by_cases h : a = b
  · subst h; simp
  · rw [decide_eq_false h]
    refine beq_eq_false_iff_ne.mpr fun z => h (mkS_inj z)
/-- a text that can stand -/
def okT (l : List Nat) : Prop := (∀ c ∈ l, c < 1114112) ∧ l.length ≤ 100000
theorem shaped_S {l : List Nat} (h : okT l) : SeqAt.shaped (S l) = true := by
  have : PyData.strOk (mkS l) = true := by
    unfold PyData.strOk
    simpa [mkS] using h.1
  unfold SeqAt.shaped
  simp [PyData.canLay0, PyData.depth, this]
theorem eq_S {l : List Nat} {s : PySem.Str} (h : okT l) (hs : SeqAt.shaped (.str s) = true) : cmpD .Eq (S l) (.str s) = some (decide (l = tl s)) := by
  show (if SeqAt.shaped (S l) && SeqAt.shaped (.str s) then some (PyData.eqv (S l) (.str s)) else none) = _
  rw [shaped_S h, hs, if_pos (show (true && true) = true from rfl)]
  show some (mkS l == mkS (tl s)) = _
  rw [mkS_eq]
def isEnt : List (List Nat) → Bool
  | [k, n] => isName n && decide (k = tl "close")
  | [k, n, a] => isName n && ((decide (k = tl "open") && isName a) || (!decide (k = tl "open") && (decide (k = tl "call") && (isSigns a && decide (a.length ≤ 40)))))
  | _ => false
theorem le_40 (l : List Nat) : (decide (((l.length : Nat) : Int) ≤ 40) : Bool) = decide (l.length ≤ 40) := by
  by_cases h : l.length ≤ 40
  · rw [decide_eq_true h, decide_eq_true (by omega)]
  · rw [decide_eq_false h, decide_eq_false (by omega)]
theorem sh_open : SeqAt.shaped (.str "open") = true := by decide +kernel
theorem sh_call : SeqAt.shaped (.str "call") = true := by decide +kernel
theorem sh_close : SeqAt.shaped (.str "close") = true := by decide +kernel
theorem in23_0 : cmpD .NotIn (.int 0) (.tuple [.int 2, .int 3]) = some true := by decide +kernel
theorem in23_1 : cmpD .NotIn (.int 1) (.tuple [.int 2, .int 3]) = some true := by decide +kernel
theorem in23_2 : cmpD .NotIn (.int 2) (.tuple [.int 2, .int 3]) = some false := by decide +kernel
theorem in23_3 : cmpD .NotIn (.int 3) (.tuple [.int 2, .int 3]) = some false := by decide +kernel
theorem in23_n (n : Int) (h : 4 ≤ n) : cmpD .NotIn (.int n) (.tuple [.int 2, .int 3]) = some true := by
  show some (!((PyData.eqv (.int 2) (.int n)) || ((PyData.eqv (.int 3) (.int n)) || false))) = _
  have a : PyData.eqv (.int 2) (.int n) = false := by
    show ((2 : Int) == n) = false
    simp; omega
  have b : PyData.eqv (.int 3) (.int n) = false := by
    show ((3 : Int) == n) = false
    simp; omega
  rw [a, b]; rfl
theorem in_oc {k : List Nat} : cmpD .NotIn (S k) (.tuple [.str "open", .str "call"]) = some (!(decide (k = tl "open") || decide (k = tl "call"))) := by
  show some (!((PyData.eqv (.str "open") (S k)) || ((PyData.eqv (.str "call") (S k)) || false))) = _
  have a : PyData.eqv (.str "open") (S k) = decide (k = tl "open") := by
    show (mkS (tl "open") == mkS k) = _
    rw [mkS_eq]
    exact decide_eq_decide.mpr eq_comm
  have b : PyData.eqv (.str "call") (S k) = decide (k = tl "call") := by
    show (mkS (tl "call") == mkS k) = _
    rw [mkS_eq]
    exact decide_eq_decide.mpr eq_comm
  rw [a, b]
  simp
theorem isEnt3 (k n a : List Nat) : isEnt [k, n, a] = (isName n && ((decide (k = tl "open") && isName a) || (!decide (k = tl "open") && (decide (k = tl "call") && (isSigns a && decide (a.length ≤ 40)))))) := rfl
theorem runD_entry (e : List (List Nat)) (env : Pd.Env) (h : ∀ p ∈ e, okT p) : runD run_is_entry_any [.tuple (e.map S)] env = .ok (.d (.bool (isEnt e))) env := by
  unfold run_is_entry_any code_is_entry_any
  rw [runD_eq]
  match e, h with
  | [], _ => simp [in23_0, sz, isEnt]
  | [a], _ => simp [in23_1, sz, isEnt]
  | [k, n], h =>
    have hk := h k (by simp)
    have hn := h n (by simp)
    cases c : isName n <;>
    simp [in23_2, sz, isEnt, is_short_name_eq _ _ hn.2, eq_S hk sh_close, c]
  | [k, n, a], h =>
    have hk := h k (by simp)
    have hn := h n (by simp)
    have ha := h a (by simp)
    have e1 := eq_S hk sh_open
    have e2 := eq_S hk sh_call
    rw [isEnt3]
    generalize decide (k = tl "open") = b1 at e1 ⊢
    generalize decide (k = tl "call") = b2 at e2 ⊢
    cases c : isName n <;> cases b1 <;> cases b2 <;> cases c4 : isSigns a <;>
    simp [in23_3, sz, is_short_name_eq _ _ hn.2, is_short_name_eq _ _ ha.2, are_signs_eq _ _ ha.2, e1, e2, c, c4, len_d _ ha.2, le_40]
  | a :: b :: c :: d :: r, h =>
    have := in23_n ((r.length : Nat) + 1 + 1 + 1 + 1) (by omega)
    simp [sz, isEnt, this]
theorem lawD_entry (e : List (List Nat)) (env : Pd.Env) (h : ∀ p ∈ e, okT p) : runD run__law_is_entry [.tuple (e.map S)] env = .ok (.d (.bool (isEnt e))) env := by
  unfold run__law_is_entry code__law_is_entry
  rw [runD_eq]
  match e, h with
  | [], _ => simp [in23_0, sz, isEnt]
  | [a], _ => simp [in23_1, sz, isEnt]
  | [k, n], h =>
    have hk := h k (by simp)
    have hn := h n (by simp)
    cases c : isName n <;>
    simp [in23_2, sz, isEnt, law_is_name_eq _ _ hn.2, eq_S hk sh_close, c]
  | [k, n, a], h =>
    have hk := h k (by simp)
    have hn := h n (by simp)
    have ha := h a (by simp)
    have e1 := eq_S hk sh_open
    have e2 := in_oc (k := k)
    rw [isEnt3]
    generalize decide (k = tl "open") = b1 at e1 e2 ⊢
    generalize decide (k = tl "call") = b2 at e2 ⊢
    cases c : isName n <;> cases b1 <;> cases b2 <;> cases c4 : isSigns a <;>
    simp [in23_3, sz, law_is_name_eq _ _ hn.2, law_is_name_eq _ _ ha.2, law_is_signs_eq _ _ ha.2, e1, e2, c, c4, len_d _ ha.2, le_40]
  | a :: b :: c :: d :: r, h =>
    have := in23_n ((r.length : Nat) + 1 + 1 + 1 + 1) (by omega)
    simp [sz, isEnt, this]
end K93
set_option Elab.async false
set_option linter.all false
set_option maxRecDepth 100000
set_option maxHeartbeats 2000000
namespace K93
open PySem PySem.Spec PyProof.Rows L2 Pd

/-! ### parts of texts -/
theorem slc_nat {l : List Nat} (hl : l.length ≤ 100000) {i j : Int} {a b : Nat} (hi : i = (a : Nat)) (hj : j = (b : Nat)) : slcD (S l) (some i) (some j) = some (.d (S ((l.drop a).take (b - a)))) := by
  have hz : sz (tl (mkS l)).length = true := sz_le (by show l.length ≤ _; omega)
  show (if sz (tl (mkS l)).length then some (Ar.d (.str (mkS (cutL (tl (mkS l)) (some i) (some j))))) else none) = _
  rw [hz, if_pos rfl, hi, hj]
  unfold cutL
  rw [HT.sIx_nat, HT.sIx_nat, tl_mk]
  congr 4
  by_cases h : a ≤ l.length
  · rw [Nat.min_eq_left h]
    refine List.ext_getElem? fun k => ?_
    by_cases hb : b ≤ l.length
    · rw [Nat.min_eq_left hb]
    · rw [Nat.min_eq_right (by omega), List.take_of_length_le (by simp), List.take_of_length_le (by simp; omega)]
  · rw [Nat.min_eq_right (a := a) (by omega), List.drop_of_length_le (Nat.le_refl _), List.drop_of_length_le (by omega)]
    simp
/-- a walk through all, in any slot -/
theorem comp_all {it : Pd.Env → Rs (List D)} {T : EvE} {v : Nat} {items : List D} {p : D → Bool} {e0 : Pd.Env} (hit : it e0 = .ok items e0) (hv : e0[v]? = some .u) (hsz : sz items.length = true) (hT : ∀ x ∈ items, T (e0.set v (.d x)) = .ok (.d (.bool (p x))) (e0.set v (.d x))) :
    evCallB .all (evCons (evComp it (gN v) (fun env => .ok true env) T [v]) evNil) e0 = .ok (.d (.bool (items.all p))) e0 := by
  obtain ⟨hlt, hg⟩ := List.getElem?_eq_some_iff.mp hv
  have hs : e0.set v .u = e0 := by
    rw [← hg]
    exact List.set_getElem_self hlt
  have hw : wipeE e0 [v] = e0 := hs
  have hc : compL (gN v) (fun env => .ok true env) T [v] items e0 = some (items.map fun x => .bool (p x), e0) := by
    refine compL_map _ _ fun x hx => ⟨e0.set v (.d x), _, e0.set v (.d x), ?_, rfl, ?_, ?_⟩
    · show (if v < e0.length then some (e0.set v (.d x)) else none) = _
      rw [if_pos hlt]
    · rw [evD_eq, hT x hx]
      rfl
    · show (e0.set v (.d x)).set v .u = e0
      rw [List.set_set, hs]
  have hn : noOwn e0 [v] = true := by
    unfold noOwn
    simp [hv]
  have hp : putB e0 e0 [v] = e0 := by
    unfold putB
    rw [hv]
    exact hs
  simp only [evCallB_eq, evCons_eq, evNil_eq, evD_eq, evComp_eq, hit, bind_ok, hw, hn, hsz, hc, hp, Bool.and_self, if_true, x_o, callD, asBools_map, all_map_id, Option.map_some, ofO_ok]
theorem it_var {i : Nat} {l : List Nat} {e : Pd.Env} (h : e[i]? = some (.d (S l))) : evIt (evVar i) e = .ok (l.map fun c => S [c]) e := by
  simp only [evIt_eq, evD_eq, evVar_eq, h, bind_ok, x_d, itemsD, tl_mk, ofO_ok]
theorem isDig (l : List Nat) : isDigits l = l.all isFig := by
  unfold isDigits isFig
  congr 1
  funext c
  have a : Nat.ble 48 c = decide (48 ≤ c) := by
    rw [Bool.eq_iff_iff]; simp
  have b : Nat.ble c 57 = decide (c ≤ 57) := by
    rw [Bool.eq_iff_iff]; simp
  rw [a, b]
theorem int_figs {l : List Nat} (h : l.all isFig = true) (h1 : 1 ≤ l.length) (h2 : l.length ≤ 600) : callD .int [S l] = some (.d (.int (NumText.digitsVal l : Nat))) := by
  show (if isDigits (tl (mkS l)) && (Nat.ble 1 (tl (mkS l)).length && Nat.ble (tl (mkS l)).length 600) then some (Ar.d (.int (NumText.digitsVal (tl (mkS l)) : Nat))) else none) = _
  rw [tl_mk, isDig, h, show Nat.ble 1 l.length = true from Nat.ble_eq_true_of_le h1, show Nat.ble l.length 600 = true from Nat.ble_eq_true_of_le h2, if_pos (by rfl)]
theorem chn_fig {v : Nat} {c : Nat} {e : Pd.Env} {x y : PySem.Str} (hx : tl x = [48]) (hy : tl y = [57]) (h : e[v]? = some (.d (S [c]))) : evChn (cmpD .LtE) (cmpD .LtE) (evC (.str x)) (evVar v) (evC (.str y)) e = .ok (.d (.bool (isFig c))) e := by
  simp only [evChn_eq, evD_eq, evC_eq, evVar_eq, bind_ok, x_d, cmpD, hx, hy, tl_mk, le_one, h, ofO_ok]
  unfold isFig
  by_cases h : 48 ≤ c
  · rw [decide_eq_true h]
    simp [h]
  · rw [decide_eq_false h]
    simp [h]
theorem all_figs {i v : Nat} {l : List Nat} {e : Pd.Env} (hl : l.length ≤ 100000) (h : e[i]? = some (.d (S l))) (hv : e[v]? = some .u) : evCallB .all (evCons (evComp (evIt (evVar i)) (gN v) (fun env => .ok true env) (evChn (cmpD .LtE) (cmpD .LtE) (evC (.str "0")) (evVar v) (evC (.str "9"))) [v]) evNil) e = .ok (.d (.bool (l.all isFig))) e := by
  have hlt := (List.getElem?_eq_some_iff.mp hv).1
  have := comp_all (T := evChn (cmpD .LtE) (cmpD .LtE) (evC (.str "0")) (evVar v) (evC (.str "9"))) (p := fun x => match x with
    | .str s => (tl s).all isFig
    | _ => false) (it_var h) hv (by rw [List.length_map]; exact sz_le (by omega)) (fun x hx => by
      obtain ⟨c, _, rfl⟩ := List.mem_map.mp hx
      rw [chn_fig (c := c) (by decide) (by decide) (by rw [List.getElem?_set_self hlt])]
      show Rs.ok (Ar.d (.bool (isFig c))) _ = .ok (Ar.d (.bool ([c].all isFig))) _
      simp)
  rw [this, List.all_map]
  congr 4
  funext c
  show [c].all isFig = isFig c
  simp
theorem val3 {l : List Nat} (h : l.all isFig = true) (h3 : l.length = 3) : NumText.digitsVal l ≤ 999 := by
  match l, h3 with
  | [a, b, c], _ =>
    simp [isFig] at h
    show ((0 * 10 + (a - 48)) * 10 + (b - 48)) * 10 + (c - 48) ≤ 999
    omega
/-- parts of a joined text -/
theorem joinL_mem (s : List Nat) : ∀ (ps : List (List Nat)) (p : List Nat), p ∈ ps → (∀ c ∈ p, c ∈ TL.joinL s ps) ∧ p.length ≤ (TL.joinL s ps).length
  | [], p, h => absurd h (by simp)
  | [q], p, h => by
    rw [List.mem_singleton.mp h]
    exact ⟨fun c hc => hc, Nat.le_refl _⟩
  | q :: r :: t, p, h => by
    have e : TL.joinL s (q :: r :: t) = q ++ (s ++ TL.joinL s (r :: t)) := rfl
    rw [e]
    rcases List.mem_cons.mp h with rfl | h
    · exact ⟨fun c hc => by simp [hc], by simp⟩
    · have ih := joinL_mem s (r :: t) p h
      exact ⟨fun c hc => by simp [ih.1 c hc], by simp; omega⟩
theorem join_max2 (ps : List (List Nat)) : TL.joinL [32] (max2 ps) = TL.joinL [32] ps := by
  match ps with
  | [] => rfl
  | [a] => rfl
  | [a, b] => rfl
  | a :: b :: c :: r => rfl
theorem join_body (l : List Nat) : TL.joinL [32] (max2 (splitL l)) = l := by
  rw [join_max2]
  exact join_spl 32 l []
theorem okT_part {l p : List Nat} (h : okT l) (hp : p ∈ max2 (splitL l)) : okT p := by
  have := joinL_mem [32] _ p hp
  rw [join_body] at this
  exact ⟨fun c hc => h.1 c (this.1 c hc), Nat.le_trans this.2 h.2⟩
theorem okT_split {l p : List Nat} (h : okT l) (hp : p ∈ splitL l) : okT p := by
  have := joinL_mem [32] _ p hp
  rw [show TL.joinL [32] (splitL l) = l from join_spl 32 l []] at this
  exact ⟨fun c hc => h.1 c (this.1 c hc), Nat.le_trans this.2 h.2⟩
theorem okT_cut {l : List Nat} (h : okT l) (a b : Nat) : okT ((l.drop a).take b) :=
  ⟨fun c hc => h.1 c (List.mem_of_mem_drop (List.mem_of_mem_take hc)), Nat.le_trans (by simp; omega) h.2⟩
end K93
set_option Elab.async false
set_option linter.all false
set_option maxRecDepth 100000
set_option maxHeartbeats 2000000
namespace K93
open PySem PySem.Spec PyProof.Rows L2 Pd

/-! ### rows -/
theorem joinL_flat (s : List Nat) : ∀ (p : List Nat) (r : List (List Nat)), TL.joinL s (p :: r) = p ++ (r.map fun q => s ++ q).flatten
  | p, [] => by simp [TL.joinL]
  | p, q :: r => by
    show p ++ (s ++ TL.joinL s (q :: r)) = _
    rw [joinL_flat s q r]
    simp
theorem glued_tl (g : PySem.Str) : ∀ ps : List PySem.Str, tl (Txt.join g ps) = TL.joinL (tl g) (ps.map tl)
  | [] => rfl
  | p :: r => by
    have key : ∀ (r : List PySem.Str) (acc : Array Nat), (r.foldl (fun acc (p : PySem.Str) => acc ++ g.cps ++ p.cps) acc).toList = acc.toList ++ ((r.map tl).map fun q => tl g ++ q).flatten := by
      intro r
      induction r with
      | nil => intro acc; simp
      | cons q r ih =>
        intro acc
        rw [List.foldl_cons, ih]
        simp [tl]
    rw [List.map_cons, joinL_flat]
    exact key r p.cps
theorem asStrs_map : ∀ ps : List (List Nat), asStrs (ps.map S) = some (ps.map mkS)
  | [] => rfl
  | p :: r => by
    show (asStrs (r.map S)).map (mkS p :: ·) = _
    rw [asStrs_map r]
    rfl
theorem joinL_len : ∀ ps : List (List Nat), (ps.map (·.length)).sum + ps.length ≤ (TL.joinL [32] ps).length + 1
  | [] => by simp [TL.joinL]
  | [p] => by simp [TL.joinL]
  | p :: q :: r => by
    have := joinL_len (q :: r)
    have e : TL.joinL [32] (p :: q :: r) = p ++ ([32] ++ TL.joinL [32] (q :: r)) := rfl
    rw [e]
    simp at this ⊢
    omega
theorem join_dat {s : PySem.Str} (hs : tl s = [32]) {d : D} {ps : List (List Nat)} (hd : seqD d = some (ps.map S)) (h : (TL.joinL [32] ps).length ≤ 100000) : mthD .join s [d] = some (.d (S (TL.joinL [32] ps))) := by
  have e0 : mthD .join s [d] = match seqD d with
      | some ds => match asStrs ds with
        | some ys => if sz ((ys.map fun y => (tl y).length).sum + ys.length * (tl s).length) then some (Ar.d (.str (Txt.join s ys))) else none
        | none => none
      | none => none := rfl
  rw [e0, hd]
  simp only [asStrs_map]
  have hz : sz (((ps.map mkS).map fun y => (tl y).length).sum + (ps.map mkS).length * (tl s).length) = true := by
    refine sz_le ?_
    have := joinL_len ps
    rw [hs, List.map_map]
    have e : ((fun y => (tl y).length) ∘ mkS) = fun (l : List Nat) => l.length := rfl
    rw [e, List.length_map, show ([32] : List Nat).length = 1 from rfl]
    omega
  rw [hz, if_pos rfl]
  congr 3
  have := glued_tl s (ps.map mkS)
  rw [hs, List.map_map, show (tl ∘ mkS) = id from rfl, List.map_id] at this
  rw [← this]
  rfl
def figs (l : List Nat) (p : Nat) : List Nat := (l.drop (p + 1)).take 3
def rsize (l : List Nat) (p : Nat) : Nat := NumText.digitsVal (figs l p)
def body (l : List Nat) (p : Nat) : List Nat := (l.drop (p + 4)).take (rsize l p)
def parts (l : List Nat) (p : Nat) : List (List Nat) := max2 (splitL (body l p))
def headOk (l : List Nat) (p : Nat) : Bool := decide ((l.drop p).take 1 = [43]) && (decide ((figs l p).length = 3) && (figs l p).all isFig)
def bodyOk (l : List Nat) (p : Nat) : Bool := decide ((body l p).length = rsize l p) && isEnt (parts l p)
def rowAt (l : List Nat) (p : Nat) : Option (List (List Nat)) := if headOk l p && bodyOk l p then some (parts l p) else none
def rowV : Option (List (List Nat)) → D
  | some e => .tuple (e.map S)
  | none => .none
theorem sh_plus : SeqAt.shaped (.str "+") = true := by decide +kernel
theorem ne_S {l : List Nat} {s : PySem.Str} (h : okT l) (hs : SeqAt.shaped (.str s) = true) : cmpD .NotEq (S l) (.str s) = some (!decide (l = tl s)) := by
  show (if SeqAt.shaped (S l) && SeqAt.shaped (.str s) then some (!PyData.eqv (S l) (.str s)) else none) = _
  rw [shaped_S h, hs, if_pos (show (true && true) = true from rfl)]
  show some (!(mkS l == mkS (tl s))) = _
  rw [mkS_eq]
theorem lt_3 (n : Nat) (h : n ≤ 3) : (decide ((n : Int) < 3) : Bool) = !decide (n = 3) := by
  by_cases q : n = 3
  · subst q; rfl
  · rw [decide_eq_false q, decide_eq_true (by omega)]; rfl
theorem lt_n' {a n : Nat} (h : a ≤ n) : decide (a < n) = !decide (a = n) := by
  by_cases q : a = n
  · subst q; simp
  · rw [decide_eq_false q, decide_eq_true (by omega)]; rfl
theorem lt_n {a n : Nat} (h : a ≤ n) : (decide ((a : Int) < (n : Int)) : Bool) = !decide (a = n) := by
  by_cases q : a = n
  · subst q; simp
  · rw [decide_eq_false q, decide_eq_true (by omega)]; rfl
theorem split_max {l : List Nat} (h : l.length ≤ 100000) {x : PySem.Str} (hx : tl x = [32]) : mthD .split (mkS l) [.str x, .int 2] = some (.o (.list ((max2 (splitL l)).map S))) := by
  have hx' : x = mkS [32] := by rw [← mkS_tl x, hx]
  subst hx'
  show (if sz (tl (mkS l)).length && (!((mkS [32]).length == 0) && Pd.inR (-1000) 1000 2) then some (Ar.o (.list ((Txt.splitMax (mkS l) (mkS [32]) 2).map .str))) else none) = _
  rw [show sz (tl (mkS l)).length = true from sz_le (by show l.length ≤ _; omega), if_pos (by decide), splitMax_eq, List.map_map]
  rfl
theorem split_all {l : List Nat} (h : l.length ≤ 100000) {x : PySem.Str} (hx : tl x = [32]) : mthD .split (mkS l) [.str x] = some (.o (.list ((splitL l).map S))) := by
  have hx' : x = mkS [32] := by rw [← mkS_tl x, hx]
  subst hx'
  show (if sz (tl (mkS l)).length && !((mkS [32]).length == 0) then some (Ar.o (.list ((Txt.split (mkS l) (mkS [32])).map .str))) else none) = _
  rw [show sz (tl (mkS l)).length = true from sz_le (by show l.length ≤ _; omega), if_pos (by decide), split_eq, List.map_map]
  rfl
theorem tup_lst (ds : List D) : callD .tuple [.list ds] = some (.d (.tuple ds)) := rfl
theorem entry_at_eq (l : List Nat) (p : Nat) (e : Pd.Env) (h : okT l) : runD run_entry_at [S l, .int (p : Nat)] e = .ok (.d (rowV (rowAt l p))) e := by
  unfold run_entry_at code_entry_at
  rw [runD_eq]
  have hl := h.2
  have s1 : slcD (S l) (some ((p : Int) + 1)) (some ((p : Int) + 4)) = some (.d (S (figs l p))) := slc_nat (a := p + 1) (b := p + 4) hl (by omega) (by omega) |>.trans (by rw [show p + 4 - (p + 1) = 3 by omega]; rfl)
  have s2 : slcD (S l) (some (p : Int)) (some ((p : Int) + 1)) = some (.d (S ((l.drop p).take 1))) := slc_nat (a := p) (b := p + 1) hl rfl (by omega) |>.trans (by rw [show p + 1 - p = 1 by omega])
  have s3 : slcD (S l) (some ((p : Int) + 4)) (some ((p : Int) + 4 + (rsize l p : Nat))) = some (.d (S (body l p))) := slc_nat (a := p + 4) (b := p + 4 + rsize l p) hl (by omega) (by omega) |>.trans (by rw [show p + 4 + rsize l p - (p + 4) = rsize l p by omega]; rfl)
  have o1 : okT (figs l p) := okT_cut h _ _
  have o2 : okT ((l.drop p).take 1) := okT_cut h _ _
  have o3 : okT (body l p) := okT_cut h _ _
  have l1 : (figs l p).length ≤ 3 := by unfold figs; simp; omega
  have l3 : (body l p).length ≤ rsize l p := by unfold body; simp; omega
  have n1 := ne_S o2 sh_plus
  have n2 := lt_3 _ l1
  have n3 := lt_n l3
  have n4 := lt_n' l3
  unfold rowAt headOk
  generalize hb1 : decide ((l.drop p).take 1 = [43]) = b1 at *
  have n1 : cmpD .NotEq (S ((l.drop p).take 1)) (.str "+") = some (!b1) := n1.trans (by rw [← hb1]; rfl)
  generalize hb2 : decide ((figs l p).length = 3) = b2 at *
  cases b1 with
  | false => simp [s1, s2, n1, rowV]
  | true => cases b2 with
    | false => simp [s1, s2, n1, len_d _ o1.2, n2, rowV]
    | true =>
      have f3 : (figs l p).length = 3 := of_decide_eq_true hb2
      cases b3 : (figs l p).all isFig with
      | false => simp [s1, s2, n1, len_d _ o1.2, n2, are_figures_eq _ _ o1.2, b3, rowV]
      | true =>
        have i1 := int_figs b3 (by omega) (by omega)
        have i1 : callD .int [S (figs l p)] = some (.d (.int (rsize l p : Nat))) := i1
        have m1 := split_max o3.2 (x := " ") (by decide)
        have m1 : mthD .split (mkS (body l p)) [.str " ", .int 2] = some (.o (.list ((parts l p).map S))) := m1
        have en := fun e => runD_entry (parts l p) e fun q hq => okT_part o3 hq
        unfold bodyOk
        generalize hb4 : decide ((body l p).length = rsize l p) = b4 at *
        cases b4 with
        | false => simp [s1, s2, s3, n1, len_d _ o1.2, n2, are_figures_eq _ _ o1.2, b3, rowV, i1, m1, len_d _ o3.2, n3, n4, tup_lst]
        | true =>
          cases b5 : isEnt (parts l p) <;>
          simp [s1, s2, s3, n1, len_d _ o1.2, n2, are_figures_eq _ _ o1.2, b3, rowV, i1, m1, len_d _ o3.2, n3, n4, tup_lst, en, b5]
end K93
set_option Elab.async false
set_option linter.all false
set_option maxRecDepth 100000
set_option maxHeartbeats 2000000
namespace K93
open PySem PySem.Spec PyProof.Rows L2 Pd

/-! ### the law's rows -/
def rowL (l : List Nat) (p : Nat) : D := match rowAt l p with
  | some e => .tuple [.tuple (e.map S), .int (4 + (rsize l p : Nat))]
  | none => .none
theorem gt_2 (n : Nat) : (decide ((2 : Int) < (n : Int)) : Bool) = decide (2 < n) := by
  by_cases q : 2 < n
  · rw [decide_eq_true q, decide_eq_true (by omega)]
  · rw [decide_eq_false q, decide_eq_false (by omega)]
theorem slc_lst2 (ds : List D) : slcD (.list ds) (some 2) none = some (.o (.list (ds.drop 2))) := by
  show some (Ar.o (.list (cutL ds (some 2) none))) = _
  congr 3
  unfold cutL
  rw [show (some (2 : Int)) = some ((2 : Nat) : Int) from rfl, HT.sIx_nat, HT.sIx_none]
  by_cases h : 2 ≤ ds.length
  · rw [Nat.min_eq_left h, List.take_of_length_le (by simp)]
  · rw [Nat.min_eq_right (by omega), List.drop_of_length_le (Nat.le_refl _), List.drop_of_length_le (by omega), List.take_nil]
theorem cB_int {er : EvA} {env : Pd.Env} : evCallB .int er env = (er env).bind fun xs e => ofO (callD .int xs) e := rfl
theorem cB_tup {er : EvA} {env : Pd.Env} : evCallB .tuple er env = (er env).bind fun xs e => ofO (callD .tuple xs) e := rfl
def lawParts : EvE := evIf (evIs (evCmp (cmpD .Gt) (evCallV .len 4) (evC (.int 2)))) (evTup (evCons (evIdxV 4 (evC (.int 0))) (evCons (evIdxV 4 (evC (.int 1))) (evCons (evMth .join (evC (.str " ")) (evCons (evSlc (evVar 4) (evPart (evC (.int 2))) evNoPart) evNil)) evNil)))) (evCallB .tuple (evCons (evVar 4) evNil))
theorem lawParts_def : (evIf (evIs (evCmp (cmpD .Gt) (evCallV .len 4) (evC (.int 2)))) (evTup (evCons (evIdxV 4 (evC (.int 0))) (evCons (evIdxV 4 (evC (.int 1))) (evCons (evMth .join (evC (.str " ")) (evCons (evSlc (evVar 4) (evPart (evC (.int 2))) evNoPart) evNil)) evNil)))) (evCallB .tuple (evCons (evVar 4) evNil))) = lawParts := rfl
theorem law_parts {ps : List (List Nat)} (a0 a1 a2 a3 : Sl) (h : ∀ q ∈ max2 ps, q.length ≤ 100000) : lawParts [a0, a1, a2, a3, .o (.list (ps.map S)), .u, .u] = .ok (.d (.tuple ((max2 ps).map S))) [a0, a1, a2, a3, .d (.list (ps.map S)), .u, .u] := by
  unfold lawParts
  match ps, h with
  | [], _ => simp [tup_lst, max2]
  | [a], _ => simp [tup_lst, max2]
  | [a, b], _ => simp [tup_lst, max2]
  | a :: b :: c :: r, h =>
    have hj := join_dat (s := " ") (by decide) (d := .list ((c :: r).map S)) (ps := c :: r) rfl (h _ (by simp [max2]))
    have g : (decide ((2 : Int) < (r.length : Nat) + 1 + 1 + 1) : Bool) = true := decide_eq_true (by omega)
    rw [List.map_cons] at hj
    simp [tup_lst, max2, slc_lst2, g, hj, sz]
theorem row_in_eq (l : List Nat) (p : Nat) (e : Pd.Env) (h : okT l) : runD run__law_row_in [S l, .int (p : Nat)] e = .ok (.d (rowL l p)) e := by
  unfold run__law_row_in code__law_row_in
  rw [lawParts_def, runD_eq]
  have hl := h.2
  have s1 : slcD (S l) (some ((p : Int) + 1)) (some ((p : Int) + 4)) = some (.d (S (figs l p))) := slc_nat (a := p + 1) (b := p + 4) hl (by omega) (by omega) |>.trans (by rw [show p + 4 - (p + 1) = 3 by omega]; rfl)
  have s2 : slcD (S l) (some (p : Int)) (some ((p : Int) + 1)) = some (.d (S ((l.drop p).take 1))) := slc_nat (a := p) (b := p + 1) hl rfl (by omega) |>.trans (by rw [show p + 1 - p = 1 by omega])
  have s3 : slcD (S l) (some ((p : Int) + 4)) (some ((p : Int) + 4 + (rsize l p : Nat))) = some (.d (S (body l p))) := slc_nat (a := p + 4) (b := p + 4 + rsize l p) hl (by omega) (by omega) |>.trans (by rw [show p + 4 + rsize l p - (p + 4) = rsize l p by omega]; rfl)
  have o1 : okT (figs l p) := okT_cut h _ _
  have o2 : okT ((l.drop p).take 1) := okT_cut h _ _
  have o3 : okT (body l p) := okT_cut h _ _
  have l1 : (figs l p).length ≤ 3 := by unfold figs; simp; omega
  have n1 := ne_S o2 sh_plus
  have n2 := lt_3 _ l1
  have af := all_figs (i := 2) (v := 6) (l := figs l p) (e := [.d (S l), .d (.int (p : Nat)), .d (S (figs l p)), .u, .u, .u, .u]) o1.2 rfl rfl
  unfold rowL rowAt headOk
  generalize hb1 : decide ((l.drop p).take 1 = [43]) = b1 at *
  have n1 : cmpD .NotEq (S ((l.drop p).take 1)) (.str "+") = some (!b1) := n1.trans (by rw [← hb1]; rfl)
  generalize hb2 : decide ((figs l p).length = 3) = b2 at *
  cases b1 with
  | false => simp [-evCallB_eq, -evComp_eq, s1, s2, n1, rowV]
  | true => cases b2 with
    | false => simp [-evCallB_eq, -evComp_eq, s1, s2, n1, len_d _ o1.2, n2, rowV]
    | true =>
      have f3 : (figs l p).length = 3 := of_decide_eq_true hb2
      cases b3 : (figs l p).all isFig with
      | false => simp [-evCallB_eq, -evComp_eq, s1, s2, n1, len_d _ o1.2, n2, af, b3, rowV]
      | true =>
        have i1 := int_figs b3 (by omega) (by omega)
        have i1 : callD .int [S (figs l p)] = some (.d (.int (rsize l p : Nat))) := i1
        have m1 := split_all o3.2 (x := " ") (by decide)
        have en := fun e => lawD_entry (parts l p) e fun q hq => okT_part o3 hq
        have q3 : (decide (((body l p).length : Int) = (rsize l p : Nat)) : Bool) = decide ((body l p).length = rsize l p) := by
          by_cases q : (body l p).length = rsize l p
          · rw [decide_eq_true q, decide_eq_true (by omega)]
          · rw [decide_eq_false q, decide_eq_false (by omega)]
        have lp := fun a0 a1 a2 a3 => law_parts (ps := splitL (body l p)) a0 a1 a2 a3 (fun q hq => (okT_part o3 (l := body l p) hq).2)
        have lp : ∀ a0 a1 a2 a3, lawParts [a0, a1, a2, a3, .o (.list ((splitL (body l p)).map S)), .u, .u] = .ok (.d (.tuple ((parts l p).map S))) [a0, a1, a2, a3, .d (.list ((splitL (body l p)).map S)), .u, .u] := lp
        unfold bodyOk
        generalize decide ((body l p).length = rsize l p) = b4 at *
        generalize splitL (body l p) = ps at m1 lp
        generalize parts l p = P at lp en ⊢
        cases b4 <;> cases b5 : isEnt P <;>
        simp [-evCallB_eq, -evComp_eq, cB_int, cB_tup, s1, s2, s3, n1, len_d _ o1.2, n2, af, b3, i1, m1, len_d _ o3.2, q3, tup_lst, sz, en, b5, lp]
end K93
set_option Elab.async false
set_option linter.all false
set_option maxRecDepth 100000
set_option maxHeartbeats 2000000
namespace K93
open PySem PySem.Spec PyProof.Rows L2 Pd

/-! ### fields -/
abbrev FV := List (List Nat × (List Nat × List (List Nat)))
def fval (v : List Nat × List (List Nat)) : D := .tuple [S v.1, .tuple (v.2.map S)]
def enc (F : FV) : List (D × D) := F.map fun q => (S q.1, fval q.2)
def look : FV → List Nat → Option (List Nat × List (List Nat))
  | [], _ => none
  | q :: r, n => if q.1 = n then some q.2 else look r n
theorem look_enc (n : List Nat) : ∀ F : FV, lookD (enc F) (mkS n) = (look F n).map fval
  | [] => rfl
  | q :: r => by
    have ih := look_enc n r
    show (if mkS q.1 = mkS n then some (fval q.2) else lookD (enc r) (mkS n)) = (if q.1 = n then some q.2 else look r n).map fval
    by_cases h : q.1 = n
    · rw [if_pos h, if_pos (by rw [h])]; rfl
    · rw [if_neg h, if_neg (fun z => h (mkS_inj z)), ih]
def put' : FV → List Nat → (List Nat × List (List Nat)) → FV
  | [], _, _ => []
  | q :: r, n, v => if q.1 = n then (q.1, v) :: put' r n v else q :: put' r n v
def put : FV → List Nat → (List Nat × List (List Nat)) → FV
  | [], n, v => [(n, v)]
  | q :: r, n, v => if q.1 = n then (q.1, v) :: put' r n v else q :: put r n v
theorem put'_enc (n : List Nat) (v : List Nat × List (List Nat)) : ∀ F : FV, putD.putD' (enc F) (mkS n) (fval v) = enc (put' F n v)
  | [] => rfl
  | q :: r => by
    have ih := put'_enc n v r
    have e1 : putD.putD' (enc (q :: r)) (mkS n) (fval v) = (if mkS q.1 = mkS n then (S q.1, fval v) else (S q.1, fval q.2)) :: putD.putD' (enc r) (mkS n) (fval v) := rfl
    have e2 : put' (q :: r) n v = if q.1 = n then (q.1, v) :: put' r n v else q :: put' r n v := rfl
    rw [e1, e2, ih]
    by_cases h : q.1 = n
    · rw [if_pos h, if_pos (by rw [h])]; rfl
    · rw [if_neg h, if_neg (fun z => h (mkS_inj z))]; rfl
theorem put_enc (n : List Nat) (v : List Nat × List (List Nat)) : ∀ F : FV, putD (enc F) (mkS n) (fval v) = enc (put F n v)
  | [] => rfl
  | q :: r => by
    have ih := put_enc n v r
    have e1 : putD (enc (q :: r)) (mkS n) (fval v) = if mkS q.1 = mkS n then (S q.1, fval v) :: putD.putD' (enc r) (mkS n) (fval v) else (S q.1, fval q.2) :: putD (enc r) (mkS n) (fval v) := rfl
    have e2 : put (q :: r) n v = if q.1 = n then (q.1, v) :: put' r n v else q :: put r n v := rfl
    rw [e1, e2, ih, put'_enc]
    by_cases h : q.1 = n
    · rw [if_pos h, if_pos (by rw [h])]; rfl
    · rw [if_neg h, if_neg (fun z => h (mkS_inj z))]; rfl
def drp (F : FV) (n : List Nat) : FV := F.filter fun q => decide (q.1 ≠ n)
theorem drp_enc (n : List Nat) (F : FV) : dropD (enc F) (mkS n) = enc (drp F n) := by
  unfold dropD enc drp
  rw [List.filter_map]
  congr 1
  refine List.filter_congr fun q _ => ?_
  show decide (mkS q.1 ≠ mkS n) = decide (q.1 ≠ n)
  exact decide_eq_decide.mpr ⟨fun h z => h (by rw [z]), fun h z => h (mkS_inj z)⟩
theorem enc_len (F : FV) : (enc F).length = F.length := by simp [enc]
theorem put'_len (n : List Nat) (v) : ∀ F : FV, (put' F n v).length = F.length
  | [] => rfl
  | q :: r => by
    have ih := put'_len n v r
    show (if q.1 = n then (q.1, v) :: put' r n v else q :: put' r n v).length = _
    split <;> simp [ih]
theorem put_len (n : List Nat) (v) : ∀ F : FV, (put F n v).length ≤ F.length + 1
  | [] => by simp [put]
  | q :: r => by
    have ih := put_len n v r
    show (if q.1 = n then (q.1, v) :: put' r n v else q :: put r n v).length ≤ _
    split
    · simp [put'_len n v r]
    · simp; omega
/-- what an entry makes of the fields, or none -/
def step (F : FV) : List (List Nat) → Option FV
  | [k, n, a] => if decide (k = tl "open") then (if (look F n).isSome then none else some (put F n (a, []))) else match look F n with
    | none => none
    | some v => some (put F n (v.1, v.2 ++ [a]))
  | [k, n] => match look F n with
    | none => none
    | some _ => some (drp F n)
  | _ => none
def encO : Option FV → D
  | some F => .dict (enc F)
  | none => .none
theorem in_enc (F : FV) (n : List Nat) : cmpD .In (S n) (.dict (enc F)) = some (look F n).isSome := by
  show some (lookD (enc F) (mkS n)).isSome = _
  rw [look_enc]
  cases look F n <;> rfl
theorem notin_enc (F : FV) (n : List Nat) : cmpD .NotIn (S n) (.dict (enc F)) = some (!(look F n).isSome) := by
  show some (!(lookD (enc F) (mkS n)).isSome) = _
  rw [look_enc]
  cases look F n <;> rfl
theorem eq_bool (a b : Bool) : cmpD .Eq (.bool a) (.bool b) = some (a == b) := by
  cases a <;> cases b <;> decide +kernel
theorem dict_dct (kvs : List (D × D)) : callD .dict [.dict kvs] = some (.o (.dict kvs)) := rfl
theorem add_tup {a b : List D} (h : a.length + b.length ≤ 1000000) : binD .Add (.tuple a) (.tuple b) = some (.d (.tuple (a ++ b))) := by
  show (if sz (a.length + b.length) then some (Ar.d (.tuple (a ++ b))) else none) = _
  rw [sz_le h, if_pos rfl]
/-- fields of few calls -/
def few (F : FV) (m : Nat) : Prop := F.length ≤ m ∧ ∀ q ∈ F, q.2.2.length ≤ m
theorem few_look' {m : Nat} {n v} : ∀ F : FV, (∀ q ∈ F, q.2.2.length ≤ m) → look F n = some v → v.2.length ≤ m
  | [], _, e => by cases e
  | q :: r, h, e => by
    have e : (if q.1 = n then some q.2 else look r n) = some v := e
    split at e
    · cases e; exact h q (by simp)
    · exact few_look' r (fun p hp => h p (by simp [hp])) e
theorem few_look {F : FV} {m : Nat} {n v} (h : few F m) (e : look F n = some v) : v.2.length ≤ m := by
  have h := h.2
  exact few_look' F h e
theorem mem_put' {n v} : ∀ {F : FV} {q}, q ∈ put' F n v → q ∈ F ∨ q = (n, v)
  | [], q, h => by cases h
  | p :: r, q, h => by
    have h : q ∈ (if p.1 = n then (p.1, v) :: put' r n v else p :: put' r n v) := h
    split at h
    · rename_i e
      rcases List.mem_cons.mp h with rfl | h
      · right; rw [e]
      · rcases mem_put' h with h | h
        · left; simp [h]
        · right; exact h
    · rcases List.mem_cons.mp h with rfl | h
      · left; simp
      · rcases mem_put' h with h | h
        · left; simp [h]
        · right; exact h
theorem mem_put {n v} : ∀ {F : FV} {q}, q ∈ put F n v → q ∈ F ∨ q = (n, v)
  | [], q, h => by right; simpa [put] using h
  | p :: r, q, h => by
    have h : q ∈ (if p.1 = n then (p.1, v) :: put' r n v else p :: put r n v) := h
    split at h
    · rename_i e
      rcases List.mem_cons.mp h with rfl | h
      · right; rw [e]
      · rcases mem_put' h with h | h
        · left; simp [h]
        · right; exact h
    · rcases List.mem_cons.mp h with rfl | h
      · left; simp
      · rcases mem_put h with h | h
        · left; simp [h]
        · right; exact h
theorem few_step {F G : FV} {m : Nat} {e} (h : few F m) (hs : step F e = some G) : few G (m + 1) := by
  match e, hs with
  | [k, n, a], hs =>
    have hs : (if decide (k = tl "open") then (if (look F n).isSome then none else some (put F n (a, []))) else match look F n with
      | none => none
      | some v => some (put F n (v.1, v.2 ++ [a]))) = some G := hs
    split at hs
    · split at hs
      · cases hs
      · cases hs
        refine ⟨Nat.le_trans (put_len _ _ _) (by have := h.1; omega), fun q hq => ?_⟩
        rcases mem_put hq with z | z
        · have := h.2 q z; omega
        · rw [z]; simp
    · split at hs
      · cases hs
      · rename_i v hv
        cases hs
        have := few_look h hv
        refine ⟨Nat.le_trans (put_len _ _ _) (by have := h.1; omega), fun q hq => ?_⟩
        rcases mem_put hq with z | z
        · have := h.2 q z; omega
        · rw [z]; simp; omega
  | [k, n], hs =>
    have hs : (match look F n with
      | none => none
      | some _ => some (drp F n)) = some G := hs
    split at hs
    · cases hs
    · cases hs
      refine ⟨Nat.le_trans (List.length_filter_le _ _) (by have := h.1; omega), fun q hq => ?_⟩
      have := h.2 q (List.mem_filter.mp hq).1
      omega
end K93
set_option Elab.async false
set_option linter.all false
set_option maxRecDepth 100000
set_option maxHeartbeats 2000000
namespace K93
open PySem PySem.Spec PyProof.Rows L2 Pd

/-! ### fields behind an entry -/
theorem ent_two {k n : List Nat} (h : isEnt [k, n] = true) : k = tl "close" := by
  have h : (isName n && decide (k = tl "close")) = true := h
  simp at h
  exact h.2
theorem ent_three {k n a : List Nat} (h : isEnt [k, n, a] = true) : k = tl "open" ∨ k = tl "call" := by
  rw [isEnt3] at h
  simp at h
  rcases h.2 with h | h
  · exact .inl h.1
  · exact .inr h.2.1
theorem put_eq {F : FV} {m : Nat} (h : few F m) (hm : m ≤ 3000) : (enc F).length ≤ 1000000 := by rw [enc_len]; have := h.1; omega
theorem put_nil (F : FV) (n a : List Nat) : putD (enc F) (mkS n) (.tuple [S a, .tuple []]) = enc (put F n (a, [])) := put_enc n (a, []) F
theorem put_add (F : FV) (n a d : List Nat) (cs : List (List Nat)) : putD (enc F) (mkS n) (.tuple [S d, .tuple (cs.map S ++ [S a])]) = enc (put F n (d, cs ++ [a])) := by
  have := put_enc n (d, cs ++ [a]) F
  rw [← this]
  simp [fval]
theorem behind_entry_eq (F G : FV) (e : List (List Nat)) (env : Pd.Env) {m : Nat} (h : ∀ p ∈ e, okT p) (he : isEnt e = true) (hs : step F e = some G) (hf : few F m) (hm : m ≤ 3000) : runD run_behind_entry [.dict (enc F), .tuple (e.map S)] env = .ok (.d (.dict (enc G))) env := by
  unfold run_behind_entry code_behind_entry
  rw [runD_eq]
  have hz := put_eq hf hm
  match e, h, he, hs with
  | [k, n], h, he, hs =>
    have hk := h k (by simp)
    have e1 := (eq_S hk sh_open).trans (by rw [ent_two he]; rfl : _ = some false)
    have e2 := (eq_S hk sh_call).trans (by rw [ent_two he]; rfl : _ = some false)
    have hs : (match look F n with
      | none => none
      | some _ => some (drp F n)) = some G := hs
    cases hl : look F n with
    | none => rw [hl] at hs; cases hs
    | some v =>
      rw [hl] at hs
      cases hs
      have q1 := look_enc n F
      rw [hl] at q1
      simp [evPar, evConsO, evNilO, dict_dct, slA, e1, e2, notin_enc, hl, evPopK, ownD, q1, drp_enc]
  | [k, n, a], h, he, hs =>
    have hk := h k (by simp)
    have e1 := eq_S hk sh_open
    have hs : (if decide (k = tl "open") then (if (look F n).isSome then none else some (put F n (a, []))) else match look F n with
      | none => none
      | some v => some (put F n (v.1, v.2 ++ [a]))) = some G := hs
    by_cases ho : k = tl "open"
    · rw [decide_eq_true ho] at e1 hs
      cases hl : look F n with
      | some v => rw [hl] at hs; cases hs
      | none =>
        rw [hl] at hs
        cases hs
        have q1 := look_enc n F
        rw [hl] at q1
        simp [evPar, evConsO, evNilO, dict_dct, slA, e1, in_enc, hl, evPut, ownL, ownD, q1, hz, put_nil, sz]
    · have hc : k = tl "call" := (ent_three he).resolve_left ho
      have e2 := (eq_S hk sh_call).trans (by rw [hc]; simp : _ = some true)
      rw [decide_eq_false ho] at e1 hs
      cases hl : look F n with
      | none => rw [hl] at hs; cases hs
      | some v =>
        rw [hl] at hs
        cases hs
        have q1 := look_enc n F
        rw [hl] at q1
        have q2 := few_look hf hl
        have q3 : binD .Add (.tuple (v.2.map S)) (.tuple [S a]) = some (.d (.tuple (v.2.map S ++ [S a]))) := add_tup (by simp; omega)
        simp [evPar, evConsO, evNilO, dict_dct, slA, e1, e2, notin_enc, hl, evPut, ownL, ownD, q1, fval, q3, hz, put_add, sz]
theorem law_behind_eq (F G : FV) (e : List (List Nat)) (env : Pd.Env) {m : Nat} (h : ∀ p ∈ e, okT p) (he : isEnt e = true) (hs : step F e = some G) (hf : few F m) (hm : m ≤ 3000) : runD run__law_behind [.dict (enc F), .tuple (e.map S)] env = .ok (.d (.dict (enc G))) env := by
  unfold run__law_behind code__law_behind
  rw [runD_eq]
  have hz := put_eq hf hm
  match e, h, he, hs with
  | [k, n], h, he, hs =>
    have hk := h k (by simp)
    have e1 := (eq_S hk sh_open).trans (by rw [ent_two he]; rfl : _ = some false)
    have e2 := (eq_S hk sh_call).trans (by rw [ent_two he]; rfl : _ = some false)
    have hs : (match look F n with
      | none => none
      | some _ => some (drp F n)) = some G := hs
    cases hl : look F n with
    | none => rw [hl] at hs; cases hs
    | some v =>
      rw [hl] at hs
      cases hs
      have q1 := look_enc n F
      rw [hl] at q1
      simp [evPar, evConsO, evNilO, dict_dct, slA, e1, e2, notin_enc, hl, evPopK, ownD, q1, drp_enc]
  | [k, n, a], h, he, hs =>
    have hk := h k (by simp)
    have e1 := eq_S hk sh_open
    have hs : (if decide (k = tl "open") then (if (look F n).isSome then none else some (put F n (a, []))) else match look F n with
      | none => none
      | some v => some (put F n (v.1, v.2 ++ [a]))) = some G := hs
    by_cases ho : k = tl "open"
    · rw [decide_eq_true ho] at e1 hs
      cases hl : look F n with
      | some v => rw [hl] at hs; cases hs
      | none =>
        rw [hl] at hs
        cases hs
        have q1 := look_enc n F
        rw [hl] at q1
        simp [evPar, evConsO, evNilO, dict_dct, slA, e1, in_enc, hl, evPut, ownL, ownD, q1, hz, put_nil, sz]
    · have hc : k = tl "call" := (ent_three he).resolve_left ho
      have e2 := (eq_S hk sh_call).trans (by rw [hc]; simp : _ = some true)
      rw [decide_eq_false ho] at e1 hs
      cases hl : look F n with
      | none => rw [hl] at hs; cases hs
      | some v =>
        rw [hl] at hs
        cases hs
        have q1 := look_enc n F
        rw [hl] at q1
        have q2 := few_look hf hl
        have q3 : binD .Add (.tuple (v.2.map S)) (.tuple [S a]) = some (.d (.tuple (v.2.map S ++ [S a]))) := add_tup (by simp; omega)
        simp [evPar, evConsO, evNilO, dict_dct, slA, e1, e2, notin_enc, hl, evPut, ownL, ownD, q1, fval, q3, hz, put_add, sz]
/-- the bar: none where the entry can be done -/
def barV (F : FV) (e : List (List Nat)) : Ar := match step F e with
  | some _ => .d .none
  | none => .o (.list [.str (if decide (e.head? = some (tl "open")) then "taken" else "unknown"), S (e.getD 1 [])])
theorem law_bar_eq (F : FV) (e : List (List Nat)) (env : Pd.Env) (h : ∀ p ∈ e, okT p) (he : isEnt e = true) : runD run__law_bar [.dict (enc F), .tuple (e.map S)] env = .ok (barV F e) env := by
  unfold run__law_bar code__law_bar
  rw [runD_eq]
  match e, h, he with
  | [k, n], h, he =>
    have hk := h k (by simp)
    have e1 := (eq_S hk sh_open).trans (by rw [ent_two he]; rfl : _ = some false)
    have e3 : ¬ k = tl "open" := by rw [ent_two he]; decide +kernel
    have hs : step F [k, n] = (match look F n with
      | none => none
      | some _ => some (drp F n)) := rfl
    unfold barV
    rw [hs]
    cases hl : look F n <;> simp [e1, in_enc, hl, e3, sz]
  | [k, n, a], h, he =>
    have hk := h k (by simp)
    have e1 := eq_S hk sh_open
    have hs : step F [k, n, a] = (if decide (k = tl "open") then (if (look F n).isSome then none else some (put F n (a, []))) else match look F n with
      | none => none
      | some v => some (put F n (v.1, v.2 ++ [a]))) := rfl
    have hb : barV F [k, n, a] = match step F [k, n, a] with
      | some _ => .d .none
      | none => .o (.list [.str (if decide (k = tl "open") then "taken" else "unknown"), S n]) := by
      unfold barV
      simp
    rw [hb, hs]
    clear hb hs he
    by_cases ho : k = tl "open"
    · rw [decide_eq_true ho] at e1 ⊢
      clear ho
      cases hl : look F n <;> simp [e1, in_enc, hl, sz]
    · rw [decide_eq_false ho] at e1 ⊢
      clear ho
      cases hl : look F n <;> simp [e1, in_enc, hl, sz]
end K93
set_option Elab.async false
set_option linter.all false
set_option maxRecDepth 100000
set_option maxHeartbeats 2000000
namespace K93
open PySem PySem.Spec PyProof.Rows L2 Pd

/-! ### a tape's rows -/
theorem rowAt_some {l : List Nat} {p : Nat} {e : List (List Nat)} (h : okT l) (he : rowAt l p = some e) : p < l.length ∧ isEnt e = true ∧ (∀ q ∈ e, okT q) ∧ (TL.joinL [32] e).length = rsize l p ∧ rsize l p ≤ 999 := by
  unfold rowAt at he
  split at he
  · rename_i hc
    cases he
    unfold headOk bodyOk at hc
    simp only [Bool.and_eq_true, decide_eq_true_eq] at hc
    obtain ⟨⟨h1, h2, h3⟩, h4, h5⟩ := hc
    refine ⟨?_, h5, fun q hq => okT_part (okT_cut h _ _) hq, ?_, val3 h3 h2⟩
    · by_cases hp : p < l.length
      · exact hp
      · rw [List.drop_of_length_le (by omega)] at h1
        cases h1
    · rw [show TL.joinL [32] (parts l p) = body l p from join_body _, h4]
  · cases he
theorem rowAt_out {l : List Nat} {p : Nat} (hp : l.length ≤ p) : rowAt l p = none := by
  unfold rowAt headOk
  rw [List.drop_of_length_le hp]
  rfl
def walk (l : List Nat) : Nat → Nat → List (List (List Nat)) × Nat
  | 0, p => ([], p)
  | f + 1, p => match rowAt l p with
    | none => ([], p)
    | some e => (e :: (walk l f (p + (4 + rsize l p))).1, (walk l f (p + (4 + rsize l p))).2)
theorem walk_none {l : List Nat} {f p : Nat} (h : rowAt l p = none) : walk l f p = ([], p) := by
  cases f with
  | zero => rfl
  | succ f => unfold walk; rw [h]
theorem walk_some {l : List Nat} {f p : Nat} {e} (h : rowAt l p = some e) : walk l (f + 1) p = (e :: (walk l f (p + (4 + rsize l p))).1, (walk l f (p + (4 + rsize l p))).2) := by
  show (match rowAt l p with
    | none => ([], p)
    | some e => (e :: (walk l f (p + (4 + rsize l p))).1, (walk l f (p + (4 + rsize l p))).2)) = _
  rw [h]
def tupE (e : List (List Nat)) : D := .tuple (e.map S)
theorem pad3 {n : Nat} (h : n ≤ 999) : (padZ 3 (TL.numL n)).length = 3 := by
  have := TL.numL_len (n := n) (k := 3) (by decide) (by omega)
  unfold padZ
  simp
  omega
theorem row_told_eq (e : List (List Nat)) (env : Pd.Env) {n : Nat} (h : (TL.joinL [32] e).length = n) (hn : n ≤ 999) : runD run_row_told [tupE e] env = .ok (.d (S (43 :: (padZ 3 (TL.numL n) ++ TL.joinL [32] e)))) env := by
  unfold run_row_told code_row_told tupE
  rw [runD_eq]
  have hj := join_dat (s := " ") (by decide) (d := .tuple (e.map S)) (ps := e) rfl (by omega)
  have hp := pad3 hn
  have hl := len_d (TL.joinL [32] e) (by omega)
  have hf : fmtD (.str "+") = some "+" := by decide +kernel
  have hi : Pd.inR 0 1000000000000 (n : Nat) = true := by
    unfold Pd.inR
    simp
    omega
  rw [h] at hl
  have ht : tl (Str.ofString "+") = [43] := by decide
  have ha : binD .Add (S (43 :: padZ 3 (TL.numL n))) (S (TL.joinL [32] e)) = some (.d (S (43 :: (padZ 3 (TL.numL n) ++ TL.joinL [32] e)))) := by
    show (if sz ((tl (mkS (43 :: padZ 3 (TL.numL n)))).length + (tl (mkS (TL.joinL [32] e))).length) then some (Ar.d (.str (mkS (tl (mkS (43 :: padZ 3 (TL.numL n))) ++ tl (mkS (TL.joinL [32] e)))))) else none) = _
    rw [tl_mk, tl_mk, sz_le (by simp [hp, h]; omega), if_pos rfl]
    rfl
  simp [hj, evJoin, evJs, evFv, evFz, hf, hl, hi, ht, sz, hp, ha, slA]
/-- the walk over the rows, the program's -/
theorem rows_loop (l : List Nat) (h : okT l) : ∀ (f p n : Nat) (acc : List D), l.length < p + f → f < n → acc.length + f ≤ 900000 →
    whL (evIs (evCmp (cmpD .IsNot) (evVar 1) (evC .none))) (evSeq (evApp 2 (evVar 1)) (evSeq (evSet 3 (evBin (binD .Add) (evVar 3) (evCallB .len (evCons (evCall 1 run_row_told (evCons (evVar 1) evNil)) evNil)))) (evSet 1 (evCall 2 run_entry_at (evCons (evVar 0) (evCons (evVar 3) evNil)))))) n [.d (S l), .d (rowV (rowAt l p)), .o (.list acc), .d (.int (p : Nat))]
    = .nx [.d (S l), .d .none, .o (.list (acc ++ (walk l f p).1.map tupE)), .d (.int ((walk l f p).2 : Nat))]
  | f, p, 0, acc, _, hn, _ => absurd hn (by omega)
  | f, p, n + 1, acc, hp, hn, ha => by
    cases hr : rowAt l p with
    | none =>
      rw [walk_none hr]
      unfold whL
      simp [rowV]
    | some e =>
      obtain ⟨h1, h2, h3, h4, h5⟩ := rowAt_some h hr
      match f, hp, hn, ha with
      | 0, hp, _, _ => exact absurd hp (by omega)
      | f + 1, hp, hn, ha =>
        have ih := rows_loop l h f (p + (4 + rsize l p)) n (acc ++ [tupE e]) (by omega) (by omega) (by simp; omega)
        rw [walk_some hr]
        unfold whL
        have rt := fun env => row_told_eq e env h4 h5
        have hl := len_d (43 :: (padZ 3 (TL.numL (rsize l p)) ++ TL.joinL [32] e)) (by simp [pad3 h5, h4]; omega)
        have hlen : (43 :: (padZ 3 (TL.numL (rsize l p)) ++ TL.joinL [32] e)).length = 4 + rsize l p := by simp [pad3 h5, h4]; omega
        rw [hlen] at hl
        have ea := fun env => entry_at_eq l (p + (4 + rsize l p)) env h
        have hv : rowV (some e) = tupE e := rfl
        have hno : cmpD .IsNot (tupE e) .none = some true := rfl
        have hc : ((p : Int) + ((4 + rsize l p : Nat) : Int)) = ((p + (4 + rsize l p) : Nat) : Int) := by omega
        have hsz : sz acc.length = true := sz_le (by omega)
        rw [hv]
        have hsz2 : acc.length ≤ 1000000 := by omega
        simp only [evIs_eq, evCmp_eq, evD_eq, evVar_eq, evC_eq, List.getElem?_cons_succ, List.getElem?_cons_zero, bind_ok, x_d, hno, Option.map_some, ofO_ok, boolD_b, go_ok]
        have body : (evSeq (evApp 2 (evVar 1)) (evSeq (evSet 3 (evBin (binD .Add) (evVar 3) (evCallB .len (evCons (evCall 1 run_row_told (evCons (evVar 1) evNil)) evNil)))) (evSet 1 (evCall 2 run_entry_at (evCons (evVar 0) (evCons (evVar 3) evNil)))))) [.d (S l), .d (tupE e), .o (.list acc), .d (.int (p : Nat))] = .nx [.d (S l), .d (rowV (rowAt l (p + (4 + rsize l p)))), .o (.list (acc ++ [tupE e])), .d (.int ((p + (4 + rsize l p) : Nat) : Int))] := by
          simp [-Int.natCast_add, hno, rt, hl, hc, ea, evApp, ownL, hsz, hsz2, slA]
        rw [body]
        exact ih.trans (by simp)
end K93
set_option Elab.async false
set_option linter.all false
set_option maxRecDepth 100000
set_option maxHeartbeats 2000000
namespace K93
open PySem PySem.Spec PyProof.Rows L2 Pd

/-! ### logs -/
def rowsOf (l : List Nat) : List (List (List Nat)) := (walk l (l.length + 1) 10).1
def endOf (l : List Nat) : Nat := (walk l (l.length + 1) 10).2
theorem rows_from_eq (l : List Nat) (env : Pd.Env) (h : okT l) (hl : l.length ≤ 2000) : runD run_rows_from [S l] env = .ok (.d (.tuple [.list ((rowsOf l).map tupE), .int (endOf l : Nat)])) env := by
  unfold run_rows_from code_rows_from
  rw [runD_eq]
  have ea := fun env => entry_at_eq l 10 env h
  have ea : ∀ env, runD run_entry_at [S l, .int 10] env = .ok (.d (rowV (rowAt l 10))) env := ea
  have lp := rows_loop l h (l.length + 1) 10 4000 [] (by omega) (by omega) (by simp; omega)
  have lp : evWhl 4000 (evIs (evCmp (cmpD .IsNot) (evVar 1) (evC .none))) (evSeq (evApp 2 (evVar 1)) (evSeq (evSet 3 (evBin (binD .Add) (evVar 3) (evCallB .len (evCons (evCall 1 run_row_told (evCons (evVar 1) evNil)) evNil)))) (evSet 1 (evCall 2 run_entry_at (evCons (evVar 0) (evCons (evVar 3) evNil)))))) [.d (S l), .d (rowV (rowAt l 10)), .o (.list []), .d (.int 10)]
    = .nx [.d (S l), .d .none, .o (.list ([] ++ (rowsOf l).map tupE)), .d (.int (endOf l : Nat))] := lp
  generalize evWhl 4000 (evIs (evCmp (cmpD .IsNot) (evVar 1) (evC .none))) (evSeq (evApp 2 (evVar 1)) (evSeq (evSet 3 (evBin (binD .Add) (evVar 3) (evCallB .len (evCons (evCall 1 run_row_told (evCons (evVar 1) evNil)) evNil)))) (evSet 1 (evCall 2 run_entry_at (evCons (evVar 0) (evCons (evVar 3) evNil)))))) = wl at lp ⊢
  simp [evPar, evConsO, evNilO, slA, ea, lp, sz]
def allS : FV → List (List (List Nat)) → Option FV
  | F, [] => some F
  | F, e :: r => match step F e with
    | none => none
    | some G => allS G r
theorem bar_is (F : FV) {e : List (List Nat)} (he : isEnt e = true) : ∃ k n r, e = k :: n :: r ∧ ((look F n).isSome == decide (k = tl "open")) = (step F e).isNone := by
  match e, he with
  | [k, n], he =>
    refine ⟨k, n, [], rfl, ?_⟩
    have e3 : decide (k = tl "open") = false := by rw [ent_two he]; decide +kernel
    rw [e3]
    show _ = (match look F n with
      | none => none
      | some _ => some (drp F n)).isNone
    cases look F n <;> rfl
  | [k, n, a], he =>
    refine ⟨k, n, [a], rfl, ?_⟩
    show _ = (if decide (k = tl "open") then (if (look F n).isSome then none else some (put F n (a, []))) else match look F n with
      | none => none
      | some v => some (put F n (v.1, v.2 ++ [a]))).isNone
    cases decide (k = tl "open") <;> cases look F n <;> rfl
def dctZ (z : Sl) (F : FV) : Prop := z = .o (.dict (enc F)) ∨ z = .d (.dict (enc F))
abbrev barB : EvS := (evSeq (evIfS (evIs (evCmp (cmpD .Eq) (evCmpB (cmpD .In) (evIdxV 2 (evC (.int 1))) (evBor 1)) (evCmp (cmpD .Eq) (evIdxV 2 (evC (.int 0))) (evC (.str "open"))))) (evRet (evC .none)) evNx) (evSet 1 (evCall 2 run_behind_entry (evCons (evVar 1) (evCons (evVar 2) evNil)))))
theorem bar_body {F : FV} {e : List (List Nat)} (z0 z1 : Sl) {m : Nat} (h : ∀ p ∈ e, okT p) (he : isEnt e = true) (hf : few F m) (hm : m ≤ 3000) (hz : dctZ z1 F) : match step F e with
    | none => ∃ env', barB [z0, z1, .d (tupE e)] = .rt (.d .none) env'
    | some G => barB [z0, z1, .d (tupE e)] = .nx [z0, .d (.dict (enc G)), .d (tupE e)] := by
  obtain ⟨k, n, r, hk, hb⟩ := bar_is F he
  have e1 := eq_S (h k (by rw [hk]; simp)) sh_open
  have e2 := in_enc F n
  have ht : tupE e = .tuple (S k :: S n :: r.map S) := by rw [hk]; rfl
  have e3 := eq_bool (look F n).isSome (decide (k = tl "open"))
  rw [hb] at e3
  cases hs : step F e with
  | none =>
    rw [hs] at e3
    have e3 : cmpD .Eq (.bool (look F n).isSome) (.bool (decide (k = tl "open"))) = some true := e3
    generalize (look F n).isSome = b1 at e2 e3
    generalize decide (k = tl "open") = b2 at e1 e3
    show ∃ env', barB [z0, z1, .d (tupE e)] = .rt (.d .none) env'
    rw [ht]
    rcases hz with rfl | rfl <;> simp [e1, e2, e3]
  | some G =>
    rw [hs] at e3
    have e3 : cmpD .Eq (.bool (look F n).isSome) (.bool (decide (k = tl "open"))) = some false := e3
    have e4 := fun env => behind_entry_eq F G e env h he hs hf hm
    have e4 : ∀ env, runD run_behind_entry [.dict (enc F), tupE e] env = .ok (.d (.dict (enc G))) env := e4
    generalize (look F n).isSome = b1 at e2 e3
    generalize decide (k = tl "open") = b2 at e1 e3
    show barB [z0, z1, .d (tupE e)] = .nx [z0, .d (.dict (enc G)), .d (tupE e)]
    rw [ht] at e4 ⊢
    rcases hz with rfl | rfl <;> simp [e1, e2, e3, e4, slA]
theorem bar_loop : ∀ (es : List (List (List Nat))) (F : FV) (z0 z1 z2 : Sl) (m : Nat), (∀ e ∈ es, isEnt e = true ∧ ∀ p ∈ e, okT p) → few F m → m + es.length ≤ 3000 → dctZ z1 F → match allS F es with
    | none => ∃ env', forL (gN 2) barB (es.map tupE) [z0, z1, z2] = .rt (.d .none) env'
    | some G => ∃ z1' z2', dctZ z1' G ∧ forL (gN 2) barB (es.map tupE) [z0, z1, z2] = .nx [z0, z1', z2']
  | [], F, z0, z1, z2, m, _, _, _, hz => ⟨z1, z2, hz, rfl⟩
  | e :: r, F, z0, z1, z2, m, h, hf, hm, hz => by
    have hm' : m + (r.length + 1) ≤ 3000 := hm
    have b := bar_body z0 z1 (h e (by simp)).2 (h e (by simp)).1 hf (by omega) hz
    have e0 : forL (gN 2) barB ((e :: r).map tupE) [z0, z1, z2] = match barB [z0, z1, .d (tupE e)] with
      | .nx e2 => forL (gN 2) barB (r.map tupE) e2
      | .ct e2 => forL (gN 2) barB (r.map tupE) e2
      | .bk e2 => .nx e2
      | q => q := rfl
    have a0 : allS F (e :: r) = match step F e with
      | none => none
      | some G => allS G r := rfl
    rw [a0, e0]
    cases hs : step F e with
    | none =>
      rw [hs] at b
      obtain ⟨env', b⟩ := b
      rw [b]
      exact ⟨env', rfl⟩
    | some G =>
      rw [hs] at b
      have b : barB [z0, z1, .d (tupE e)] = .nx [z0, .d (.dict (enc G)), .d (tupE e)] := b
      rw [b]
      exact bar_loop r G z0 _ _ (m + 1) (fun q hq => h q (by simp [hq])) (few_step hf hs) (by omega) (.inr rfl)
theorem behind_all_eq (es : List (List (List Nat))) (env : Pd.Env) (h : ∀ e ∈ es, isEnt e = true ∧ ∀ p ∈ e, okT p) (hm : es.length ≤ 3000) : runD run_behind_all [.list (es.map tupE)] env = .ok (.d (encO (allS [] es))) env := by
  unfold run_behind_all code_behind_all
  rw [runD_eq]
  have b := bar_loop es [] (.d (.list (es.map tupE))) (.o (.dict (enc []))) .u 0 h ⟨by simp, by simp⟩ (by omega) (.inl rfl)
  have e0 : evSet 1 evDNew [.d (.list (es.map tupE)), .u, .u] = .nx [.d (.list (es.map tupE)), .o (.dict (enc [])), .u] := rfl
  have e1 : evFor (evIt (evVar 0)) (gN 2) barB [.d (.list (es.map tupE)), .o (.dict (enc [])), .u] = forL (gN 2) barB (es.map tupE) [.d (.list (es.map tupE)), .o (.dict (enc [])), .u] := rfl
  cases ha : allS [] es with
  | none =>
    rw [ha] at b
    obtain ⟨env', b⟩ := b
    rw [b] at e1
    simp only [List.map_cons, List.map_nil, List.cons_append, List.nil_append, List.replicate, Nat.reduceSub, evSeq_eq, e0, e1]
    rfl
  | some G =>
    rw [ha] at b
    obtain ⟨z1, z2, hz, b⟩ := b
    rw [b] at e1
    simp only [List.map_cons, List.map_nil, List.cons_append, List.nil_append, List.replicate, Nat.reduceSub, evSeq_eq, e0, e1]
    rcases hz with rfl | rfl <;> rfl
end K93
set_option Elab.async false
set_option linter.all false
set_option maxRecDepth 100000
set_option maxHeartbeats 2000000
namespace K93
open PySem PySem.Spec PyProof.Rows L2 Pd

/-! ### the law's log -/
abbrev lawB : EvS := (evIfS (evIs (evCmp (cmpD .IsNot) (evVar 1) (evC .none))) (evSeq (evIfS (evIs (evCmp (cmpD .IsNot) (evCall 2 run__law_bar (evCons (evVar 5) (evCons (evIdxV 1 (evC (.int 0))) evNil))) (evC .none))) (evRet (evC .none)) evNx) (evSeq (evPar [3, 4, 5] (evConsO (evBin (binD .Add) (evVar 3) (evLst (evCons (evIdxV 1 (evC (.int 0))) evNil))) (evConsO (evBin (binD .Add) (evVar 4) (evIdxV 1 (evC (.int 1)))) (evConsO (evCall 2 run__law_behind (evCons (evVar 5) (evCons (evIdxV 1 (evC (.int 0))) evNil))) evNilO)))) (evSet 1 (evCall 2 run__law_row_in (evCons (evVar 0) (evCons (evVar 4) evNil)))))) evNx)
theorem rowL_none {l : List Nat} {p : Nat} (h : rowAt l p = none) : rowL l p = .none := by unfold rowL; rw [h]
theorem rowL_some {l : List Nat} {p : Nat} {e} (h : rowAt l p = some e) : rowL l p = .tuple [tupE e, .int (4 + (rsize l p : Nat))] := by unfold rowL; rw [h]; rfl
theorem lawB_none {l : List Nat} {p : Nat} (z2 z3 z4 z5 z6 : Sl) (h : rowAt l p = none) : lawB [.d (S l), .d (rowL l p), z2, z3, z4, z5, z6] = .nx [.d (S l), .d (rowL l p), z2, z3, z4, z5, z6] := by
  rw [rowL_none h]
  simp
theorem isnot_lst (F : FV) (e : List (List Nat)) : cmpD .IsNot (barV F e).x .none = some (step F e).isNone := by
  unfold barV
  cases step F e <;> rfl
theorem lawB_some {l : List Nat} {p : Nat} {e} {F : FV} {acc : List D} (z2 z5 z6 : Sl) {m : Nat} (hl : okT l) (h : rowAt l p = some e) (hf : few F m) (hm : m ≤ 3000) (ha : acc.length ≤ 900000) (hz : dctZ z5 F) : match step F e with
    | none => ∃ env', lawB [.d (S l), .d (rowL l p), z2, .o (.list acc), .d (.int (p : Nat)), z5, z6] = .rt (.d .none) env'
    | some G => lawB [.d (S l), .d (rowL l p), z2, .o (.list acc), .d (.int (p : Nat)), z5, z6] = .nx [.d (S l), .d (rowL l (p + (4 + rsize l p))), z2, .o (.list (acc ++ [tupE e])), .d (.int ((p + (4 + rsize l p) : Nat) : Int)), .d (.dict (enc G)), z6] := by
  obtain ⟨h1, h2, h3, h4, h5⟩ := rowAt_some hl h
  have e1 := fun env => law_bar_eq F e env h3 h2
  have e1 : ∀ env, runD run__law_bar [.dict (enc F), tupE e] env = .ok (barV F e) env := e1
  have e2 := isnot_lst F e
  rw [rowL_some h]
  cases hs : step F e with
  | none =>
    rw [hs] at e2
    have e2 : cmpD .IsNot (barV F e).x .none = some true := e2
    show ∃ env', lawB _ = _
    rcases hz with rfl | rfl <;> simp [e1, e2]
  | some G =>
    rw [hs] at e2
    have e2 : cmpD .IsNot (barV F e).x .none = some false := e2
    have e4 := fun env => law_behind_eq F G e env h3 h2 hs hf hm
    have e4 : ∀ env, runD run__law_behind [.dict (enc F), tupE e] env = .ok (.d (.dict (enc G))) env := e4
    have e5 := fun env => row_in_eq l (p + (4 + rsize l p)) env hl
    have hc : ((p : Int) + (4 + (rsize l p : Nat))) = ((p + (4 + rsize l p) : Nat) : Int) := by omega
    have e6 : binD .Add (.list acc) (.list [tupE e]) = some (.o (.list (acc ++ [tupE e]))) := by
      show (if sz (acc.length + [tupE e].length) then some (Ar.o (.list (acc ++ [tupE e]))) else none) = _
      rw [sz_le (by simp; omega), if_pos rfl]
    show lawB _ = _
    rcases hz with rfl | rfl <;> simp [-Int.natCast_add, e1, e2, e4, e5, e6, hc, evPar, evConsO, evNilO, slA, sz]
theorem lawB_loop (l : List Nat) (hl : okT l) : ∀ (xs : List D) (f p m : Nat) (F : FV) (acc : List D) (z2 z5 z6 : Sl), l.length < p + f → f ≤ xs.length → few F m → m + f ≤ 3000 → acc.length + f ≤ 900000 → dctZ z5 F → match allS F (walk l f p).1 with
    | none => ∃ env', forL (gN 2) lawB xs [.d (S l), .d (rowL l p), z2, .o (.list acc), .d (.int (p : Nat)), z5, z6] = .rt (.d .none) env'
    | some G => ∃ z1 z2' z5', dctZ z5' G ∧ forL (gN 2) lawB xs [.d (S l), .d (rowL l p), z2, .o (.list acc), .d (.int (p : Nat)), z5, z6] = .nx [.d (S l), z1, z2', .o (.list (acc ++ (walk l f p).1.map tupE)), .d (.int ((walk l f p).2 : Nat)), z5', z6]
  | [], f, p, m, F, acc, z2, z5, z6, hp, hx, hf, hm, ha, hz => by
    have hn := rowAt_out (l := l) (p := p) (by simp at hx; omega)
    rw [walk_none hn]
    show ∃ z1 z2' z5', dctZ z5' F ∧ _
    exact ⟨.d (rowL l p), z2, z5, hz, by simp [forL]⟩
  | x :: xs, f, p, m, F, acc, z2, z5, z6, hp, hx, hf, hm, ha, hz => by
    have e0 : forL (gN 2) lawB (x :: xs) [.d (S l), .d (rowL l p), z2, .o (.list acc), .d (.int (p : Nat)), z5, z6] = match lawB [.d (S l), .d (rowL l p), .d x, .o (.list acc), .d (.int (p : Nat)), z5, z6] with
      | .nx e2 => forL (gN 2) lawB xs e2
      | .ct e2 => forL (gN 2) lawB xs e2
      | .bk e2 => .nx e2
      | q => q := rfl
    rw [e0]
    cases hr : rowAt l p with
    | none =>
      rw [lawB_none _ _ _ _ _ hr]
      have w := walk_none (f := f) hr
      have key : ∀ (ys : List D) (z2 : Sl), ∃ z2', forL (gN 2) lawB ys [.d (S l), .d (rowL l p), z2, .o (.list acc), .d (.int (p : Nat)), z5, z6] = .nx [.d (S l), .d (rowL l p), z2', .o (.list acc), .d (.int (p : Nat)), z5, z6] := by
        intro ys
        induction ys with
        | nil => exact fun z2 => ⟨z2, rfl⟩
        | cons y ys ih =>
          intro z2
          obtain ⟨z2', ih⟩ := ih (.d y)
          refine ⟨z2', ?_⟩
          have e1 : forL (gN 2) lawB (y :: ys) [.d (S l), .d (rowL l p), z2, .o (.list acc), .d (.int (p : Nat)), z5, z6] = match lawB [.d (S l), .d (rowL l p), .d y, .o (.list acc), .d (.int (p : Nat)), z5, z6] with
            | .nx e2 => forL (gN 2) lawB ys e2
            | .ct e2 => forL (gN 2) lawB ys e2
            | .bk e2 => .nx e2
            | q => q := rfl
          rw [e1, lawB_none _ _ _ _ _ hr]
          exact ih
      obtain ⟨z2', k⟩ := key xs (.d x)
      rw [w]
      show ∃ z1 z2' z5', dctZ z5' F ∧ _
      exact ⟨.d (rowL l p), z2', z5, hz, k.trans (by simp)⟩
    | some e =>
      obtain ⟨h1, h2, h3, h4, h5⟩ := rowAt_some hl hr
      match f, hp, hx, hm, ha with
      | 0, hp, _, _, _ => exact absurd hp (by omega)
      | f + 1, hp, hx, hm, ha =>
        have b := lawB_some (.d x) z5 z6 hl hr hf (by omega) (acc := acc) (by omega) hz
        have a0 : allS F (walk l (f + 1) p).1 = match step F e with
          | none => none
          | some G => allS G (walk l f (p + (4 + rsize l p))).1 := by rw [walk_some hr]; rfl
        rw [a0, walk_some hr]
        cases hs : step F e with
        | none =>
          rw [hs] at b
          obtain ⟨env', b⟩ := b
          rw [b]
          exact ⟨env', rfl⟩
        | some G =>
          rw [hs] at b
          have b : lawB [.d (S l), .d (rowL l p), .d x, .o (.list acc), .d (.int (p : Nat)), z5, z6] = .nx [.d (S l), .d (rowL l (p + (4 + rsize l p))), .d x, .o (.list (acc ++ [tupE e])), .d (.int ((p + (4 + rsize l p) : Nat) : Int)), .d (.dict (enc G)), z6] := b
          rw [b]
          have ih := lawB_loop l hl xs f (p + (4 + rsize l p)) (m + 1) G (acc ++ [tupE e]) (.d x) (.d (.dict (enc G))) z6 (by omega) (by simp at hx; omega) (few_step hf hs) (by omega) (by simp; omega) (.inr rfl)
          show match allS G (walk l f (p + (4 + rsize l p))).1 with
            | none => _
            | some G => _
          cases hq : allS G (walk l f (p + (4 + rsize l p))).1 with
          | none =>
            rw [hq] at ih
            exact ih
          | some G' =>
            rw [hq] at ih
            obtain ⟨z1, z2', z5', hz', ih⟩ := ih
            exact ⟨z1, z2', z5', hz', ih.trans (by simp)⟩
end K93
set_option Elab.async false
set_option linter.all false
set_option maxRecDepth 100000
set_option maxHeartbeats 2000000
namespace K93
open PySem PySem.Spec PyProof.Rows L2 Pd

/-! ### a tape's log -/
def turnT (l : List Nat) : List Nat := (l.drop 1).take 9
def headL (l : List Nat) : Bool := decide (l.take 1 = [43]) && (turnT l).all isFig
def logF (l : List Nat) : Option FV := if headL l then allS [] (rowsOf l) else none
def turnN (l : List Nat) : Int := (NumText.digitsVal (turnT l) : Nat)
def progD (i : Int) (l : List Nat) (F : FV) : List (D × D) := [(.str "tape", .int i), (.str "turn", .int (turnN l)), (.str "entries", .list ((rowsOf l).map tupE)), (.str "end", .int (endOf l : Nat)), (.str "fields", .dict (enc F))]
def lawD (l : List Nat) (F : FV) : List (D × D) := [(.str "turn", .int (turnN l)), (.str "entries", .list ((rowsOf l).map tupE)), (.str "end", .int (endOf l : Nat)), (.str "fields", .dict (enc F))]
def progA (i : Int) (l : List Nat) : Ar := match logF l with
  | some F => .o (.dict (progD i l F))
  | none => .d .none
def lawA (l : List Nat) : Ar := match logF l with
  | some F => .o (.dict (lawD l F))
  | none => .d .none
theorem nd5 (a b c d e : EvE) : (([("tape", a), ("turn", b), ("entries", c), ("end", d), ("fields", e)] : List (PySem.Str × EvE)).map (·.1)).Nodup ∧ ([("tape", a), ("turn", b), ("entries", c), ("end", d), ("fields", e)] : List (PySem.Str × EvE)).length ≤ 15 := by
  show (["tape", "turn", "entries", "end", "fields"] : List PySem.Str).Nodup ∧ 5 ≤ 15
  decide +kernel
theorem nd4 (b c d e : EvE) : (([("turn", b), ("entries", c), ("end", d), ("fields", e)] : List (PySem.Str × EvE)).map (·.1)).Nodup ∧ ([("turn", b), ("entries", c), ("end", d), ("fields", e)] : List (PySem.Str × EvE)).length ≤ 15 := by
  show (["turn", "entries", "end", "fields"] : List PySem.Str).Nodup ∧ 4 ≤ 15
  decide +kernel
theorem dsp5 (a b c d e : EvE) (env : Pd.Env) : evDsp [("tape", a), ("turn", b), ("entries", c), ("end", d), ("fields", e)] env = (evVals [("tape", a), ("turn", b), ("entries", c), ("end", d), ("fields", e)] env).bind fun kvs e => .ok (.o (.dict kvs)) e := if_pos (nd5 a b c d e)
theorem dsp4 (b c d e : EvE) (env : Pd.Env) : evDsp [("turn", b), ("entries", c), ("end", d), ("fields", e)] env = (evVals [("turn", b), ("entries", c), ("end", d), ("fields", e)] env).bind fun kvs e => .ok (.o (.dict kvs)) e := if_pos (nd4 b c d e)
theorem walk_ents {l : List Nat} (h : okT l) : ∀ (f p : Nat), (∀ e ∈ (walk l f p).1, isEnt e = true ∧ ∀ q ∈ e, okT q) ∧ (walk l f p).1.length ≤ f
  | 0, p => ⟨fun e he => (by cases he), Nat.le_refl _⟩
  | f + 1, p => by
    cases hr : rowAt l p with
    | none =>
      rw [walk_none hr]
      exact ⟨fun e he => (by cases he), Nat.zero_le _⟩
    | some e =>
      have ih := walk_ents h f (p + (4 + rsize l p))
      obtain ⟨h1, h2, h3, h4, h5⟩ := rowAt_some h hr
      rw [walk_some hr]
      refine ⟨fun q hq => ?_, by simp; exact ih.2⟩
      rcases List.mem_cons.mp hq with rfl | hq
      · exact ⟨h2, h3⟩
      · exact ih.1 q hq
theorem idx_str0 {l : List Nat} (h : okT l) (hl : l ≠ []) : ∃ c, idxD (S l) (.int 0) = some (S [c]) ∧ l.take 1 = [c] := by
  cases l with
  | nil => exact absurd rfl hl
  | cons c r =>
    refine ⟨c, ?_, by simp⟩
    show (if sz (tl (mkS (c :: r))).length then (atI (tl (mkS (c :: r))) 0).map fun c => PyData.str (mkS [c]) else none) = _
    rw [tl_mk, sz_le (by have := h.2; omega), if_pos rfl]
    simp
theorem turn_slc {l : List Nat} (h : okT l) : slcD (S l) (some 1) (some 10) = some (.d (S (turnT l))) := slc_nat (a := 1) (b := 10) h.2 rfl rfl
theorem okT_turn {l : List Nat} (h : okT l) : okT (turnT l) := okT_cut h 1 9
theorem log_on_eq (l : List Nat) (dev : D) (i : Int) (env : Pd.Env) (h : okT l) (hl : 60 ≤ l.length) (hl2 : l.length ≤ 2000) (hd : idxD dev (.int i) = some (S l)) : runD run_log_on [dev, .int i] env = .ok (progA i l) env := by
  unfold run_log_on code_log_on
  rw [runD_eq]
  obtain ⟨c, hc, ht⟩ := idx_str0 h (by intro z; rw [z] at hl; simp at hl)
  have oc : okT [c] := ⟨fun x hx => h.1 x (by rw [← ht] at hx; exact List.mem_of_mem_take hx), by simp⟩
  have n1 := (ne_S oc sh_plus).trans (by rw [show ([c] : List Nat) = l.take 1 from ht.symm]; rfl : _ = some (!decide (l.take 1 = [43])))
  have s1 := turn_slc h
  have af := fun env => are_figures_eq (turnT l) env (okT_turn h).2
  have rf := fun env => rows_from_eq l env h hl2
  obtain ⟨w1, w2⟩ := walk_ents h (l.length + 1) 10
  have ba := fun env => behind_all_eq (rowsOf l) env w1 (Nat.le_trans w2 (by omega))
  have tln : (turnT l).length = 9 := by unfold turnT; simp; omega
  unfold progA logF headL
  generalize decide (l.take 1 = [43]) = b1 at n1 ⊢
  cases b1 with
  | false => simp [hd, hc, n1, slA]
  | true =>
    cases b2 : (turnT l).all isFig with
    | false => simp [hd, hc, n1, slA, s1, af, b2]
    | true =>
      have i1 := int_figs b2 (by omega) (by omega)
      cases b3 : allS [] (rowsOf l) with
      | none => simp [hd, hc, n1, slA, s1, af, b2, rf, ba, gT, gNs, encO, b3]
      | some F => simp [hd, hc, n1, slA, s1, af, b2, rf, ba, gT, gNs, encO, b3, dsp5, evVals, i1, progD, turnN]
theorem log_law_eq (l : List Nat) (env : Pd.Env) (h : okT l) (hl : 60 ≤ l.length) (hl2 : l.length ≤ 2000) : runD run__law_log [S l] env = .ok (lawA l) env := by
  unfold run__law_log code__law_log
  rw [runD_eq]
  obtain ⟨c, hc, ht⟩ := idx_str0 h (by intro z; rw [z] at hl; simp at hl)
  have oc : okT [c] := ⟨fun x hx => h.1 x (by rw [← ht] at hx; exact List.mem_of_mem_take hx), by simp⟩
  have n1 := (ne_S oc sh_plus).trans (by rw [show ([c] : List Nat) = l.take 1 from ht.symm]; rfl : _ = some (!decide (l.take 1 = [43])))
  have s1 := turn_slc h
  have tln : (turnT l).length = 9 := by unfold turnT; simp; omega
  have af : evCallB .all (evCons (evComp (evIt (evSlc (evVar 0) (evPart (evC (.int 1))) (evPart (evC (.int 10))))) (gN 6) (fun env => .ok true env) (evChn (cmpD .LtE) (cmpD .LtE) (evC (.str "0")) (evVar 6) (evC (.str "9"))) [6]) evNil) [.d (S l), .u, .u, .u, .u, .u, .u] = .ok (.d (.bool ((turnT l).all isFig))) [.d (S l), .u, .u, .u, .u, .u, .u] := by
    have := comp_all (it := evIt (evSlc (evVar 0) (evPart (evC (.int 1))) (evPart (evC (.int 10))))) (T := evChn (cmpD .LtE) (cmpD .LtE) (evC (.str "0")) (evVar 6) (evC (.str "9"))) (v := 6) (items := (turnT l).map fun c => S [c]) (p := fun x => match x with
      | .str s => (tl s).all isFig
      | _ => false) (e0 := [.d (S l), .u, .u, .u, .u, .u, .u]) (by simp [s1, itemsD]) rfl (sz_le (by simp [tln])) (fun x hx => by
        obtain ⟨c, _, rfl⟩ := List.mem_map.mp hx
        rw [chn_fig (c := c) (by decide) (by decide) rfl]
        show Rs.ok (Ar.d (.bool (isFig c))) _ = .ok (Ar.d (.bool ([c].all isFig))) _
        simp)
    rw [this, List.all_map]
    congr 4
    funext c
    show [c].all isFig = isFig c
    simp
  have ri := fun env => row_in_eq l 10 env h
  have ri : ∀ env, runD run__law_row_in [S l, .int 10] env = .ok (.d (rowL l 10)) env := ri
  have hlen := len_d l (by omega)
  have lp := lawB_loop l h (rngD 0 l.length) (l.length + 1 - 10) 10 0 [] [] .u (.o (.dict [])) .u (by omega) (by simp [rngD]) ⟨by simp, by simp⟩ (by omega) (by simp; omega) (.inl rfl)
  have wf : ∀ f p, l.length < p + f → walk l (f + 10) p = walk l f p := by
    intro f
    induction f with
    | zero =>
      intro p hp
      rw [walk_none (rowAt_out (by omega)), walk_none (rowAt_out (by omega))]
    | succ f ih =>
      intro p hp
      cases hr : rowAt l p with
      | none => rw [walk_none hr, walk_none hr]
      | some e => rw [show f + 1 + 10 = (f + 10) + 1 by omega, walk_some hr, walk_some hr, ih _ (by omega)]
  have w0 : walk l (l.length + 1 - 10) 10 = walk l (l.length + 1) 10 := by
    have := wf (l.length + 1 - 10) 10 (by omega)
    rw [← this, show l.length + 1 - 10 + 10 = l.length + 1 by omega]
  rw [w0] at lp
  have hr : Pd.inR (-1000000) 1000000 (l.length : Nat) = true := by
    unfold Pd.inR
    simp
    omega
  have lf : evFor (evRng1 (evCons (evCallV .len 0) evNil)) (gN 2) lawB [.d (S l), .d (rowL l 10), .u, .o (.list []), .d (.int 10), .o (.dict []), .u] = forL (gN 2) lawB (rngD 0 l.length) [.d (S l), .d (rowL l 10), .u, .o (.list []), .d (.int 10), .o (.dict []), .u] := by
    simp [-evFor_eq, evFor, evRng1, hlen, hr]
  have b4 : allS [] (walk l (l.length + 1) 10).1 = allS [] (rowsOf l) := rfl
  rw [b4] at lp
  unfold lawA logF headL
  generalize decide (l.take 1 = [43]) = b1 at n1 ⊢
  cases b1 with
  | false => simp [-evCallB_eq, -evComp_eq, hc, n1, slA]
  | true =>
    cases b2 : (turnT l).all isFig with
    | false => simp [-evCallB_eq, -evComp_eq, hc, n1, slA, af, b2]
    | true =>
      have i1 := int_figs b2 (by omega) (by omega)
      cases b3 : allS [] (rowsOf l) with
      | none =>
        rw [b3] at lp
        obtain ⟨env', lp⟩ := lp
        have lp := lf.trans lp
        simp [-evCallB_eq, -evComp_eq, -evFor_eq, hc, n1, slA, af, b2, evPar, evConsO, evNilO, evDNew, sz, ri, lp]
      | some F =>
        rw [b3] at lp
        obtain ⟨z1, z2, z5, hz, lp⟩ := lp
        have lp := lf.trans lp
        rcases hz with rfl | rfl <;>
        simp [-evCallB_eq, -evComp_eq, -evFor_eq, cB_int, hc, n1, slA, s1, af, b2, evPar, evConsO, evNilO, evDNew, sz, ri, lp, dsp4, evVals, i1, lawD, turnN, rowsOf, endOf]
end K93
set_option Elab.async false
set_option linter.all false
set_option maxRecDepth 100000
set_option maxHeartbeats 2000000
namespace K93
open PySem PySem.Spec PyProof.Rows L2 Pd

/-! ### listed fields -/
def tripV (q : List Nat × (List Nat × List (List Nat))) : D := .tuple [S q.1, S q.2.1, .tuple (q.2.2.map S)]
def listV (F : FV) : List D := sortD (F.map tripV)
theorem alike_strs : ∀ xs ys : List (List Nat), PySem.W.alikeAll (xs.map S) (ys.map S) = true
  | [], _ => by rw [List.map_nil, PySem.W.alikeAll]
  | _ :: _, [] => by rw [List.map_nil, List.map_cons, PySem.W.alikeAll]
  | x :: xs, y :: ys => by
    rw [List.map_cons, List.map_cons, PySem.W.alikeAll, alike_strs xs ys]
    simp only [PySem.W.alike, Bool.and_self]
theorem alike_trip (a b) : PySem.W.alike (tripV a) (tripV b) = true := by
  unfold tripV
  simp only [PySem.W.alike, PySem.W.alikeAll, alike_strs, Bool.and_self]
theorem alikeB_trip (F : FV) : alikeB (F.map tripV) = true := by
  unfold alikeB
  rw [List.all_eq_true]
  intro x hx
  rw [List.all_eq_true]
  intro y hy
  obtain ⟨a, _, rfl⟩ := List.mem_map.mp hx
  obtain ⟨b, _, rfl⟩ := List.mem_map.mp hy
  exact alike_trip a b
theorem sortable_trip (F : FV) : sortableB (F.map tripV) = true := by
  unfold sortableB
  rw [Bool.or_eq_true]
  left
  rw [List.all_eq_true]
  intro x hx
  obtain ⟨a, _, rfl⟩ := List.mem_map.mp hx
  rfl
theorem noDict_strs : ∀ xs : List (List Nat), PyData.hasDictAll (xs.map S) = false
  | [] => rfl
  | x :: xs => by
    rw [List.map_cons]
    show ((S x).hasDict || PyData.hasDictAll (xs.map S)) = false
    rw [noDict_strs xs]
    rfl
theorem noDict_trip (q) : (tripV q).hasDict = false := by
  unfold tripV
  simp [PyData.hasDict, PyData.hasDictAll, noDict_strs]
theorem noDict_trips : ∀ F : FV, PyData.hasDictAll (F.map tripV) = false
  | [] => rfl
  | q :: F => by
    rw [List.map_cons]
    show ((tripV q).hasDict || PyData.hasDictAll (F.map tripV)) = false
    rw [noDict_trip, noDict_trips F]
    rfl
theorem noDict_fvals : ∀ F : FV, PyData.hasDictAll ((enc F).map (·.2)) = false
  | [] => rfl
  | q :: F => by
    show ((fval q.2).hasDict || PyData.hasDictAll ((enc F).map (·.2))) = false
    rw [noDict_fvals F]
    simp [fval, PyData.hasDict, PyData.hasDictAll, noDict_strs]
theorem depth_strs : ∀ xs : List (List Nat), PyData.depthAll (xs.map S) = 0
  | [] => rfl
  | x :: xs => by
    rw [List.map_cons]
    have := depth_strs xs
    simp [PyData.depthAll, PyData.depth, this]
theorem depth_trip (q) : (tripV q).depth ≤ 60 := by
  unfold tripV
  simp [PyData.depth, PyData.depthAll, depth_strs]
theorem sorted_trip {F : FV} (h : F.length ≤ 3000) : callD .sorted [.list (F.map tripV)] = some (.o (.list (listV F))) := by
  show (if alikeB (F.map tripV) && (sortableB (F.map tripV) && (sz (F.map tripV).length && (F.map tripV).all fun d => !d.hasDict && Nat.ble d.depth 60)) then some (Ar.o (.list (sortD (F.map tripV)))) else none) = _
  have ha : ((F.map tripV).all fun d => !d.hasDict && Nat.ble d.depth 60) = true := by
    rw [List.all_eq_true]
    intro x hx
    obtain ⟨a, _, rfl⟩ := List.mem_map.mp hx
    rw [noDict_trip, Nat.ble_eq_true_of_le (depth_trip a)]
    rfl
  rw [alikeB_trip, sortable_trip, sz_le (by simp; omega), ha, if_pos (by rfl)]
  rfl
theorem listed_eq (F : FV) (env : Pd.Env) (h : F.length ≤ 3000) : runD run_listed [.dict (enc F)] env = .ok (.o (.list (listV F))) env := by
  unfold run_listed code_listed
  rw [runD_eq]
  have hc : compL (gT [(gN 1), (gT [(gN 2), (gN 3)])]) (fun env => .ok true env) (evTup (evCons (evVar 1) (evCons (evVar 2) (evCons (evVar 3) evNil)))) [1, 2, 3] (itemsK (enc F)) [.u, .u, .u, .u] = some (F.map tripV, [.u, .u, .u, .u]) := by
    have e0 : itemsK (enc F) = F.map fun q => .tuple [S q.1, fval q.2] := by unfold itemsK enc; rw [List.map_map]; rfl
    have e1 : F.map tripV = (F.map fun q => (.tuple [S q.1, fval q.2] : D)).map fun x => match x with
      | .tuple [a, .tuple [b, c]] => .tuple [a, b, c]
      | _ => .none := by rw [List.map_map]; rfl
    rw [e0, e1]
    refine compL_map _ _ fun x hx => ?_
    obtain ⟨q, _, rfl⟩ := List.mem_map.mp hx
    exact ⟨[.u, .d (S q.1), .d (S q.2.1), .d (.tuple (q.2.2.map S))], _, [.u, .d (S q.1), .d (S q.2.1), .d (.tuple (q.2.2.map S))], rfl, rfl, rfl, rfl⟩
  have hs := sorted_trip h
  have hz : (enc F).length ≤ 1000000 := by rw [enc_len]; omega
  simp [evCompI, dictOf, noDict_fvals, hc, noDict_trips, hs, sz, hz]
theorem law_listed_eq (F : FV) (env : Pd.Env) (h : F.length ≤ 3000) : runD run__law_listed [.dict (enc F)] env = .ok (.o (.list (listV F))) env := by
  unfold run__law_listed code__law_listed
  rw [runD_eq]
  have hc : compL (gT [(gN 1), (gN 2)]) (fun env => .ok true env) (evTup (evCons (evVar 1) (evCons (evIdxV 2 (evC (.int 0))) (evCons (evIdxV 2 (evC (.int 1))) evNil)))) [1, 2] (itemsK (enc F)) [.u, .u, .u] = some (F.map tripV, [.u, .u, .u]) := by
    have e0 : itemsK (enc F) = F.map fun q => .tuple [S q.1, fval q.2] := by unfold itemsK enc; rw [List.map_map]; rfl
    have e1 : F.map tripV = (F.map fun q => (.tuple [S q.1, fval q.2] : D)).map fun x => match x with
      | .tuple [a, .tuple [b, c]] => .tuple [a, b, c]
      | _ => .none := by rw [List.map_map]; rfl
    rw [e0, e1]
    refine compL_map _ _ fun x hx => ?_
    obtain ⟨q, _, rfl⟩ := List.mem_map.mp hx
    exact ⟨[.u, .d (S q.1), .d (fval q.2)], _, [.u, .d (S q.1), .d (fval q.2)], rfl, rfl, rfl, rfl⟩
  have hs := sorted_trip h
  have hz : (enc F).length ≤ 1000000 := by rw [enc_len]; omega
  simp [evCompI, dictOf, noDict_fvals, hc, noDict_trips, hs, sz, hz]
end K93
set_option Elab.async false
set_option linter.all false
set_option maxRecDepth 100000
set_option maxHeartbeats 2000000
namespace K93
open PySem PySem.Spec PyProof.Rows L2 Pd

/-! ### stores -/
structure Tape (l : List Nat) (n : Nat) : Prop where
  sg : isSigns l = true
  ln : l.length = n
theorem Tape.ok {l : List Nat} {n : Nat} (h : Tape l n) (hn : n ≤ 2000) : okT l := by
  refine ⟨fun c hc => ?_, by rw [h.ln]; omega⟩
  have := List.all_eq_true.mp h.sg c hc
  unfold isPrt at this
  simp at this
  omega
def sel (a b : List Nat) : Option (Int × List Nat × FV) := match logF a, logF b with
  | none, none => none
  | none, some G => some (1, b, G)
  | some F, none => some (0, a, F)
  | some F, some G => if decide (turnN a < turnN b) then some (1, b, G) else some (0, a, F)
def selP : Option (Int × List Nat × FV) → D
  | none => .none
  | some q => .dict (progD q.1 q.2.1 q.2.2)
def selL : Option (Int × List Nat × FV) → D
  | none => .none
  | some q => .dict (lawD q.2.1 q.2.2)
@[simp] theorem p_turn (i l F) : lookD (progD i l F) "turn" = some (.int (turnN l)) := by rfl
@[simp] theorem p_ents (i l F) : lookD (progD i l F) "entries" = some (.list ((rowsOf l).map tupE)) := by rfl
@[simp] theorem p_end (i l F) : lookD (progD i l F) "end" = some (.int (endOf l : Nat)) := by rfl
@[simp] theorem p_flds (i l F) : lookD (progD i l F) "fields" = some (.dict (enc F)) := by rfl
@[simp] theorem l_turn (l F) : lookD (lawD l F) "turn" = some (.int (turnN l)) := by rfl
@[simp] theorem l_ents (l F) : lookD (lawD l F) "entries" = some (.list ((rowsOf l).map tupE)) := by rfl
@[simp] theorem l_end (l F) : lookD (lawD l F) "end" = some (.int (endOf l : Nat)) := by rfl
@[simp] theorem l_flds (l F) : lookD (lawD l F) "fields" = some (.dict (enc F)) := by rfl
section
variable {a b : List Nat} {n : Nat}
theorem read_store_eq (ha : Tape a n) (hb : Tape b n) (h1 : 60 ≤ n) (h2 : n ≤ 2000) (env : Pd.Env) : runD run_read_store [.tuple [S a, S b]] env = .ok (.d (selP (sel a b))) env := by
  unfold run_read_store code_read_store
  rw [runD_eq]
  have e1 := fun env => log_on_eq a (.tuple [S a, S b]) 0 env (ha.ok h2) (by rw [ha.ln]; exact h1) (by rw [ha.ln]; exact h2) rfl
  have e2 := fun env => log_on_eq b (.tuple [S a, S b]) 1 env (hb.ok h2) (by rw [hb.ln]; exact h1) (by rw [hb.ln]; exact h2) rfl
  unfold progA at e1 e2
  unfold sel
  cases hf : logF a with
  | none =>
    rw [hf] at e1
    cases hg : logF b with
    | none => rw [hg] at e2; simp [evPar, evConsO, evNilO, e1, e2, slA, selP]
    | some G => rw [hg] at e2; simp [evPar, evConsO, evNilO, e1, e2, slA, selP]
  | some F =>
    rw [hf] at e1
    cases hg : logF b with
    | none => rw [hg] at e2; simp [evPar, evConsO, evNilO, e1, e2, slA, selP]
    | some G =>
      rw [hg] at e2
      cases ht : decide (turnN a < turnN b) <;> simp [evPar, evConsO, evNilO, e1, e2, slA, selP, ht]
theorem law_store_eq (ha : Tape a n) (hb : Tape b n) (h1 : 60 ≤ n) (h2 : n ≤ 2000) (env : Pd.Env) : runD run__law_store [.tuple [S a, S b]] env = .ok (.d (selL (sel a b))) env := by
  unfold run__law_store code__law_store
  rw [runD_eq]
  have e1 := fun env => log_law_eq a env (ha.ok h2) (by rw [ha.ln]; exact h1) (by rw [ha.ln]; exact h2)
  have e2 := fun env => log_law_eq b env (hb.ok h2) (by rw [hb.ln]; exact h1) (by rw [hb.ln]; exact h2)
  unfold lawA at e1 e2
  unfold sel
  cases hf : logF a with
  | none =>
    rw [hf] at e1
    cases hg : logF b with
    | none => rw [hg] at e2; simp [evPar, evConsO, evNilO, e1, e2, slA, selL]
    | some G => rw [hg] at e2; simp [evPar, evConsO, evNilO, e1, e2, slA, selL]
  | some F =>
    rw [hf] at e1
    cases hg : logF b with
    | none => rw [hg] at e2; simp [evPar, evConsO, evNilO, e1, e2, slA, selL]
    | some G =>
      rw [hg] at e2
      cases ht : decide (turnN a < turnN b) <;> simp [evPar, evConsO, evNilO, e1, e2, slA, selL, ht]
theorem is_tuple_eq (ds : List D) (m : Int) (env : Pd.Env) : runD run_is_tuple [.tuple ds, .int m] env = .ok (.d (.bool (decide ((ds.length : Int) = m)))) env := by
  unfold run_is_tuple code_is_tuple
  rw [runD_eq]
  simp
theorem is_device_eq (ha : Tape a n) (hb : Tape b n) (h1 : 60 ≤ n) (h2 : n ≤ 2000) (env : Pd.Env) : runD run_is_device_any [.tuple [S a, S b]] env = .ok (.d (.bool true)) env := by
  unfold run_is_device_any code_is_device_any
  rw [runD_eq]
  have la := ha.ok h2
  have lb := hb.ok h2
  have e1 := fun env => are_signs_eq a env la.2
  have e2 := fun env => are_signs_eq b env lb.2
  rw [ha.sg] at e1
  rw [hb.sg] at e2
  have e3 : evCallB .all (evCons (evComp (evIt (evVar 0)) (gN 1) (fun env => .ok true env) (evCall 1 run_are_signs (evCons (evVar 1) evNil)) [1]) evNil) [.d (.tuple [S a, S b]), .u] = .ok (.d (.bool true)) [.d (.tuple [S a, S b]), .u] := by
    have := comp_all (it := evIt (evVar 0)) (T := evCall 1 run_are_signs (evCons (evVar 1) evNil)) (v := 1) (items := [S a, S b]) (p := fun _ => true) (e0 := [.d (.tuple [S a, S b]), .u]) rfl rfl rfl (fun x hx => by
      rcases List.mem_cons.mp hx with rfl | hx
      · simp [e1]
      · rw [List.mem_singleton.mp hx]
        simp [e2])
    exact this
  have l1 := len_d a la.2
  have l2 := len_d b lb.2
  rw [ha.ln] at l1
  rw [hb.ln] at l2
  have c1 : (decide ((60 : Int) ≤ (n : Nat)) : Bool) = true := decide_eq_true (by omega)
  have c2 : (decide ((n : Int) ≤ 2000) : Bool) = true := decide_eq_true (by omega)
  have cl : ∀ er env, evCallB .len er env = (er env).bind fun xs e => ofO (callD .len xs) e := fun _ _ => rfl
  simp [-evCallB_eq, -evComp_eq, cl, is_tuple_eq, e3, l1, l2, c1, c2]
theorem is_store_eq (ha : Tape a n) (hb : Tape b n) (h1 : 60 ≤ n) (h2 : n ≤ 2000) (env : Pd.Env) : runD run_is_store [.tuple [S a, S b]] env = .ok (.d (.bool (sel a b).isSome)) env := by
  unfold run_is_store code_is_store
  rw [runD_eq]
  have e1 := is_device_eq ha hb h1 h2
  have e2 := read_store_eq ha hb h1 h2
  cases h : sel a b with
  | none => rw [h] at e2; simp [e1, e2, selP]
  | some q => rw [h] at e2; simp [e1, e2, selP]
theorem want_store_eq (ha : Tape a n) (hb : Tape b n) (h1 : 60 ≤ n) (h2 : n ≤ 2000) (env : Pd.Env) {q} (h : sel a b = some q) : runD run_want_store [.tuple [S a, S b]] env = .ok (.d (.dict (progD q.1 q.2.1 q.2.2))) env := by
  unfold run_want_store code_want_store
  rw [runD_eq]
  have e1 := is_device_eq ha hb h1 h2
  have e2 := read_store_eq ha hb h1 h2
  rw [h] at e2
  simp [e1, e2, selP, slA]
end
end K93
set_option Elab.async false
set_option linter.all false
set_option maxRecDepth 100000
set_option maxHeartbeats 2000000
namespace K93
open PySem PySem.Spec PyProof.Rows L2 Pd PySem.Builtin.Str

/-! ### what is shown of data -/
def asc (s : PySem.Str) : Prop := ∀ c ∈ tl s, c < 128
theorem rc_dec : ∀ i : Fin 95, ∀ q ∈ [34, 39], ((reprChar q (32 + i.val)).all (fun c => decide (c < 128)) && decide ((reprChar q (32 + i.val)).length ≤ 2)) = true := by decide +kernel
theorem rc_ok {c q : Nat} (h : isPrt c = true) (hq : q = 34 ∨ q = 39) : (∀ x ∈ reprChar q c, x < 128) ∧ (reprChar q c).length ≤ 2 := by
  unfold isPrt at h
  simp at h
  have := rc_dec ⟨c - 32, by omega⟩ q (by rcases hq with rfl | rfl <;> simp)
  rw [show 32 + (c - 32) = c by omega] at this
  rw [Bool.and_eq_true, List.all_eq_true] at this
  exact ⟨fun x hx => of_decide_eq_true (this.1 x hx), of_decide_eq_true this.2⟩
theorem rt_fold {q : Nat} (hq : q = 34 ∨ q = 39) : ∀ (l : List Nat) (acc : Array Nat), l.all isPrt = true → (∀ c ∈ acc.toList, c < 128) → (∀ c ∈ (l.foldl (fun out c => out ++ (reprChar q c).toArray) acc).toList, c < 128) ∧ (l.foldl (fun out c => out ++ (reprChar q c).toArray) acc).size ≤ acc.size + 2 * l.length
  | [], acc, _, h => ⟨h, by simp⟩
  | c :: l, acc, hl, h => by
    rw [List.all_cons, Bool.and_eq_true] at hl
    have r := rc_ok hl.1 hq
    have ih := rt_fold hq l (acc ++ (reprChar q c).toArray) hl.2 (fun x hx => by
      simp at hx
      rcases hx with hx | hx
      · exact h x (by simpa using hx)
      · exact r.1 x hx)
    rw [List.foldl_cons]
    refine ⟨ih.1, Nat.le_trans ih.2 ?_⟩
    simp
    have := r.2
    omega
theorem rt_asc {l : List Nat} (h : l.all isPrt = true) : asc (reprText (mkS l)) ∧ (reprText (mkS l)).length ≤ 2 * l.length + 2 := by
  have hq : reprQuote (mkS l) = 34 ∨ reprQuote (mkS l) = 39 := by
    unfold reprQuote
    split
    · exact .inl rfl
    · exact .inr rfl
  have hqs : reprQuote (mkS l) < 128 := by rcases hq with e | e <;> rw [e] <;> decide
  have f := rt_fold hq l #[reprQuote (mkS l)] h (by simpa using hqs)
  have e : (mkS l).cps.foldl (fun out c => out ++ (reprChar (reprQuote (mkS l)) c).toArray) #[reprQuote (mkS l)] = l.foldl (fun out c => out ++ (reprChar (reprQuote (mkS l)) c).toArray) #[reprQuote (mkS l)] := by
    rw [← Array.foldl_toList]
    rfl
  unfold reprText
  rw [e]
  constructor
  · intro c hc
    unfold tl at hc
    simp only [Array.toList_push, List.mem_append, List.mem_singleton] at hc
    rcases hc with hc | rfl
    · exact f.1 c hc
    · exact hqs
  · show ((l.foldl (fun out c => out ++ (reprChar (reprQuote (mkS l)) c).toArray) #[reprQuote (mkS l)]).push (reprQuote (mkS l))).size ≤ _
    rw [Array.size_push]
    have := f.2
    simp at this
    omega
theorem asc_app {a b : PySem.Str} (ha : asc a) (hb : asc b) : asc (a ++ b) := by
  intro c hc
  have : tl (a ++ b) = tl a ++ tl b := TL.tl_append a b
  rw [this] at hc
  rcases List.mem_append.mp hc with hc | hc
  · exact ha c hc
  · exact hb c hc
theorem len_app (a b : PySem.Str) : (a ++ b).length = a.length + b.length := by
  rw [← len_tl, ← len_tl, ← len_tl, show tl (a ++ b) = tl a ++ tl b from TL.tl_append a b, List.length_append]
def AllT : List PySem.Str → Nat → Prop
  | [], n => True
  | t :: r, n => asc t ∧ t.length + 2 ≤ n ∧ AllT r (n - (t.length + 2))
theorem text_from : ∀ (ts : List PySem.Str) (k n : Nat) (acc : PySem.Str), AllT ts n → asc acc → asc (textFrom k acc ts) ∧ (textFrom k acc ts).length ≤ acc.length + n
  | [], k, n, acc, _, ha => ⟨ha, by show acc.length ≤ _; omega⟩
  | t :: r, k, n, acc, h, ha => by
    obtain ⟨h1, h2, h3⟩ := h
    have e : textFrom k acc (t :: r) = textFrom (k + 1) (acc ++ (if k > 0 then ", " else "" : String) ++ t) r := rfl
    have hs : ∀ b : Bool, asc ((if b = true then ", " else "" : String) : PySem.Str) ∧ ((if b = true then ", " else "" : String) : PySem.Str).length ≤ 2 := by unfold asc; decide +kernel
    have hs := hs (decide (k > 0))
    simp only [decide_eq_true_eq] at hs
    rw [e]
    have ih := text_from r (k + 1) (n - (t.length + 2)) _ h3 (asc_app (asc_app ha hs.1) h1)
    refine ⟨ih.1, Nat.le_trans ih.2 ?_⟩
    rw [len_app, len_app]
    have := hs.2
    omega
theorem join_asc : ∀ (ts : List PySem.Str) (n : Nat), AllT ts n → asc (Str.join ", " ts) ∧ (Str.join ", " ts).length ≤ n
  | [], n, _ => ⟨by unfold asc; decide +kernel, by show (PySem.Str.empty).length ≤ n; exact Nat.zero_le n⟩
  | [t], n, h => ⟨h.1, by show t.length ≤ n; have := h.2.1; omega⟩
  | t :: u :: r, n, h => by
    obtain ⟨h1, h2, h3⟩ := h
    have ih := join_asc (u :: r) _ h3
    have e : Str.join ", " (t :: u :: r) = t ++ ", " ++ Str.join ", " (u :: r) := rfl
    rw [e]
    refine ⟨asc_app (asc_app h1 (by unfold asc; decide +kernel)) ih.1, ?_⟩
    rw [len_app, len_app, show (", " : PySem.Str).length = 2 by decide +kernel]
    omega
end K93
set_option Elab.async false
set_option linter.all false
set_option maxRecDepth 100000
set_option maxHeartbeats 2000000
namespace K93
open PySem PySem.Spec PyProof.Rows L2 Pd PySem.Builtin.Str

/-! ### data that can be shown -/
structure Sh (d : D) (n : Nat) : Prop where
  a : asc d.shown
  l : d.shown.length ≤ n
  s : d.showable = true
  c : d.canLay0 = true
def AllSh : List D → Nat → Prop
  | [], _ => True
  | d :: r, n => ∃ k, Sh d k ∧ k + 2 ≤ n ∧ AllSh r (n - (k + 2))
theorem AllT.mono : ∀ {ts : List PySem.Str} {m n : Nat}, AllT ts m → m ≤ n → AllT ts n
  | [], _, _, _, _ => True.intro
  | t :: r, m, n, h, hn => ⟨h.1, by have := h.2.1; omega, AllT.mono h.2.2 (by omega)⟩
theorem AllSh.mono : ∀ {ts : List D} {m n : Nat}, AllSh ts m → m ≤ n → AllSh ts n
  | [], _, _, _, _ => True.intro
  | t :: r, m, n, ⟨k, h1, h2, h3⟩, hn => ⟨k, h1, by omega, AllSh.mono h3 (by omega)⟩
theorem AllSh.all : ∀ {ds : List D} {n : Nat}, AllSh ds n → AllT (PyData.shownAll ds) n ∧ PyData.showableAll ds = true ∧ PyData.canLayAll0 ds = true
  | [], _, _ => ⟨True.intro, rfl, rfl⟩
  | d :: r, n, ⟨k, h1, h2, h3⟩ => by
    have ih := AllSh.all h3
    refine ⟨⟨h1.a, by have := h1.l; omega, AllT.mono ih.1 (by have := h1.l; omega)⟩, ?_, ?_⟩
    · show (d.showable && PyData.showableAll r) = true
      rw [h1.s, ih.2.1]; rfl
    · show (d.canLay0 && PyData.canLayAll0 r) = true
      rw [h1.c, ih.2.2]; rfl
theorem Sh.lst {ds : List D} {n : Nat} (h : AllSh ds n) : Sh (.list ds) (n + 2) := by
  obtain ⟨h1, h2, h3⟩ := h.all
  have f := text_from (PyData.shownAll ds) 0 n "[" h1 (by unfold asc; decide +kernel)
  refine ⟨?_, ?_, h2, h3⟩
  · show asc (textFrom 0 "[" (PyData.shownAll ds) ++ "]")
    exact asc_app f.1 (by unfold asc; decide +kernel)
  · show (textFrom 0 "[" (PyData.shownAll ds) ++ ("]" : PySem.Str)).length ≤ _
    rw [len_app]
    have := f.2
    rw [show ("[" : PySem.Str).length = 1 by decide +kernel] at this
    rw [show ("]" : PySem.Str).length = 1 by decide +kernel]
    omega
theorem Sh.tup {ds : List D} {n : Nat} (h : AllSh ds n) : Sh (.tuple ds) (n + 3) := by
  obtain ⟨h1, h2, h3⟩ := h.all
  have f := join_asc (PyData.shownAll ds) n h1
  have hs : ∀ b : Bool, asc ((if b = true then ",)" else ")" : String) : PySem.Str) ∧ ((if b = true then ",)" else ")" : String) : PySem.Str).length ≤ 2 := by unfold asc; decide +kernel
  have hs := hs ((PyData.shownAll ds).length == 1)
  refine ⟨?_, ?_, h2, h3⟩
  · show asc (("(" : PySem.Str) ++ Str.join ", " (PyData.shownAll ds) ++ (if (PyData.shownAll ds).length == 1 then ",)" else ")" : String))
    exact asc_app (asc_app (by unfold asc; decide +kernel) f.1) hs.1
  · show (("(" : PySem.Str) ++ Str.join ", " (PyData.shownAll ds) ++ ((if (PyData.shownAll ds).length == 1 then ",)" else ")" : String) : PySem.Str)).length ≤ _
    rw [len_app, len_app, show ("(" : PySem.Str).length = 1 by decide +kernel]
    have := f.2
    have := hs.2
    omega
theorem asc_ok {s : PySem.Str} (h : asc s) : PyData.strOk s = true := by
  unfold PyData.strOk
  rw [Array.all_eq_true']
  intro c hc
  have := h c (by unfold tl; simpa using hc)
  simp
  omega
theorem Sh.txt {l : List Nat} (h : l.all isPrt = true) : Sh (S l) (2 * l.length + 2) := by
  have r := rt_asc h
  refine ⟨r.1, r.2, rfl, ?_⟩
  show PyData.strOk (mkS l) = true
  refine asc_ok fun c hc => ?_
  have := List.all_eq_true.mp h c hc
  unfold isPrt at this
  simp at this
  omega
theorem Sh.int {i : Int} (h0 : 0 ≤ i) (h1 : i < 1000000000000) : Sh (.int i) 12 := by
  have e : (PyData.int i).shown = mkS (TL.numL i.toNat) := by
    show (toString i : PySem.Str) = _
    exact text_num h0
  refine ⟨?_, ?_, ?_, rfl⟩
  · rw [e]
    intro c hc
    have := TL.numL_digits i.toNat c hc
    omega
  · rw [e, ← len_tl]
    exact TL.numL_len (by decide) (by omega)
  · show decide (i.natAbs.log2 < 1920) = true
    exact decide_eq_true (small_log ⟨h0, by omega⟩)
theorem Sh.repr {d : D} {n : Nat} (h : Sh d n) (hn : n ≤ 1000000) (hd : d.depth ≤ 64) (hk : (∃ ds, d = .list ds) ∨ (∃ ds, d = .tuple ds)) : callD .repr [d] = some (.d (.str d.shown)) ∧ cmpD .NotEq (.str d.shown) (.str d.shown) = some false := by
  have hs : SeqAt.shaped d = true := by
    unfold SeqAt.shaped
    rw [h.c, decide_eq_true hd]
    rfl
  have hz : sz d.shown.length = true := sz_le (by have := h.l; omega)
  have hss : SeqAt.shaped (.str d.shown) = true := by
    unfold SeqAt.shaped
    have : (PyData.str d.shown).canLay0 = true := asc_ok h.a
    rw [this]
    rfl
  constructor
  · rcases hk with ⟨ds, rfl⟩ | ⟨ds, rfl⟩
    · show (if SeqAt.shaped (.list ds) && ((PyData.list ds).showable && sz (PyData.list ds).shown.length) then some (Ar.d (.str (PyData.list ds).shown)) else none) = _
      rw [hs, h.s, hz, if_pos (by rfl)]
    · show (if SeqAt.shaped (.tuple ds) && ((PyData.tuple ds).showable && sz (PyData.tuple ds).shown.length) then some (Ar.d (.str (PyData.tuple ds).shown)) else none) = _
      rw [hs, h.s, hz, if_pos (by rfl)]
  · show (if SeqAt.shaped (.str d.shown) && SeqAt.shaped (.str d.shown) then some (!PyData.eqv (.str d.shown) (.str d.shown)) else none) = _
    rw [hss, if_pos (by rfl)]
    show some (!(d.shown == d.shown)) = _
    simp
theorem Sh.eqs {d : D} {n : Nat} (h : Sh d n) : cmpD .Eq (.str d.shown) (.str d.shown) = some true := by
  have hss : SeqAt.shaped (.str d.shown) = true := by
    unfold SeqAt.shaped
    have : (PyData.str d.shown).canLay0 = true := asc_ok h.a
    rw [this]
    rfl
  show (if SeqAt.shaped (.str d.shown) && SeqAt.shaped (.str d.shown) then some (PyData.eqv (.str d.shown) (.str d.shown)) else none) = _
  rw [hss, if_pos (by rfl)]
  show some (d.shown == d.shown) = _
  simp
/-- a map of data, each of bounded size -/
theorem AllSh.map {α : Type} (f : α → D) (w : α → Nat) : ∀ (xs : List α), (∀ x ∈ xs, Sh (f x) (w x)) → AllSh (xs.map f) ((xs.map fun x => w x + 2).sum)
  | [], _ => True.intro
  | x :: xs, h => by
    refine ⟨w x, h x (by simp), by simp, ?_⟩
    have ih := AllSh.map f w xs fun y hy => h y (by simp [hy])
    simp only [List.map_cons, List.sum_cons]
    rw [Nat.add_sub_cancel_left]
    exact ih
theorem AllSh.of_mem {α : Type} (f : α → D) {ds : List D} {xs : List α} {n : Nat} (hp : ds.Perm (xs.map f)) (h : AllSh (xs.map f) n) : AllSh ds n := by
  suffices key : ∀ {a b : List D}, a.Perm b → ∀ n, AllSh b n → AllSh a n from key hp n h
  intro a b hab
  induction hab with
  | nil => exact fun n h => h
  | cons x _ ih => exact fun n ⟨k, h1, h2, h3⟩ => ⟨k, h1, h2, ih _ h3⟩
  | swap x y l => exact fun n ⟨k, h1, h2, j, h3, h4, h5⟩ => ⟨j, h3, by omega, k, h1, by omega, h5.mono (by omega)⟩
  | trans _ _ ih1 ih2 => exact fun n h => ih1 n (ih2 n h)
end K93
set_option Elab.async false
set_option linter.all false
set_option maxRecDepth 100000
set_option maxHeartbeats 2000000
namespace K93
open PySem PySem.Spec PyProof.Rows L2 Pd

/-! ### how long what a store tells is -/
theorem name_prt {l : List Nat} (h : isName l = true) : l.all isPrt = true ∧ l.length ≤ 12 := by
  unfold isName at h
  simp only [Bool.and_eq_true, decide_eq_true_eq, List.all_eq_true] at h
  refine ⟨?_, h.1.2⟩
  rw [List.all_eq_true]
  intro c hc
  have := h.2 c hc
  unfold isLow at this
  unfold isPrt
  simp at this ⊢
  omega
theorem ent_prt {e : List (List Nat)} (h : isEnt e = true) : ∀ p ∈ e, p.all isPrt = true := by
  match e, h with
  | [k, n], h =>
    have hk := ent_two h
    have h : (isName n && decide (k = tl "close")) = true := h
    rw [Bool.and_eq_true] at h
    intro p hp
    rcases List.mem_cons.mp hp with rfl | hp
    · rw [hk]; decide +kernel
    · rw [List.mem_singleton.mp hp]; exact (name_prt h.1).1
  | [k, n, a], h =>
    have hk := ent_three h
    rw [isEnt3] at h
    intro p hp
    simp only [Bool.and_eq_true, Bool.or_eq_true, decide_eq_true_eq] at h
    rcases List.mem_cons.mp hp with rfl | hp
    · rcases hk with e | e <;> rw [e] <;> decide +kernel
    · rcases List.mem_cons.mp hp with rfl | hp
      · exact (name_prt h.1).1
      · rw [List.mem_singleton.mp hp]
        rcases h.2 with h | h
        · exact (name_prt h.2).1
        · exact h.2.2.1
theorem walk_sum {l : List Nat} (h : okT l) : ∀ (f p : Nat), p ≤ l.length → p + ((walk l f p).1.map fun e => 4 + (TL.joinL [32] e).length).sum ≤ l.length
  | 0, p, hp => by simpa [walk] using hp
  | f + 1, p, hp => by
    cases hr : rowAt l p with
    | none => rw [walk_none hr]; simpa using hp
    | some e =>
      obtain ⟨h1, h2, h3, h4, h5⟩ := rowAt_some h hr
      have hin : p + (4 + rsize l p) ≤ l.length := by
        unfold rowAt at hr
        split at hr
        · rename_i hc
          unfold headOk bodyOk at hc
          simp only [Bool.and_eq_true, decide_eq_true_eq] at hc
          have a1 := hc.1.2.1
          have a2 := hc.2.1
          unfold figs at a1
          unfold body at a2
          simp at a1 a2
          omega
        · cases hr
      have ih := walk_sum h f (p + (4 + rsize l p)) hin
      rw [walk_some hr]
      simp only [List.map_cons, List.sum_cons, h4]
      omega
theorem sum_le {α : Type} (f g : α → Nat) : ∀ xs : List α, (∀ x ∈ xs, f x ≤ g x) → (xs.map f).sum ≤ (xs.map g).sum
  | [], _ => by simp
  | x :: xs, h => by
    have := sum_le f g xs fun y hy => h y (by simp [hy])
    have := h x (by simp)
    simp only [List.map_cons, List.sum_cons]
    omega
theorem sum_mul {α : Type} (k : Nat) (g : α → Nat) : ∀ xs : List α, (xs.map fun x => k * g x).sum = k * (xs.map g).sum
  | [] => by simp
  | x :: xs => by
    simp only [List.map_cons, List.sum_cons, sum_mul k g xs, Nat.mul_add]
theorem parts_sum : ∀ e : List (List Nat), (e.map fun (p : List Nat) => 2 * p.length + 2 + 2).sum ≤ 4 * ((e.map (·.length)).sum + e.length)
  | [] => by simp
  | p :: e => by
    have := parts_sum e
    simp only [List.map_cons, List.sum_cons, List.length_cons]
    omega
theorem sh_ent {e : List (List Nat)} (h : isEnt e = true) : Sh (tupE e) (4 * (TL.joinL [32] e).length + 7) := by
  have a := AllSh.map S (fun p => 2 * p.length + 2) e fun p hp => Sh.txt (ent_prt h p hp)
  have b := parts_sum e
  have c := joinL_len e
  have t := Sh.tup (a.mono (show (e.map fun (p : List Nat) => 2 * p.length + 2 + 2).sum ≤ 4 * (TL.joinL [32] e).length + 4 by omega))
  exact t
theorem sh_rows {l : List Nat} (h : okT l) (h1 : 60 ≤ l.length) (h2 : l.length ≤ 2000) : Sh (.list ((rowsOf l).map tupE)) 9002 := by
  have w := (walk_ents h (l.length + 1) 10).1
  have a := AllSh.map tupE (fun e => 4 * (TL.joinL [32] e).length + 7) (rowsOf l) fun e he => sh_ent (w e he).1
  have s := walk_sum h (l.length + 1) 10 (by omega)
  have s1 := sum_le (fun e => 4 * (TL.joinL [32] e).length + 7 + 2) (fun e => 4 * (4 + (TL.joinL [32] e).length)) (rowsOf l) fun e _ => by omega
  rw [sum_mul] at s1
  have s : 10 + ((rowsOf l).map fun e => 4 + (TL.joinL [32] e).length).sum ≤ l.length := s
  exact Sh.lst (a.mono (show _ ≤ 9000 by omega))
def fldOk (q : List Nat × (List Nat × List (List Nat))) : Prop := isName q.1 = true ∧ isName q.2.1 = true ∧ ∀ c ∈ q.2.2, isSigns c = true ∧ c.length ≤ 40
def cnt (F : FV) : Nat := (F.map fun q => 1 + q.2.2.length).sum
def keys (F : FV) : List (List Nat) := F.map (·.1)
structure GoodF (F : FV) (m : Nat) : Prop where
  ok : ∀ q ∈ F, fldOk q
  nd : (keys F).Nodup
  ct : cnt F ≤ m
theorem look_none {n : List Nat} : ∀ {F : FV}, look F n = none → n ∉ keys F
  | [], _ => by simp [keys]
  | q :: r, h => by
    have h : (if q.1 = n then some q.2 else look r n) = none := h
    split at h
    · cases h
    · rename_i hq
      have := look_none h
      intro z
      rcases List.mem_cons.mp z with z | z
      · exact hq z.symm
      · exact this z
theorem put'_id {n : List Nat} {v} : ∀ {F : FV}, n ∉ keys F → put' F n v = F
  | [], _ => rfl
  | q :: r, h => by
    have h1 : ¬ q.1 = n := fun z => h (by simp [keys, z])
    have h2 : n ∉ keys r := fun z => h (by unfold keys at z ⊢; simp at z ⊢; exact .inr z)
    show (if q.1 = n then (q.1, v) :: put' r n v else q :: put' r n v) = _
    rw [if_neg h1, put'_id h2]
theorem put_new {n : List Nat} {v} : ∀ {F : FV}, n ∉ keys F → put F n v = F ++ [(n, v)]
  | [], _ => rfl
  | q :: r, h => by
    have h1 : ¬ q.1 = n := fun z => h (by simp [keys, z])
    have h2 : n ∉ keys r := fun z => h (by unfold keys at z ⊢; simp at z ⊢; exact .inr z)
    show (if q.1 = n then (q.1, v) :: put' r n v else q :: put r n v) = _
    rw [if_neg h1, put_new h2]
    rfl
theorem put_old {n : List Nat} {u v} : ∀ {F : FV}, (keys F).Nodup → look F n = some u → keys (put F n v) = keys F ∧ cnt (put F n v) + u.2.length = cnt F + v.2.length ∧ ∃ q ∈ F, q = (n, u)
  | [], _, h => by cases h
  | q :: r, hn, h => by
    have h : (if q.1 = n then some q.2 else look r n) = some u := h
    have hn2 := List.nodup_cons.mp hn
    have e : put (q :: r) n v = if q.1 = n then (q.1, v) :: put' r n v else q :: put r n v := rfl
    rw [e]
    split at h
    · rename_i hq
      cases h
      rw [if_pos hq, put'_id (by rw [← hq]; exact hn2.1)]
      refine ⟨rfl, ?_, q, by simp, by rw [← hq]⟩
      unfold cnt
      simp only [List.map_cons, List.sum_cons]
      omega
    · rename_i hq
      obtain ⟨i1, i2, p, hp, i3⟩ := put_old (v := v) hn2.2 h
      rw [if_neg hq]
      refine ⟨?_, ?_, p, by simp [hp], i3⟩
      · unfold keys at i1 ⊢
        rw [List.map_cons, List.map_cons, i1]
      · unfold cnt at i2 ⊢
        simp only [List.map_cons, List.sum_cons]
        omega
theorem cnt_drp (n : List Nat) : ∀ F : FV, cnt (drp F n) ≤ cnt F
  | [] => Nat.le_refl _
  | q :: r => by
    have ih := cnt_drp n r
    unfold drp cnt at ih ⊢
    rw [List.filter_cons]
    split
    · simp only [List.map_cons, List.sum_cons]; omega
    · simp only [List.map_cons, List.sum_cons]; omega
theorem good_step {F G : FV} {m : Nat} {e : List (List Nat)} (g : GoodF F m) (he : isEnt e = true) (hs : step F e = some G) : GoodF G (m + 1) := by
  match e, he, hs with
  | [k, n], he, hs =>
    have hs : (match look F n with
      | none => none
      | some _ => some (drp F n)) = some G := hs
    split at hs
    · cases hs
    · cases hs
      refine ⟨fun q hq => g.ok q (List.mem_filter.mp hq).1, ?_, Nat.le_trans (cnt_drp n F) (by have := g.ct; omega)⟩
      exact g.nd.sublist (List.Sublist.map _ List.filter_sublist)
  | [k, n, a], he, hs =>
    have hk := ent_three he
    rw [isEnt3] at he
    simp only [Bool.and_eq_true, Bool.or_eq_true, decide_eq_true_eq] at he
    have hs : (if decide (k = tl "open") then (if (look F n).isSome then none else some (put F n (a, []))) else match look F n with
      | none => none
      | some v => some (put F n (v.1, v.2 ++ [a]))) = some G := hs
    split at hs
    · rename_i ho
      have ho := of_decide_eq_true ho
      have ha : isName a = true := by
        rcases he.2 with h | h
        · exact h.2
        · simp [ho] at h
      split at hs
      · cases hs
      · rename_i hl
        cases hs
        have hn : n ∉ keys F := look_none (by simpa using hl)
        rw [put_new hn]
        refine ⟨fun q hq => ?_, ?_, ?_⟩
        · rcases List.mem_append.mp hq with hq | hq
          · exact g.ok q hq
          · rw [List.mem_singleton.mp hq]
            exact ⟨he.1, ha, fun c hc => by cases hc⟩
        · unfold keys
          rw [List.map_append, List.nodup_append]
          refine ⟨g.nd, by simp, fun x hx y hy => ?_⟩
          simp at hy
          rw [hy]
          intro z
          exact hn (by rw [← z]; exact hx)
        · have := g.ct
          unfold cnt at this ⊢
          simp
          omega
    · rename_i ho
      split at hs
      · cases hs
      · rename_i v hv
        cases hs
        obtain ⟨i1, i2, p, hp, i3⟩ := put_old (v := (v.1, v.2 ++ [a])) g.nd hv
        have hpo := g.ok p hp
        rw [i3] at hpo
        have ha : isSigns a = true ∧ a.length ≤ 40 := by
          rcases he.2 with h | h
          · exact absurd h.1 (by simpa using ho)
          · exact h.2.2
        refine ⟨fun q hq => ?_, by rw [i1]; exact g.nd, ?_⟩
        · rcases mem_put hq with hq | hq
          · exact g.ok q hq
          · rw [hq]
            refine ⟨hpo.1, hpo.2.1, fun c hc => ?_⟩
            rcases List.mem_append.mp hc with hc | hc
            · exact hpo.2.2 c hc
            · rw [List.mem_singleton.mp hc]; exact ha
        · have := g.ct
          simp at i2
          omega
end K93
set_option Elab.async false
set_option linter.all false
set_option maxRecDepth 100000
set_option maxHeartbeats 2000000
namespace K93
open PySem PySem.Spec PyProof.Rows L2 Pd

/-! ### a device is right -/
theorem walk_end {l : List Nat} (h : okT l) : ∀ (f p : Nat), (walk l f p).2 = p + ((walk l f p).1.map fun e => 4 + (TL.joinL [32] e).length).sum
  | 0, p => by simp [walk]
  | f + 1, p => by
    cases hr : rowAt l p with
    | none => rw [walk_none hr]; simp
    | some e =>
      obtain ⟨h1, h2, h3, h4, h5⟩ := rowAt_some h hr
      rw [walk_some hr]
      simp only [List.map_cons, List.sum_cons, h4, walk_end h f]
      omega
theorem end_le {l : List Nat} (h : okT l) (h1 : 10 ≤ l.length) : endOf l ≤ l.length := by
  have a := walk_end h (l.length + 1) 10
  have b := walk_sum h (l.length + 1) 10 h1
  unfold endOf
  omega
theorem good_all : ∀ (es : List (List (List Nat))) (F G : FV) (m : Nat), GoodF F m → (∀ e ∈ es, isEnt e = true) → allS F es = some G → GoodF G (m + es.length)
  | [], F, G, m, g, _, h => by cases h; exact g
  | e :: r, F, G, m, g, he, h => by
    have h : (match step F e with
      | none => none
      | some G => allS G r) = some G := h
    split at h
    · cases h
    · rename_i G1 hs
      have := good_all r G1 G (m + 1) (good_step g (he e (by simp)) hs) (fun q hq => he q (by simp [hq])) h
      rw [show m + 1 + r.length = m + (e :: r).length by simp; omega] at this
      exact this
theorem cnt_len (F : FV) : F.length ≤ cnt F := by
  induction F with
  | nil => exact Nat.le_refl _
  | cons q r ih =>
    unfold cnt at ih ⊢
    simp only [List.map_cons, List.sum_cons, List.length_cons]
    omega
theorem calls_sum : ∀ cs : List (List Nat), (∀ c ∈ cs, c.length ≤ 40) → (cs.map fun (c : List Nat) => 2 * c.length + 2 + 2).sum ≤ 84 * cs.length
  | [], _ => by simp
  | c :: cs, h => by
    have := calls_sum cs fun d hd => h d (by simp [hd])
    have := h c (by simp)
    simp only [List.map_cons, List.sum_cons, List.length_cons]
    omega
theorem sh_trip {q : List Nat × (List Nat × List (List Nat))} (h : fldOk q) : Sh (tripV q) (65 + 84 * q.2.2.length) := by
  have a1 := name_prt h.1
  have a2 := name_prt h.2.1
  have c := AllSh.map S (fun p => 2 * p.length + 2) q.2.2 fun p hp => Sh.txt (h.2.2 p hp).1
  have cs := calls_sum q.2.2 fun c hc => (h.2.2 c hc).2
  have t := Sh.tup (c.mono cs)
  have all : AllSh [S q.1, S q.2.1, .tuple (q.2.2.map S)] (62 + 84 * q.2.2.length) := by
    refine ⟨26, ?_, by omega, 26, ?_, by omega, 84 * q.2.2.length + 3, t, by omega, True.intro⟩
    · have := Sh.txt a1.1
      exact ⟨this.a, Nat.le_trans this.l (by omega), this.s, this.c⟩
    · have := Sh.txt a2.1
      exact ⟨this.a, Nat.le_trans this.l (by omega), this.s, this.c⟩
  have r := Sh.tup all
  rw [show 62 + 84 * q.2.2.length + 3 = 65 + 84 * q.2.2.length by omega] at r
  exact r
theorem sh_list {F : FV} {m : Nat} (g : GoodF F m) (hm : m ≤ 2001) : Sh (.list (listV F)) 200002 := by
  have a := AllSh.map tripV (fun q => 65 + 84 * q.2.2.length) F fun q hq => sh_trip (g.ok q hq)
  have s1 := sum_le (fun (q : List Nat × (List Nat × List (List Nat))) => 65 + 84 * q.2.2.length + 2) (fun q => 84 * (1 + q.2.2.length)) F fun q _ => by omega
  rw [sum_mul] at s1
  have ct := g.ct
  unfold cnt at ct
  have a := a.mono (show _ ≤ 200000 by omega)
  exact Sh.lst (AllSh.of_mem tripV (List.mergeSort_perm _ _) a)
theorem dig_lt : ∀ (l : List Nat) (acc : Nat), l.all isFig = true → l.foldl (fun acc c => acc * 10 + (c - 48)) acc < (acc + 1) * 10 ^ l.length
  | [], acc, _ => by simp
  | c :: l, acc, h => by
    rw [List.all_cons, Bool.and_eq_true] at h
    have ih := dig_lt l (acc * 10 + (c - 48)) h.2
    have hc := h.1
    unfold isFig at hc
    simp at hc
    rw [List.foldl_cons, List.length_cons, Nat.pow_succ]
    refine Nat.lt_of_lt_of_le ih ?_
    rw [Nat.mul_comm (10 ^ l.length) 10, ← Nat.mul_assoc]
    exact Nat.mul_le_mul_right _ (by omega)
theorem turn_lt {l : List Nat} (h : headL l = true) : 0 ≤ turnN l ∧ turnN l < 1000000000000 := by
  unfold headL at h
  rw [Bool.and_eq_true] at h
  have := dig_lt (turnT l) 0 h.2
  have hl : (turnT l).length ≤ 9 := by unfold turnT; simp; omega
  have hp : 10 ^ (turnT l).length ≤ 10 ^ 9 := Nat.pow_le_pow_right (by decide) hl
  have hd : NumText.digitsVal (turnT l) < (0 + 1) * 10 ^ (turnT l).length := this
  unfold turnN
  omega
theorem depth_tups : ∀ xs : List (List (List Nat)), PyData.depthAll (xs.map tupE) ≤ 1
  | [] => by simp [PyData.depthAll]
  | x :: xs => by
    have := depth_tups xs
    rw [List.map_cons]
    simp [PyData.depthAll, tupE, PyData.depth, depth_strs, this]
theorem depthAll_le {n : Nat} : ∀ {ds : List D}, (∀ d ∈ ds, d.depth ≤ n) → PyData.depthAll ds ≤ n
  | [], _ => by simp [PyData.depthAll]
  | d :: ds, h => by
    have := depthAll_le (ds := ds) fun x hx => h x (by simp [hx])
    have := h d (by simp)
    simp only [PyData.depthAll]
    omega
theorem depth_list (F : FV) : PyData.depthAll (listV F) ≤ 60 := depthAll_le fun d hd => by
  have := (List.mergeSort_perm (F.map tripV) _).mem_iff.mp hd
  obtain ⟨q, _, rfl⟩ := List.mem_map.mp this
  exact depth_trip q
section
variable {a b : List Nat} {n : Nat}
theorem sel_some (ha : Tape a n) (hb : Tape b n) {q} (h : sel a b = some q) : Tape q.2.1 n ∧ logF q.2.1 = some q.2.2 := by
  unfold sel at h
  split at h
  · cases h
  · rename_i hg; cases h; exact ⟨hb, hg⟩
  · rename_i hf _; cases h; exact ⟨ha, hf⟩
  · rename_i hf hg
    split at h
    · cases h; exact ⟨hb, hg⟩
    · cases h; exact ⟨ha, hf⟩
theorem log_good {l : List Nat} {F : FV} (h : okT l) (hl : l.length ≤ 2000) (e : logF l = some F) : headL l = true ∧ GoodF F 2001 := by
  unfold logF at e
  split at e
  · rename_i hh
    refine ⟨hh, ?_⟩
    have w := walk_ents h (l.length + 1) 10
    have g := good_all (rowsOf l) [] F 0 ⟨by simp, by simp [keys], by simp [cnt]⟩ (fun e he => (w.1 e he).1) e
    exact ⟨g.ok, g.nd, Nat.le_trans g.ct (by have := w.2; unfold rowsOf; omega)⟩
  · cases e
def four (q : Int × List Nat × FV) (n : Nat) : List D := [.int (turnN q.2.1), .list (listV q.2.2), .list ((rowsOf q.2.1).map tupE), .int ((n : Int) - (endOf q.2.1 : Nat))]
theorem sh_four (ha : Tape a n) (hb : Tape b n) (h1 : 60 ≤ n) (h2 : n ≤ 2000) {q} (h : sel a b = some q) : Sh (.list (four q n)) 300000 ∧ (PyData.list (four q n)).depth ≤ 64 := by
  obtain ⟨ht, hl⟩ := sel_some ha hb h
  have ok := ht.ok h2
  have hn := ht.ln
  obtain ⟨hh, g⟩ := log_good ok (by omega) hl
  have t := turn_lt hh
  have e := end_le ok (by omega)
  constructor
  · refine (Sh.lst (n := 299998) ?_)
    exact ⟨12, Sh.int t.1 t.2, by omega, 200002, sh_list g (by omega), by omega, 9002, sh_rows ok (by omega) (by omega), by omega, 12, Sh.int (by omega) (by omega), by omega, True.intro⟩
  · have d1 := depth_list q.2.2
    have d2 := depth_tups (rowsOf q.2.1)
    unfold four
    simp only [PyData.depth, PyData.depthAll]
    omega
theorem kept_eq (ha : Tape a n) (hb : Tape b n) (h1 : 60 ≤ n) (h2 : n ≤ 2000) (env : Pd.Env) {q} (h : sel a b = some q) : runD run_kept [.tuple [S a, S b]] env = .ok (.o (.list (listV q.2.2))) env := by
  obtain ⟨ht, hl⟩ := sel_some ha hb h
  obtain ⟨_, g⟩ := log_good (ht.ok h2) (by rw [ht.ln]; exact h2) hl
  unfold run_kept code_kept
  rw [runD_eq]
  have e1 := fun env => want_store_eq ha hb h1 h2 env h
  have e2 := fun env => listed_eq q.2.2 env (Nat.le_trans (cnt_len _) (Nat.le_trans g.ct (by omega)))
  simp [e1, e2]
theorem turn_of_eq (ha : Tape a n) (hb : Tape b n) (h1 : 60 ≤ n) (h2 : n ≤ 2000) (env : Pd.Env) {q} (h : sel a b = some q) : runD run_turn_of [.tuple [S a, S b]] env = .ok (.d (.int (turnN q.2.1))) env := by
  unfold run_turn_of code_turn_of
  rw [runD_eq]
  have e1 := fun env => want_store_eq ha hb h1 h2 env h
  simp [e1]
theorem entries_in_eq (ha : Tape a n) (hb : Tape b n) (h1 : 60 ≤ n) (h2 : n ≤ 2000) (env : Pd.Env) {q} (h : sel a b = some q) : runD run_entries_in [.tuple [S a, S b]] env = .ok (.d (.list ((rowsOf q.2.1).map tupE))) env := by
  unfold run_entries_in code_entries_in
  rw [runD_eq]
  have e1 := fun env => want_store_eq ha hb h1 h2 env h
  simp [e1]
theorem room_eq (ha : Tape a n) (hb : Tape b n) (h1 : 60 ≤ n) (h2 : n ≤ 2000) (env : Pd.Env) {q} (h : sel a b = some q) : runD run_room [.tuple [S a, S b]] env = .ok (.d (.int ((n : Int) - (endOf q.2.1 : Nat)))) env := by
  have e1 := fun env => want_store_eq ha hb h1 h2 env h
  have l1 := len_d a (ha.ok h2).2
  rw [ha.ln] at l1
  have e2 : ∀ env, runD run_room_in [.tuple [S a, S b], .dict (progD q.1 q.2.1 q.2.2)] env = .ok (.d (.int ((n : Int) - (endOf q.2.1 : Nat)))) env := by
    intro env
    unfold run_room_in code_room_in
    rw [runD_eq]
    simp [l1]
  unfold run_room code_room
  rw [runD_eq]
  simp [e1, e2]
end
end K93
set_option Elab.async false
set_option linter.all false
set_option maxRecDepth 100000
set_option maxHeartbeats 2000000
namespace K93
open PySem PySem.Spec PyProof.Rows L2 Pd

/-! ### the law about one device -/
theorem Sh.bl (b : Bool) : Sh (.bool b) 5 := by
  cases b
  · exact ⟨by unfold asc; decide +kernel, by decide +kernel, rfl, rfl⟩
  · exact ⟨by unfold asc; decide +kernel, by decide +kernel, rfl, rfl⟩
theorem sh_two (b : Bool) : Sh (.list [.bool b, .bool b]) 16 := Sh.lst (n := 14) ⟨5, Sh.bl b, by omega, 5, Sh.bl b, by omega, True.intro⟩
theorem rep_two (b : Bool) : callD .repr [.list [.bool b, .bool b]] = some (.d (.str (PyData.list [.bool b, .bool b]).shown)) ∧ cmpD .NotEq (.str (PyData.list [.bool b, .bool b]).shown) (.str (PyData.list [.bool b, .bool b]).shown) = some false := (sh_two b).repr (by omega) (by decide +revert) (.inl ⟨_, rfl⟩)
theorem noLists_S : ∀ xs : List (List Nat), noLists (xs.map S) = true
  | [] => rfl
  | x :: xs => by
    rw [List.map_cons]
    show (noList (S x) && noLists (xs.map S)) = true
    rw [noLists_S xs]
    rfl
theorem noLists_E : ∀ xs : List (List (List Nat)), noLists (xs.map tupE) = true
  | [] => rfl
  | x :: xs => by
    rw [List.map_cons]
    show (noLists (x.map S) && noLists (xs.map tupE)) = true
    rw [noLists_E xs, noLists_S x]
    rfl
theorem callN_eq {run : Pd.Run} {xs : List D} {r : Ar} {env : Pd.Env} (h : runD run xs env = .ok r env) : Pd.runN run xs env = .ok (freshA r) env := by
  unfold runD at h
  unfold Pd.runN
  cases hr : run (xs.map .d) with
  | ok r' os => rw [hr] at h; cases h; rfl
  | ex x os => rw [hr] at h; cases h
  | bad => rw [hr] at h; cases h
theorem mul_two (x : D) : binD .Mult (.list [x]) (.int 2) = some (.o (.list [x, x])) := by rfl
section
variable {a b : List Nat} {n : Nat}
theorem device_right_eq (ha : Tape a n) (hb : Tape b n) (h1 : 60 ≤ n) (h2 : n ≤ 2000) (env : Pd.Env) : runD run__law_device_right [.tuple [S a, S b]] env = .ok (.d (.bool true)) env := by
  unfold run__law_device_right code__law_device_right
  rw [runD_eq]
  have e1 := fun env => law_store_eq ha hb h1 h2 env
  have e2 := fun env => is_store_eq ha hb h1 h2 env
  have cl : ∀ er env, evCallB .len er env = (er env).bind fun xs e => ofO (callD .len xs) e := fun _ _ => rfl
  have cr : ∀ er env, evCallB .repr er env = (er env).bind fun xs e => ofO (callD .repr xs) e := fun _ _ => rfl
  cases hs : sel a b with
  | none =>
    rw [hs] at e1 e2
    obtain ⟨r1, r2⟩ := rep_two false
    simp [e1, e2, selL, slA, sz, r1, r2, mul_two]
  | some q =>
    obtain ⟨ht, hl⟩ := sel_some ha hb hs
    obtain ⟨_, g⟩ := log_good (ht.ok h2) (by rw [ht.ln]; exact h2) hl
    rw [hs] at e1 e2
    obtain ⟨r1, r2⟩ := rep_two true
    have l1 := len_d a (ha.ok h2).2
    rw [ha.ln] at l1
    have k1 := fun env => turn_of_eq ha hb h1 h2 env hs
    have k2 := fun env => kept_eq ha hb h1 h2 env hs
    have k3 := fun env => entries_in_eq ha hb h1 h2 env hs
    have k4 := fun env => room_eq ha hb h1 h2 env hs
    have ll := fun env => law_listed_eq q.2.2 env (Nat.le_trans (cnt_len _) (Nat.le_trans g.ct (by omega)))
    obtain ⟨sh, dp⟩ := sh_four ha hb h1 h2 hs
    obtain ⟨r3, r4⟩ := sh.repr (by omega) dp (.inl ⟨_, rfl⟩)
    have r5 := sh.eqs
    have n1 := fun env => callN_eq (k1 env)
    have n2 := fun env => callN_eq (k2 env)
    have n3 := fun env => callN_eq (k3 env)
    have n4 := fun env => callN_eq (k4 env)
    have f1 : freshA (.d (.int (turnN q.2.1))) = .d (.int (turnN q.2.1)) := rfl
    have f2 : freshA (.o (.list (listV q.2.2))) = .o (.list (listV q.2.2)) := rfl
    have f3 : freshA (.d (.list ((rowsOf q.2.1).map tupE))) = .o (.list ((rowsOf q.2.1).map tupE)) := if_pos (noLists_E _)
    have f4 : freshA (.d (.int ((n : Int) - (endOf q.2.1 : Nat)))) = .d (.int ((n : Int) - (endOf q.2.1 : Nat))) := rfl
    have nl : noLists [.tuple [S a, S b]] = true := rfl
    have z1 : sz (listV q.2.2).length = true := sz_le (by
      have := (List.mergeSort_perm (q.2.2.map tripV) (PySem.W.dataLe false id)).length_eq
      have c1 := cnt_len q.2.2
      have c2 := g.ct
      unfold listV sortD
      rw [this, List.length_map]
      omega)
    have z2 : sz ((rowsOf q.2.1).map tupE).length = true := sz_le (by
      have := (walk_ents (ht.ok h2) (q.2.1.length + 1) 10).2
      have := ht.ln
      unfold rowsOf
      rw [List.length_map]
      omega)
    have sp : ∀ y1 y3 y4, evSpoil 4 2 (evConsO (evCallN 1 run_turn_of (evCons (evVar 0) evNil)) (evConsO (evCallN 1 run_kept (evCons (evVar 0) evNil)) (evConsO (evCallN 1 run_entries_in (evCons (evVar 0) evNil)) (evConsO (evCallN 1 run_room (evCons (evVar 0) evNil)) evNilO)))) [.d (.tuple [S a, S b]), y1, .o (.list (four q n)), y3, y4] = .nx [.d (.tuple [S a, S b]), y1, .o (.list (four q n)), y3, .u] := by
      intro y1 y3 y4
      have e0 : (evConsO (evCallN 1 run_turn_of (evCons (evVar 0) evNil)) (evConsO (evCallN 1 run_kept (evCons (evVar 0) evNil)) (evConsO (evCallN 1 run_entries_in (evCons (evVar 0) evNil)) (evConsO (evCallN 1 run_room (evCons (evVar 0) evNil)) evNilO)))) [.d (.tuple [S a, S b]), y1, .o (.list (four q n)), y3, y4] = .ok [.d (.int (turnN q.2.1)), .o (.list (listV q.2.2)), .o (.list ((rowsOf q.2.1).map tupE)), .d (.int ((n : Int) - (endOf q.2.1 : Nat)))] [.d (.tuple [S a, S b]), y1, .o (.list (four q n)), y3, y4] := by
        simp [evConsO, evNilO, n1, n2, n3, n4, f1, f2, f3, f4, nl]
      have fd : (.list [.int (turnN q.2.1), .list (listV q.2.2), .list ((rowsOf q.2.1).map tupE), .int ((n : Int) - (endOf q.2.1 : Nat))] : D) = .list (four q n) := rfl
      unfold evSpoil
      rw [e0]
      simp only [go_ok, seenD, List.getElem?_cons_succ, List.getElem?_cons_zero, z1, z2, x_d, fd, r3, r4]
      rfl
    have fl : ∀ y1, evFor (evRng1 (evCons (evC (.int 2)) evNil)) (gN 3) (evSpoil 4 2 (evConsO (evCallN 1 run_turn_of (evCons (evVar 0) evNil)) (evConsO (evCallN 1 run_kept (evCons (evVar 0) evNil)) (evConsO (evCallN 1 run_entries_in (evCons (evVar 0) evNil)) (evConsO (evCallN 1 run_room (evCons (evVar 0) evNil)) evNilO))))) [.d (.tuple [S a, S b]), y1, .o (.list (four q n)), .u, .u] = .nx [.d (.tuple [S a, S b]), y1, .o (.list (four q n)), .d (.int 1), .u] := by
      intro y1
      have e0 : evRng1 (evCons (evC (.int 2)) evNil) [.d (.tuple [S a, S b]), y1, .o (.list (four q n)), .u, .u] = .ok [.int 0, .int 1] [.d (.tuple [S a, S b]), y1, .o (.list (four q n)), .u, .u] := rfl
      rw [evFor_eq, e0]
      simp [forL, sp]
    have fo : ([.int (turnN q.2.1), .list (listV q.2.2), .list ((rowsOf q.2.1).map tupE), .int ((n : Int) - (endOf q.2.1 : Nat))] : List D) = four q n := rfl
    have f44 : (four q n).length = 4 := rfl
    have fa : flatA (.d (.str (PyData.list (four q n)).shown)) = true := rfl
    simp [-evFor_eq, e1, e2, selL, slA, sz, r1, r2, mul_two, ll, l1, fo, f44, fl, k1, k2, k3, k4, r3, r5, fa]
end
end K93
set_option Elab.async false
set_option linter.all false
set_option maxRecDepth 100000
set_option maxHeartbeats 2000000
namespace K93
open PySem PySem.Spec PyProof.Rows L2 Pd

/-! ### draws -/
def PotOk (z : Sl) : Prop := ∃ a b : Int, z = .o (.list [.int a, .int b]) ∧ 0 ≤ a ∧ 0 ≤ b ∧ b < 2147483587
theorem inR_of {lo hi i : Int} (h1 : lo ≤ i) (h2 : i ≤ hi) : Pd.inR lo hi i = true := by
  unfold Pd.inR
  rw [decide_eq_true h1, decide_eq_true h2]
  rfl
theorem mul_int {i j : Int} (h : Pd.inR (-two64) two64 i = true ∨ Pd.inR (-two64) two64 j = true) : binD .Mult (.int i) (.int j) = some (.d (.int (i * j))) := by
  show (if Pd.inR (-two64) two64 i || Pd.inR (-two64) two64 j then some (Ar.d (.int (i * j))) else none) = _
  rcases h with h | h <;> rw [h]
  · simp
  · simp
theorem mod_int {i j : Int} (h : 0 < j) : binD .Mod (.int i) (.int j) = some (.d (.int (i % j))) := by
  show (if decide (0 < j) then some (Ar.d (.int (i % j))) else none) = _
  rw [decide_eq_true h, if_pos rfl]
theorem div_int {i j : Int} (h : 1 ≤ j) (h2 : j ≤ 1073741823) : binD .FloorDiv (.int i) (.int j) = some (.d (.int (i / j))) := by
  show (if Pd.inR 1 1073741823 j then some (Ar.d (.int (i / j))) else none) = _
  rw [inR_of h h2, if_pos rfl]
theorem dvm_int {i j : Int} (h : 1 ≤ j) (h2 : j ≤ 1073741823) : callD .divmod [.int i, .int j] = some (.d (.tuple [.int (i / j), .int (i % j)])) := by
  show (if Pd.inR 1 1073741823 j then some (Ar.d (.tuple [.int (i / j), .int (i % j)])) else none) = _
  rw [inR_of h h2, if_pos rfl]
theorem int_int (i : Int) : callD .int [.int i] = some (.d (.int i)) := rfl
theorem outs_2 (x y : Sl) (r : Pd.Env) : outs [0] 2 (x :: y :: r) = [x, .u] := rfl
theorem vars_2 (d : D) : (vars [.v 0, .d d]).Nodup := by
  show ([0] : List Nat).Nodup
  decide
theorem ixN_0 {n : Nat} : ixN (n + 2) 0 = some 0 := by unfold ixN; simp; omega
theorem ixN_1 {n : Nat} : ixN (n + 2) 1 = some 1 := by unfold ixN; simp; omega
theorem draw_run {z : Sl} (hz : PotOk z) {m : Int} (h1 : 1 ≤ m) (h2 : m ≤ 1073741823) : ∃ z' v, PotOk z' ∧ 0 ≤ v ∧ v < m ∧ run__law_draw [z, .d (.int m)] = .ok (.d (.int v)) [z', .u] := by
  obtain ⟨a, b, rfl, ha, hb, hb2⟩ := hz
  unfold run__law_draw runB code__law_draw
  have i0 : ixN 2 0 = some 0 := ixN_0 (n := 0)
  have i1 : ixN 2 1 = some 1 := ixN_1 (n := 0)
  have d1 := dvm_int (i := a) h1 h2
  cases hc : decide (0 < a) with
  | true =>
    refine ⟨.o (.list [.int (a / m), .int b]), a % m, ⟨_, _, rfl, Int.ediv_nonneg ha (by omega), hb, hb2⟩, Int.emod_nonneg _ (by omega), Int.emod_lt_of_pos _ (by omega), ?_⟩
    simp [hc, d1, gT, gNs, gPut, ownL, i0, outs_2]
  | false =>
    have m1 := mul_int (i := b) (j := 39373) (.inr (by decide))
    have nb1 : 0 ≤ (b * 39373 + 11083) % 2147483587 := Int.emod_nonneg _ (by omega)
    have nb2 : (b * 39373 + 11083) % 2147483587 < 2147483587 := Int.emod_lt_of_pos _ (by omega)
    have m2 := mod_int (i := b * 39373 + 11083) (j := 2147483587) (by omega)
    generalize (b * 39373 + 11083) % 2147483587 = c at m2 nb1 nb2
    have m3 := mul_int (i := c) (j := c) (.inl (inR_of (by unfold two64; omega) (by unfold two64; omega)))
    have m4 := mod_int (i := c * c) (j := 2147483549) (by omega)
    have m5 := div_int (i := c * c % 2147483549) (j := 19) (by omega) (by omega)
    have m6 := mod_int (i := c * c % 2147483549 / 19) (j := m) (by omega)
    refine ⟨.o (.list [.int a, .int c]), c * c % 2147483549 / 19 % m, ⟨_, _, rfl, ha, nb1, nb2⟩, Int.emod_nonneg _ (by omega), Int.emod_lt_of_pos _ (by omega), ?_⟩
    simp [hc, m1, m2, m3, m4, m5, m6, int_int, evPut, ownL, i1, outs_2]
/-- a draw from a pot at slot 0 -/
theorem draw_call {e : Pd.Env} {z : Sl} (he : e[0]? = some z) (hz : PotOk z) {m : Int} (h1 : 1 ≤ m) (h2 : m ≤ 1073741823) : ∃ z' v, PotOk z' ∧ 0 ≤ v ∧ v < m ∧ callA 2 run__law_draw [.v 0, .d (.int m)] e = .ok (.d (.int v)) (e.set 0 z') := by
  obtain ⟨z', v, g1, g2, g3, g4⟩ := draw_run hz h1 h2
  refine ⟨z', v, g1, g2, g3, ?_⟩
  have hu : resA e [.v 0, .d (.int m)] = some [z, .d (.int m)] := by
    obtain ⟨a, b, rfl, _⟩ := hz
    simp [resA, he]
  unfold callA
  rw [hu, if_pos (vars_2 _)]
  simp [g4, updA]
theorem agV_eq {e : Pd.Env} {z : Sl} (he : e[0]? = some z) (hz : PotOk z) (er : EvG) : agV 0 er e = (er e).bind fun rs e2 => .ok (.v 0 :: rs) e2 := by
  obtain ⟨a, b, rfl, _⟩ := hz
  simp [agV, he]
/-- a pick from a list at slot 0's side -/
theorem pick_run {z : Sl} (hz : PotOk z) {ds : List D} (h0 : ds ≠ []) (h1 : ds.length ≤ 100000) : ∃ z' x, PotOk z' ∧ x ∈ ds ∧ run__law_pick [z, .d (.list ds)] = .ok (.d x) [z', .u] := by
  have hl : 1 ≤ ds.length := by cases ds; exact absurd rfl h0; simp
  obtain ⟨z', v, g1, g2, g3, g4⟩ := draw_call (e := [z, .d (.list ds)]) rfl hz (m := (ds.length : Nat)) (by omega) (by omega)
  obtain ⟨k, rfl⟩ := Int.eq_ofNat_of_zero_le g2
  have hk : k < ds.length := by omega
  refine ⟨z', ds[k], g1, List.getElem_mem _, ?_⟩
  have hi : idxD (.list ds) (.int (k : Nat)) = some ds[k] := by
    show atI ds (k : Nat) = _
    rw [Pd.atI_nat, List.getElem?_eq_getElem hk]
  unfold run__law_pick runB code__law_pick
  have av := agV_eq (e := [z, .d (.list ds)]) rfl hz
  simp [evCallG, agD, agN, av, g4, hi, outs_2]
theorem pick_call {e : Pd.Env} {z : Sl} (he : e[0]? = some z) (hz : PotOk z) {ds : List D} (h0 : ds ≠ []) (h1 : ds.length ≤ 100000) : ∃ z' x, PotOk z' ∧ x ∈ ds ∧ callA 2 run__law_pick [.v 0, .d (.list ds)] e = .ok (.d x) (e.set 0 z') := by
  obtain ⟨z', x, g1, g2, g4⟩ := pick_run hz h0 h1
  refine ⟨z', x, g1, g2, ?_⟩
  have hu : resA e [.v 0, .d (.list ds)] = some [z, .d (.list ds)] := by
    obtain ⟨a, b, rfl, _⟩ := hz
    simp [resA, he]
  unfold callA
  rw [hu, if_pos (vars_2 _)]
  simp [g4, updA]
end K93
set_option Elab.async false
set_option linter.all false
set_option maxRecDepth 100000
set_option maxHeartbeats 2000000
namespace K93
open PySem PySem.Spec PyProof.Rows L2 Pd

/-! ### the law's draws of entries -/
theorem ev_draw {e e1 : Pd.Env} {z z1 : Sl} {ea : EvE} {m : Int} (he : e[0]? = some z) (hz : PotOk z) (ha : evD ea e = .ok (.int m) e1) (he1 : e1[0]? = some z1) (hz1 : PotOk z1) (h1 : 1 ≤ m) (h2 : m ≤ 1073741823) :
    ∃ z' v, PotOk z' ∧ 0 ≤ v ∧ v < m ∧ evCallG 2 run__law_draw (agV 0 (agD ea agN)) e = .ok (.d (.int v)) (e1.set 0 z') := by
  obtain ⟨z', v, g1, g2, g3, g4⟩ := draw_call he1 hz1 h1 h2
  refine ⟨z', v, g1, g2, g3, ?_⟩
  unfold evCallG
  rw [agV_eq he hz]
  unfold agD agN
  rw [ha]
  simp [g4]
theorem ev_pick {e e1 : Pd.Env} {z z1 : Sl} {ea : EvE} {ds : List D} (he : e[0]? = some z) (hz : PotOk z) (ha : evD ea e = .ok (.list ds) e1) (he1 : e1[0]? = some z1) (hz1 : PotOk z1) (h0 : ds ≠ []) (h1 : ds.length ≤ 100000) :
    ∃ z' x, PotOk z' ∧ x ∈ ds ∧ evCallG 2 run__law_pick (agV 0 (agD ea agN)) e = .ok (.d x) (e1.set 0 z') := by
  obtain ⟨z', x, g1, g2, g4⟩ := pick_call he1 hz1 h0 h1
  refine ⟨z', x, g1, g2, ?_⟩
  unfold evCallG
  rw [agV_eq he hz]
  unfold agD agN
  rw [ha]
  simp [g4]
/-- a text of few signs -/
def txtOk (n : Nat) (x : D) : Bool := match x with
  | .str s => isSigns (tl s) && decide ((tl s).length ≤ n)
  | _ => false
theorem txt_of {n : Nat} {x : D} (h : txtOk n x = true) : ∃ l, x = S l ∧ isSigns l = true ∧ l.length ≤ n := by
  cases x with
  | str s =>
    have h : (isSigns (tl s) && decide ((tl s).length ≤ n)) = true := h
    rw [Bool.and_eq_true] at h
    exact ⟨tl s, rfl, h.1, of_decide_eq_true h.2⟩
  | _ => cases h
def textL : List D := [.str "halt", .str "march 4", .str "", .str "back to set one", .str "+007close f", .str "~", .str "+", .str "exchange ann bob", .str (mkS (List.replicate 40 (tl "x")).flatten), .str " "]
theorem text_run {z : Sl} (hz : PotOk z) : ∃ z' l, PotOk z' ∧ isSigns l = true ∧ l.length ≤ 40 ∧ run__law_text [z] = .ok (.d (S l)) [z'] := by
  have hl : ∀ e : Pd.Env, evD (evLst (evCons (evC (.str "halt")) (evCons (evC (.str "march 4")) (evCons (evC (.str "")) (evCons (evC (.str "back to set one")) (evCons (evC (.str "+007close f")) (evCons (evC (.str "~")) (evCons (evC (.str "+")) (evCons (evC (.str "exchange ann bob")) (evCons (evBin (binD .Mult) (evC (.str "x")) (evC (.int 40))) (evCons (evC (.str " ")) evNil))))))))))) e = .ok (.list textL) e := fun _ => rfl
  obtain ⟨z', x, g1, g2, g3⟩ := ev_pick (e := [z]) rfl hz (hl [z]) rfl hz (by unfold textL; simp) (by unfold textL; simp)
  have ha : textL.all (txtOk 40) = true := by decide +kernel
  obtain ⟨l, rfl, h1, h2⟩ := txt_of (List.all_eq_true.mp ha x g2)
  refine ⟨z', l, g1, h1, h2, ?_⟩
  unfold run__law_text runB code__law_text
  have e0 : ([z] : Pd.Env) ++ List.replicate (1 - 1) .u = [z] := by simp
  rw [e0, evRet_eq, g3]
  rfl
theorem text_call {e : Pd.Env} {z : Sl} (he : e[0]? = some z) (hz : PotOk z) : ∃ z' l, PotOk z' ∧ isSigns l = true ∧ l.length ≤ 40 ∧ evCallG 1 run__law_text (agV 0 agN) e = .ok (.d (S l)) (e.set 0 z') := by
  obtain ⟨z', l, g1, g2, g3, g4⟩ := text_run hz
  refine ⟨z', l, g1, g2, g3, ?_⟩
  unfold evCallG
  rw [agV_eq he hz]
  have hu : resA e [.v 0] = some [z] := by
    obtain ⟨a, b, rfl, _⟩ := hz
    simp [resA, he]
  unfold agN
  simp only [bind_ok]
  unfold callA
  have hv : (vars [.v 0]).Nodup := by show ([0] : List Nat).Nodup; decide
  rw [hu, if_pos hv]
  simp [g4, updA]
/-! the fields' names -/
def K3 : List (List Nat) := [tl "f", tl "g", tl "left"]
def Key3 (F : FV) : Prop := (∀ n ∈ keys F, n ∈ K3) ∧ (keys F).Nodup
theorem nd_le : ∀ (l k : List (List Nat)), l.Nodup → (∀ x ∈ l, x ∈ k) → l.length ≤ k.length
  | [], _, _, _ => Nat.zero_le _
  | x :: l, k, hn, hs => by
    have hn := List.nodup_cons.mp hn
    have hx := hs x (by simp)
    have ih := nd_le l (k.erase x) hn.2 fun y hy => (List.mem_erase_of_ne (fun e => hn.1 (by rw [← e]; exact hy))).mpr (hs y (by simp [hy]))
    rw [List.length_erase_of_mem hx] at ih
    have := List.length_pos_of_mem hx
    simp
    omega
theorem key3_len {F : FV} (h : Key3 F) : F.length ≤ 3 := by
  have := nd_le _ K3 h.2 h.1
  unfold keys at this
  rw [List.length_map] at this
  exact this
theorem keyStrs_enc : ∀ F : FV, keyStrs (enc F) = some ((keys F).map mkS)
  | [] => rfl
  | q :: F => by
    show (keyStrs (enc F)).map (mkS q.1 :: ·) = _
    rw [keyStrs_enc F]
    rfl
theorem sorted_keys {F : FV} (h : Key3 F) : ∃ ks : List (List Nat), callD .sorted [.dict (enc F)] = some (.o (.list (ks.map S))) ∧ ks.Perm (keys F) := by
  have e0 : callD .sorted [.dict (enc F)] = match keyStrs (enc F) with
    | some ks => if Nat.ble ks.length 63 then some (Ar.o (.list ((ks.mergeSort strLe).map .str))) else none
    | none => none := rfl
  have hl := key3_len h
  refine ⟨(((keys F).map mkS).mergeSort strLe).map tl, ?_, ?_⟩
  · rw [e0, keyStrs_enc]
    show (if Nat.ble ((keys F).map mkS).length 63 then some (Ar.o (.list ((((keys F).map mkS).mergeSort strLe).map .str))) else none) = _
    rw [show Nat.ble ((keys F).map mkS).length 63 = true from Nat.ble_eq_true_of_le (by unfold keys; simp; omega), if_pos rfl, List.map_map]
    rfl
  · have := (List.mergeSort_perm ((keys F).map mkS) strLe).map tl
    rw [List.map_map, show (tl ∘ mkS) = id from rfl, List.map_id] at this
    exact this
end K93
set_option Elab.async false
set_option linter.all false
set_option maxRecDepth 100000
set_option maxHeartbeats 2000000
namespace K93
open PySem PySem.Spec PyProof.Rows L2 Pd

/-! ### the law's entries -/
/-- a comprehension that takes some -/
theorem compL_filter {et : D → Pd.Env → Option Pd.Env} {tt : EvB} {te : EvE} {vs : List Nat} {e0 : Pd.Env} (p : D → Bool) (f : D → D) : ∀ (items : List D), (∀ x ∈ items, ∃ e1 e2, et x e0 = some e1 ∧ tt e1 = .ok (p x) e2 ∧ (p x = false → wipeE e2 vs = e0) ∧ (p x = true → ∃ e3, evD te e2 = .ok (f x) e3 ∧ wipeE e3 vs = e0)) → compL et tt te vs items e0 = some ((items.filter p).map f, e0)
  | [], _ => rfl
  | x :: r, h => by
    obtain ⟨e1, e2, h1, h2, h3, h4⟩ := h x List.mem_cons_self
    have ih := compL_filter (vs := vs) p f r fun y hy => h y (List.mem_cons_of_mem _ hy)
    unfold compL
    cases hp : p x with
    | true =>
      obtain ⟨e3, h5, h6⟩ := h4 hp
      simp only [h1, h2, hp, h5, h6, ih, List.filter_cons_of_pos hp, List.map_cons]
    | false =>
      have h7 := h3 hp
      have hf : ¬ p x = true := by rw [hp]; exact Bool.false_ne_true
      simp only [h1, h2, hp, h7, ih, List.filter_cons_of_neg hf]
def freeP (F : FV) (x : D) : Bool := match x with
  | .str s => !(look F (tl s)).isSome
  | _ => false
def k3V : List D := [.str "f", .str "g", .str "left"]
theorem free_comp (F : FV) (z : Sl) (a4 a5 a6 : Sl) : evComp (evIt (evVar 2)) (gN 3) (evIs (evCmpB (cmpD .NotIn) (evVar 3) (evBor 1))) (evVar 3) [3] [z, .d (.dict (enc F)), .o (.list k3V), .u, a4, a5, a6] = .ok (.o (.list (k3V.filter (freeP F)))) [z, .d (.dict (enc F)), .d (.list k3V), .u, a4, a5, a6] := by
  have hc : compL (gN 3) (evIs (evCmpB (cmpD .NotIn) (evVar 3) (evBor 1))) (evVar 3) [3] k3V [z, .d (.dict (enc F)), .d (.list k3V), .u, a4, a5, a6] = some ((k3V.filter (freeP F)).map id, [z, .d (.dict (enc F)), .d (.list k3V), .u, a4, a5, a6]) := by
    refine compL_filter _ _ _ fun x hx => ?_
    have hs : ∃ s, x = .str s := by
      unfold k3V at hx
      simp at hx
      rcases hx with rfl | rfl | rfl <;> exact ⟨_, rfl⟩
    obtain ⟨s, rfl⟩ := hs
    refine ⟨[z, .d (.dict (enc F)), .d (.list k3V), .d (.str s), a4, a5, a6], [z, .d (.dict (enc F)), .d (.list k3V), .d (.str s), a4, a5, a6], rfl, ?_, fun _ => rfl, fun _ => ⟨[z, .d (.dict (enc F)), .d (.list k3V), .d (.str s), a4, a5, a6], rfl, rfl⟩⟩
    have := notin_enc F (tl s)
    rw [show S (tl s) = .str s from rfl] at this
    simp [this, freeP]
  rw [List.map_id] at hc
  have hn : noOwn [z, .d (.dict (enc F)), .d (.list k3V), .u, a4, a5, a6] [3] = true := rfl
  have hw : wipeE [z, .d (.dict (enc F)), .d (.list k3V), .u, a4, a5, a6] [3] = [z, .d (.dict (enc F)), .d (.list k3V), .u, a4, a5, a6] := rfl
  have hi : evIt (evVar 2) [z, .d (.dict (enc F)), .o (.list k3V), .u, a4, a5, a6] = .ok k3V [z, .d (.dict (enc F)), .d (.list k3V), .u, a4, a5, a6] := rfl
  have hz : sz k3V.length = true := rfl
  rw [evComp_eq, hi]
  simp only [bind_ok, hn, hw, hz, hc, Bool.and_self, if_true]
  rfl
theorem shaped_keys : ∀ ks : List (List Nat), (∀ k ∈ ks, okT k) → SeqAt.shaped (.list (ks.map S)) = true := by
  intro ks h
  have h1 : ∀ ks : List (List Nat), (∀ k ∈ ks, okT k) → PyData.canLayAll0 (ks.map S) = true := by
    intro ks
    induction ks with
    | nil => exact fun _ => rfl
    | cons k ks ih =>
      intro h
      rw [List.map_cons]
      show ((S k).canLay0 && PyData.canLayAll0 (ks.map S)) = true
      rw [ih fun q hq => h q (by simp [hq])]
      have := SeqAt.canLay_of_shaped (shaped_S (h k (by simp)))
      rw [this]
      rfl
  unfold SeqAt.shaped
  have h2 : (PyData.list (ks.map S)).canLay0 = true := h1 ks h
  rw [h2]
  simp [PyData.depth, depth_strs]
end K93
set_option Elab.async false
set_option linter.all false
set_option maxRecDepth 100000
set_option maxHeartbeats 2000000
namespace K93
open PySem PySem.Spec PyProof.Rows L2 Pd

theorem eq_nil {ds : List D} (h : SeqAt.shaped (.list ds) = true) : cmpD .Eq (.list ds) (.list []) = some ds.isEmpty := by
  show (if SeqAt.shaped (.list ds) && SeqAt.shaped (.list []) then some (PyData.eqv (.list ds) (.list [])) else none) = _
  rw [h, if_pos (by rfl)]
  cases ds <;> rfl
theorem ne_nil {ds : List D} (h : SeqAt.shaped (.list ds) = true) : cmpD .NotEq (.list ds) (.list []) = some (!ds.isEmpty) := by
  show (if SeqAt.shaped (.list ds) && SeqAt.shaped (.list []) then some (!PyData.eqv (.list ds) (.list [])) else none) = _
  rw [h, if_pos (by rfl)]
  cases ds <;> rfl
theorem k3_free {F : FV} {x : D} (h : x ∈ k3V.filter (freeP F)) : ∃ n, x = S n ∧ n ∈ K3 ∧ (look F n).isSome = false := by
  obtain ⟨h1, h2⟩ := List.mem_filter.mp h
  have : ∃ n, x = S n ∧ n ∈ K3 := by
    unfold k3V at h1
    simp at h1
    rcases h1 with rfl | rfl | rfl
    · exact ⟨tl "f", rfl, by unfold K3; simp⟩
    · exact ⟨tl "g", rfl, by unfold K3; simp⟩
    · exact ⟨tl "left", rfl, by unfold K3; simp⟩
  obtain ⟨n, rfl, hn⟩ := this
  refine ⟨n, rfl, hn, ?_⟩
  have h2 : (!(look F n).isSome) = true := h2
  simpa using h2
theorem k3_name {n : List Nat} (h : n ∈ K3) : isName n = true := by
  have : K3.all isName = true := by decide +kernel
  exact List.all_eq_true.mp this n h
theorem k3_okT {n : List Nat} (h : n ∈ K3) : okT n := by
  have a := k3_name h
  have b := name_prt a
  refine ⟨fun c hc => ?_, by omega⟩
  have := List.all_eq_true.mp b.1 c hc
  unfold isPrt at this
  simp at this
  omega
theorem k3_all_free {F : FV} (h : Key3 F) (he : keys F = []) : k3V.filter (freeP F) = k3V := by
  have : F = [] := by
    unfold keys at he
    simpa using he
  subst this
  rfl
theorem as_map {P : List Nat → Prop} : ∀ ds : List D, (∀ x ∈ ds, ∃ n, x = S n ∧ P n) → ∃ ns : List (List Nat), ds = ns.map S ∧ ∀ n ∈ ns, P n
  | [], _ => ⟨[], rfl, fun _ h => by cases h⟩
  | x :: ds, h => by
    obtain ⟨n, rfl, hn⟩ := h x (by simp)
    obtain ⟨ns, rfl, hns⟩ := as_map ds fun y hy => h y (by simp [hy])
    refine ⟨n :: ns, rfl, fun m hm => ?_⟩
    rcases List.mem_cons.mp hm with rfl | hm
    · exact hn
    · exact hns m hm
theorem shaped_free (F : FV) : SeqAt.shaped (.list (k3V.filter (freeP F))) = true := by
  obtain ⟨ns, h1, h2⟩ := as_map (P := fun n => n ∈ K3) (k3V.filter (freeP F)) fun x hx => by
    obtain ⟨n, a, b, _⟩ := k3_free hx
    exact ⟨n, a, b⟩
  rw [h1]
  exact shaped_keys ns fun n hn => k3_okT (h2 n hn)
end K93
set_option Elab.async false
set_option linter.all false
set_option maxRecDepth 100000
set_option maxHeartbeats 2000000
namespace K93
open PySem PySem.Spec PyProof.Rows L2 Pd

/-- an entry as the law draws them -/
structure Drawn (e : List (List Nat)) : Prop where
  ent : isEnt e = true
  key : e.getD 1 [] ∈ K3
  len : e.length ≤ 3 ∧ ∀ p ∈ e, p.length ≤ 40
theorem drawn_open {n a : List Nat} (h : n ∈ K3) (ha : isName a = true) : Drawn [tl "open", n, a] := by
  refine ⟨?_, h, by simp, fun p hp => ?_⟩
  · rw [isEnt3, k3_name h, ha]
    simp
  · have h1 := (name_prt (k3_name h)).2
    have h2 := (name_prt ha).2
    have h3 : (tl "open").length = 4 := by decide +kernel
    simp at hp
    rcases hp with rfl | rfl | rfl <;> omega
theorem drawn_close {n : List Nat} (h : n ∈ K3) : Drawn [tl "close", n] := by
  refine ⟨?_, h, by simp, fun p hp => ?_⟩
  · show (isName n && decide (tl "close" = tl "close")) = true
    rw [k3_name h]
    simp
  · have h1 := (name_prt (k3_name h)).2
    have h3 : (tl "close").length = 5 := by decide +kernel
    simp at hp
    rcases hp with rfl | rfl <;> omega
theorem drawn_call {n a : List Nat} (h : n ∈ K3) (ha : isSigns a = true) (hl : a.length ≤ 40) : Drawn [tl "call", n, a] := by
  refine ⟨?_, h, by simp, fun p hp => ?_⟩
  · have e1 : decide (tl "call" = tl "open") = false := by decide +kernel
    rw [isEnt3, k3_name h, ha, e1]
    simp [hl]
  · have h1 := (name_prt (k3_name h)).2
    have h3 : (tl "call").length = 4 := by decide +kernel
    simp at hp
    rcases hp with rfl | rfl | rfl <;> omega
end K93
set_option Elab.async false
set_option linter.all false
set_option maxRecDepth 100000
set_option maxHeartbeats 2000000
namespace K93
open PySem PySem.Spec PyProof.Rows L2 Pd

theorem entry_par {z : Sl} (hz : PotOk z) {F : FV} (h : Key3 F) : ∃ (z1 : Sl) (v : Int) (ks : List (List Nat)), PotOk z1 ∧ 0 ≤ v ∧ v < 8 ∧ ks.Perm (keys F) ∧ evPar [4, 5, 6] (evConsO (evComp (evIt (evVar 2)) (gN 3) (evIs (evCmpB (cmpD .NotIn) (evVar 3) (evBor 1))) (evVar 3) [3]) (evConsO (evCallB .sorted (evCons (evVar 1) evNil)) (evConsO (evCallG 2 run__law_draw (agV 0 (agD (evC (.int 8)) agN))) evNilO))) [z, .d (.dict (enc F)), .o (.list k3V), .u, .u, .u, .u] = .nx [z1, .d (.dict (enc F)), .d (.list k3V), .u, .o (.list (k3V.filter (freeP F))), .o (.list (ks.map S)), .d (.int v)] := by
  obtain ⟨ks, hk1, hk2⟩ := sorted_keys h
  obtain ⟨z1, v, p1, v0, v8, hd⟩ := ev_draw (e := [z, .d (.dict (enc F)), .d (.list k3V), .u, .u, .u, .u]) (ea := evC (.int 8)) (m := 8) rfl hz rfl rfl hz (by omega) (by omega)
  refine ⟨z1, v, ks, p1, v0, v8, hk2, ?_⟩
  have fc := free_comp F z .u .u .u
  generalize evComp (evIt (evVar 2)) (gN 3) (evIs (evCmpB (cmpD .NotIn) (evVar 3) (evBor 1))) (evVar 3) [3] = cc at fc ⊢
  simp [evPar, evConsO, evNilO, fc, hk1, hd, slA]
end K93
set_option Elab.async false
set_option linter.all false
set_option maxRecDepth 100000
set_option maxHeartbeats 2000000
namespace K93
open PySem PySem.Spec PyProof.Rows L2 Pd

theorem open_ret {z1 : Sl} (p1 : PotOk z1) {F : FV} (hne : k3V.filter (freeP F) ≠ []) (a1 a2 a3 a5 a6 f4 : Sl) (h4 : f4 = .o (.list (k3V.filter (freeP F))) ∨ f4 = .d (.list (k3V.filter (freeP F)))) : ∃ z' e b1 b2 b3 b4 b5 b6, PotOk z' ∧ Drawn e ∧ evRet (evTup (evCons (evC (.str "open")) (evCons (evCallG 2 run__law_pick (agV 0 (agD (evVar 4) agN))) (evCons (evCallG 2 run__law_pick (agV 0 (agD (evLst (evCons (evC (.str "turn")) (evCons (evC (.str "d")) evNil))) agN))) evNil)))) [z1, a1, a2, a3, f4, a5, a6] = .rt (.d (tupE e)) [z', b1, b2, b3, b4, b5, b6] := by
  have hlen : (k3V.filter (freeP F)).length ≤ 100000 := by
    have := List.length_filter_le (freeP F) k3V
    have : k3V.length = 3 := rfl
    omega
  have hv : evD (evVar 4) [z1, a1, a2, a3, f4, a5, a6] = .ok (.list (k3V.filter (freeP F))) [z1, a1, a2, a3, .d (.list (k3V.filter (freeP F))), a5, a6] := by
    rcases h4 with rfl | rfl <;> rfl
  obtain ⟨z2, x, p2, hx, e1⟩ := ev_pick (e := [z1, a1, a2, a3, f4, a5, a6]) rfl p1 hv rfl p1 hne hlen
  obtain ⟨n, rfl, hn, _⟩ := k3_free hx
  have hl : evD (evLst (evCons (evC (.str "turn")) (evCons (evC (.str "d")) evNil))) [z2, a1, a2, a3, .d (.list (k3V.filter (freeP F))), a5, a6] = .ok (.list [.str "turn", .str "d"]) [z2, a1, a2, a3, .d (.list (k3V.filter (freeP F))), a5, a6] := rfl
  obtain ⟨z3, y, p3, hy, e2⟩ := ev_pick (e := [z2, a1, a2, a3, .d (.list (k3V.filter (freeP F))), a5, a6]) rfl p2 hl rfl p2 (by simp) (by simp)
  have hyn : ∃ m, y = S m ∧ isName m = true := by
    simp at hy
    rcases hy with rfl | rfl
    · exact ⟨tl "turn", rfl, by decide +kernel⟩
    · exact ⟨tl "d", rfl, by decide +kernel⟩
  obtain ⟨m, rfl, hm⟩ := hyn
  refine ⟨z3, [tl "open", n, m], a1, a2, a3, .d (.list (k3V.filter (freeP F))), a5, a6, p3, drawn_open hn hm, ?_⟩
  simp only [List.set_cons_zero] at e1 e2
  simp only [evRet_eq, evTup_eq, evCons_eq, evNil_eq, evD_eq, evC_eq, bind_ok, x_d, e1, e2]
  rfl
theorem entry_run {z : Sl} (hz : PotOk z) {F : FV} (h : Key3 F) : ∃ z' e, PotOk z' ∧ Drawn e ∧ run__law_entry [z, .d (.dict (enc F))] = .ok (.d (tupE e)) [z', .u] := by
  obtain ⟨z1, v, ks, p1, v0, v8, hk, hp⟩ := entry_par hz h
  have hkey : ∀ n ∈ ks, n ∈ K3 := fun n hn => h.1 n (hk.mem_iff.mp hn)
  have n1 := eq_nil (shaped_keys ks fun n hn => k3_okT (hkey n hn))
  have n2 := ne_nil (shaped_free F)
  have hv := eq_int (i := v) (j := 0)
  have s0 : evSet 2 (evLst (evCons (evC (.str "f")) (evCons (evC (.str "g")) (evCons (evC (.str "left")) evNil)))) [z, .d (.dict (enc F)), .u, .u, .u, .u, .u] = .nx [z, .d (.dict (enc F)), .o (.list k3V), .u, .u, .u, .u] := rfl
  unfold run__law_entry runB code__law_entry
  have e0 : ([z, .d (.dict (enc F))] : Pd.Env) ++ List.replicate (7 - 2) .u = [z, .d (.dict (enc F)), .u, .u, .u, .u, .u] := rfl
  rw [e0, evSeq_eq, s0]
  simp only []
  rw [evSeq_eq, hp]
  simp only []
  have cond : (evOr (evIs (evCmp (cmpD .Eq) (evVar 5) (evLst evNil))) (evAnd (evIs (evCmp (cmpD .NotEq) (evVar 4) (evLst evNil))) (evIs (evCmp (cmpD .Eq) (evVar 6) (evC (.int 0)))))) [z1, .d (.dict (enc F)), .d (.list k3V), .u, .o (.list (k3V.filter (freeP F))), .o (.list (ks.map S)), .d (.int v)] = .ok ((ks.map S).isEmpty || (!(k3V.filter (freeP F)).isEmpty && decide (v = 0))) [z1, .d (.dict (enc F)), .d (.list k3V), .u, if (ks.map S).isEmpty then .o (.list (k3V.filter (freeP F))) else .d (.list (k3V.filter (freeP F))), .d (.list (ks.map S)), .d (.int v)] := by
    generalize (k3V.filter (freeP F)) = fr at n2
    generalize ks.map S = kk at n1
    cases h1 : kk.isEmpty <;> cases h2 : fr.isEmpty <;> rw [h1] at n1 <;> rw [h2] at n2 <;> simp [n1, n2, sz]
  cases hc : ((ks.map S).isEmpty || (!(k3V.filter (freeP F)).isEmpty && decide (v = 0))) with
  | true =>
    rw [hc] at cond
    have hne : k3V.filter (freeP F) ≠ [] := by
      intro hz
      rw [hz] at hc
      cases hks : ks with
      | nil =>
        rw [hks] at hk
        have := k3_all_free h (List.nil_perm.mp hk)
        rw [hz] at this
        cases this
      | cons k r => rw [hks] at hc; simp at hc
    obtain ⟨z', e, b1, b2, b3, b4, b5, b6, g1, g2, g3⟩ := open_ret p1 hne (.d (.dict (enc F))) (.d (.list k3V)) .u (.d (.list (ks.map S))) (.d (.int v)) (if (ks.map S).isEmpty then .o (.list (k3V.filter (freeP F))) else .d (.list (k3V.filter (freeP F)))) (by split; exact .inl rfl; exact .inr rfl)
    refine ⟨z', e, g1, g2, ?_⟩
    rw [evSeq_eq, evIfS_eq, cond]
    simp only [go_ok]
    rw [g3]
    rfl
  | false =>
    rw [hc] at cond
    have hks : ks.map S ≠ [] := by
      intro hz
      rw [hz] at hc
      simp at hc
    generalize (if (ks.map S).isEmpty then Sl.o (.list (k3V.filter (freeP F))) else .d (.list (k3V.filter (freeP F)))) = f4 at cond
    have hlen : (ks.map S).length ≤ 100000 := by
      have := hk.length_eq
      have := key3_len h
      unfold keys at *
      simp at *
      omega
    have hv5 : evD (evVar 5) [z1, .d (.dict (enc F)), .d (.list k3V), .u, f4, .d (.list (ks.map S)), .d (.int v)] = .ok (.list (ks.map S)) [z1, .d (.dict (enc F)), .d (.list k3V), .u, f4, .d (.list (ks.map S)), .d (.int v)] := rfl
    obtain ⟨z2, x, p2, hx, e1⟩ := ev_pick (e := [z1, .d (.dict (enc F)), .d (.list k3V), .u, f4, .d (.list (ks.map S)), .d (.int v)]) rfl p1 hv5 rfl p1 hks hlen
    obtain ⟨n, hn, rfl⟩ := List.mem_map.mp hx
    have hn3 := hkey n hn
    obtain ⟨z3, t, p3, ht, htl, e2⟩ := text_call (e := [z2, .d (.dict (enc F)), .d (.list k3V), .d (S n), f4, .d (.list (ks.map S)), .d (.int v)]) rfl p2
    have e1 : evSet 3 (evCallG 2 run__law_pick (agV 0 (agD (evVar 5) agN))) [z1, .d (.dict (enc F)), .d (.list k3V), .u, f4, .d (.list (ks.map S)), .d (.int v)] = .nx [z2, .d (.dict (enc F)), .d (.list k3V), .d (S n), f4, .d (.list (ks.map S)), .d (.int v)] := by
      rw [evSet_eq, e1]
      rfl
    rw [evSeq_eq, evIfS_eq, cond]
    simp only [go_ok, evNx_eq]
    rw [evSeq_eq, e1]
    simp only []
    by_cases h1 : v = 1
    · subst h1
      exact ⟨z2, [tl "close", n], p2, drawn_close hn3, rfl⟩
    · have hv1 := eq_int (i := v) (j := 1)
      rw [decide_eq_false h1] at hv1
      refine ⟨z3, [tl "call", n, t], p3, drawn_call hn3 ht htl, ?_⟩
      rw [evRet_eq, evIf_eq]
      have hcd : (evIs (evCmp (cmpD .Eq) (evVar 6) (evC (.int 1)))) [z2, .d (.dict (enc F)), .d (.list k3V), .d (S n), f4, .d (.list (ks.map S)), .d (.int v)] = .ok false [z2, .d (.dict (enc F)), .d (.list k3V), .d (S n), f4, .d (.list (ks.map S)), .d (.int v)] := by
        simp [hv1]
      rw [hcd]
      simp only [bind_ok]
      simp only [evTup_eq, evCons_eq, evNil_eq, evD_eq, evC_eq, evVar_eq, List.getElem?_cons_succ, List.getElem?_cons_zero, bind_ok, x_d, e2]
      rfl
end K93
set_option Elab.async false
set_option linter.all false
set_option maxRecDepth 100000
set_option maxHeartbeats 2000000
namespace K93
open PySem PySem.Spec PyProof.Rows L2 Pd

/-! ### the law's rows and tapes -/
theorem entry_call {e : Pd.Env} {z : Sl} (he : e[0]? = some z) (hz : PotOk z) {F : FV} (h : Key3 F) {i : Nat} (hi : evD (evVar i) e = .ok (.dict (enc F)) e) : ∃ z' en, PotOk z' ∧ Drawn en ∧ evCallG 2 run__law_entry (agV 0 (agD (evVar i) agN)) e = .ok (.d (tupE en)) (e.set 0 z') := by
  obtain ⟨z', en, g1, g2, g4⟩ := entry_run hz h
  refine ⟨z', en, g1, g2, ?_⟩
  unfold evCallG
  rw [agV_eq he hz]
  unfold agD agN
  rw [hi]
  have hu : resA e [.v 0, .d (.dict (enc F))] = some [z, .d (.dict (enc F))] := by
    obtain ⟨a, b, rfl, _⟩ := hz
    simp [resA, he]
  simp only [bind_ok]
  unfold callA
  rw [hu, if_pos (vars_2 _)]
  simp [g4, updA]
theorem prt_all (l : List Nat) : isSigns l = l.all isPrt := rfl
theorem add_txt {a b : List Nat} (h : a.length + b.length ≤ 1000000) : binD .Add (S a) (S b) = some (.d (S (a ++ b))) := by
  show (if sz (a.length + b.length) then some (Ar.d (.str (mkS (a ++ b)))) else none) = _
  rw [sz_le h, if_pos rfl]
theorem zf_dec : ∀ i : Fin 130, (isSigns (tl (Txt.zfill (mkS (TL.numL i.val)) 3)) && decide ((tl (Txt.zfill (mkS (TL.numL i.val)) 3)).length ≤ 10)) = true := by decide +kernel
theorem zf_ok {n : Nat} (h : n < 130) : mthD .zfill (mkS (TL.numL n)) [.int 3] = some (.d (S (tl (Txt.zfill (mkS (TL.numL n)) 3)))) ∧ isSigns (tl (Txt.zfill (mkS (TL.numL n)) 3)) = true ∧ (tl (Txt.zfill (mkS (TL.numL n)) 3)).length ≤ 10 := by
  have := zf_dec ⟨n, h⟩
  rw [Bool.and_eq_true] at this
  refine ⟨?_, this.1, of_decide_eq_true this.2⟩
  show (if PadOk 3 then some (Ar.d (.str (Txt.zfill (mkS (TL.numL n)) 3))) else none) = _
  rw [if_pos (by decide +kernel)]
  rfl
theorem signs_app {a b : List Nat} (ha : isSigns a = true) (hb : isSigns b = true) : isSigns (a ++ b) = true := by
  unfold isSigns at *
  rw [List.all_append, ha, hb]
  rfl
theorem slc_tup1 (ds : List D) : slcD (.tuple ds) (some 1) none = some (.d (.tuple (ds.drop 1))) := by
  show some (Ar.d (.tuple (cutL ds (some 1) none))) = _
  congr 3
  unfold cutL
  rw [show (some (1 : Int)) = some ((1 : Nat) : Int) from rfl, HT.sIx_nat, HT.sIx_none]
  by_cases h : 1 ≤ ds.length
  · rw [Nat.min_eq_left h, List.take_of_length_le (by simp)]
  · rw [Nat.min_eq_right (by omega), List.drop_of_length_le (Nat.le_refl _), List.drop_of_length_le (by omega), List.take_nil]
end K93
set_option Elab.async false
set_option linter.all false
set_option maxRecDepth 100000
set_option maxHeartbeats 2000000
namespace K93
open PySem PySem.Spec PyProof.Rows L2 Pd

theorem str_int {n : Nat} (h : n ≤ 1000) : callD .str [.int (n : Nat)] = some (.d (S (TL.numL n))) := by
  show (if Pd.inR 0 1000000000000 (n : Nat) then some (Ar.d (.str (mkS (TL.numL ((n : Nat) : Int).toNat)))) else none) = _
  rw [inR_of (by omega) (by omega), if_pos rfl]
  rfl
theorem law_row_eq {e : List (List Nat)} (d : Drawn e) (env : Pd.Env) : ∃ t, isSigns t = true ∧ (1 ≤ t.length ∧ t.length ≤ 200) ∧ runD run__law_row [tupE e] env = .ok (.d (S t)) env := by
  have hp := ent_prt d.ent
  have hl := d.len
  unfold run__law_row code__law_row
  rw [runD_eq]
  have cs : ∀ er env, evCallB .str er env = (er env).bind fun xs e => ofO (callD .str xs) e := fun _ _ => rfl
  match e, d, hp, hl with
  | [k, n], d, hp, hl =>
    have a1 := hp k (by simp)
    have a2 := hp n (by simp)
    have l1 := hl.2 k (by simp)
    have l2 := hl.2 n (by simp)
    have ht : tl " " = [32] := by decide
    have b1 : binD .Add (S k) (.str " ") = some (.d (S (k ++ [32]))) := add_txt (a := k) (b := [32]) (by simp; omega)
    have b2 := add_txt (a := k ++ [32]) (b := n) (by simp; omega)
    have hlen := len_d (k ++ [32] ++ n) (by simp; omega)
    have hn : (k ++ [32] ++ n).length < 130 := by simp; omega
    have hq : isSigns (k ++ [32] ++ n) = true := signs_app (signs_app a1 (by decide)) a2
    generalize k ++ [32] ++ n = q at *
    obtain ⟨z1, z2, z3⟩ := zf_ok hn
    have s1 := str_int (n := q.length) (by omega)
    generalize tl (Txt.zfill (mkS (TL.numL q.length)) 3) = w at *
    have b3 : binD .Add (.str "+") (S w) = some (.d (S (43 :: w))) := add_txt (a := [43]) (by simp; omega)
    have b4 := add_txt (a := 43 :: w) (b := q) (by simp; omega)
    refine ⟨43 :: w ++ q, signs_app (signs_app (a := [43]) (by decide) z2) hq, ⟨by simp, by simp; omega⟩, ?_⟩
    simp [tupE, slA, slc_tup1, itemsD, forL, b1, b2, hlen, s1, z1, b3, b4]
  | [k, n, a], d, hp, hl =>
    have a1 := hp k (by simp)
    have a2 := hp n (by simp)
    have a3 := hp a (by simp)
    have l1 := hl.2 k (by simp)
    have l2 := hl.2 n (by simp)
    have l3 := hl.2 a (by simp)
    have b1 : binD .Add (S k) (.str " ") = some (.d (S (k ++ [32]))) := add_txt (a := k) (b := [32]) (by simp; omega)
    have b2 := add_txt (a := k ++ [32]) (b := n) (by simp; omega)
    have b5 : binD .Add (S (k ++ [32] ++ n)) (.str " ") = some (.d (S (k ++ [32] ++ n ++ [32]))) := add_txt (a := k ++ [32] ++ n) (b := [32]) (by simp; omega)
    have b6 := add_txt (a := k ++ [32] ++ n ++ [32]) (b := a) (by simp; omega)
    have hlen := len_d (k ++ [32] ++ n ++ [32] ++ a) (by simp; omega)
    have hn : (k ++ [32] ++ n ++ [32] ++ a).length < 130 := by simp; omega
    have hq : isSigns (k ++ [32] ++ n ++ [32] ++ a) = true := signs_app (signs_app (signs_app (signs_app a1 (by decide)) a2) (by decide)) a3
    generalize k ++ [32] ++ n ++ [32] ++ a = q at *
    generalize k ++ [32] ++ n ++ [32] = q1 at *
    generalize k ++ [32] ++ n = q2 at *
    obtain ⟨z1, z2, z3⟩ := zf_ok hn
    have s1 := str_int (n := q.length) (by omega)
    generalize tl (Txt.zfill (mkS (TL.numL q.length)) 3) = w at *
    have b3 : binD .Add (.str "+") (S w) = some (.d (S (43 :: w))) := add_txt (a := [43]) (by simp; omega)
    have b4 := add_txt (a := 43 :: w) (b := q) (by simp; omega)
    refine ⟨43 :: w ++ q, signs_app (signs_app (a := [43]) (by decide) z2) hq, ⟨by simp, by simp; omega⟩, ?_⟩
    simp [tupE, slA, slc_tup1, itemsD, forL, b1, b2, b5, b6, hlen, s1, z1, b3, b4]
end K93
set_option Elab.async false
set_option linter.all false
set_option maxRecDepth 100000
set_option maxHeartbeats 2000000
namespace K93
open PySem PySem.Spec PyProof.Rows L2 Pd

theorem slc_pre {l : List Nat} (hl : l.length ≤ 100000) {j : Int} {b : Nat} (hj : j = (b : Nat)) : slcD (S l) none (some j) = some (.d (S (l.take b))) := by
  have hz : sz (tl (mkS l)).length = true := sz_le (by show l.length ≤ _; omega)
  show (if sz (tl (mkS l)).length then some (Ar.d (.str (mkS (cutL (tl (mkS l)) none (some j))))) else none) = _
  rw [hz, if_pos rfl, hj]
  unfold cutL
  rw [HT.sIx_nat, HT.sIx_none, tl_mk]
  congr 4
  simp [List.take_eq_take_iff]
theorem slc_suf {l : List Nat} (hl : l.length ≤ 100000) {i : Int} {a : Nat} (hi : i = (a : Nat)) : slcD (S l) (some i) none = some (.d (S (l.drop a))) := by
  have hz : sz (tl (mkS l)).length = true := sz_le (by show l.length ≤ _; omega)
  show (if sz (tl (mkS l)).length then some (Ar.d (.str (mkS (cutL (tl (mkS l)) (some i) none)))) else none) = _
  rw [hz, if_pos rfl, hi]
  unfold cutL
  rw [HT.sIx_nat, HT.sIx_none, tl_mk]
  congr 4
  by_cases h : a ≤ l.length
  · rw [Nat.min_eq_left h, List.take_of_length_le (by simp)]
  · rw [Nat.min_eq_right (by omega), List.drop_of_length_le (Nat.le_refl _), List.drop_of_length_le (by omega), List.take_nil]
theorem signs_take {l : List Nat} (h : isSigns l = true) (k : Nat) : isSigns (l.take k) = true := by
  unfold isSigns at *
  rw [List.all_eq_true] at *
  exact fun x hx => h x (List.mem_of_mem_take hx)
theorem signs_drop {l : List Nat} (h : isSigns l = true) (k : Nat) : isSigns (l.drop k) = true := by
  unfold isSigns at *
  rw [List.all_eq_true] at *
  exact fun x hx => h x (List.mem_of_mem_drop hx)
theorem hurt_run {z : Sl} (hz : PotOk z) {t : List Nat} (ht : isSigns t = true) (hl : 1 ≤ t.length ∧ t.length ≤ 200) : ∃ z' u, PotOk z' ∧ isSigns u = true ∧ u.length ≤ 201 ∧ run__law_hurt [z, .d (S t)] = .ok (.d (S u)) [z', .u] := by
  have hlen := len_d t (by omega)
  have c1 : evD (evCallV .len 1) [z, .d (S t), .u, .u] = .ok (.int (t.length : Nat)) [z, .d (S t), .u, .u] := by simp [hlen]
  obtain ⟨z1, v, p1, v0, v1, e1⟩ := ev_draw (e := [z, .d (S t), .u, .u]) rfl hz c1 rfl hz (by omega) (by omega)
  obtain ⟨j, rfl⟩ := Int.eq_ofNat_of_zero_le v0
  have c2 : evD (evLst (evCons (evC (.str "~")) (evCons (evC (.str "0")) (evCons (evC (.str "1")) (evCons (evC (.str " ")) (evCons (evC (.str "+")) (evCons (evC (.str "a")) evNil))))))) [z1, .d (S t), .u, .u] = .ok (.list [.str "~", .str "0", .str "1", .str " ", .str "+", .str "a"]) [z1, .d (S t), .u, .u] := rfl
  obtain ⟨z2, x, p2, hx, e2⟩ := ev_pick (e := [z1, .d (S t), .u, .u]) rfl p1 c2 rfl p1 (by simp) (by simp)
  have hxa : ([.str "~", .str "0", .str "1", .str " ", .str "+", .str "a"] : List D).all (txtOk 1) = true := by decide +kernel
  obtain ⟨c, rfl, hc1, hc2⟩ := txt_of (List.all_eq_true.mp hxa x hx)
  have s1 := slc_pre (l := t) (j := (j : Nat)) (by omega) rfl
  have s2 := slc_suf (l := t) (i := (j : Nat) + 1) (a := j + 1) (by omega) (by omega)
  have s3 := slc_suf (l := t) (i := 1) (a := 1) (by omega) rfl
  have ht1 : (t.take j).length ≤ 200 := by simp; omega
  have ht2 : (t.drop (j + 1)).length ≤ 200 := by simp; omega
  have ht3 : (t.drop 1).length ≤ 199 := by simp; omega
  have b1 := add_txt (a := t.take j) (b := c) (by omega)
  have b2 := add_txt (a := t.take j ++ c) (b := t.drop (j + 1)) (by simp; omega)
  have b3 : binD .Add (.str "~") (S (t.drop 1)) = some (.d (S (126 :: t.drop 1))) := add_txt (a := [126]) (by simp; omega)
  have hall : ∀ y ∈ [S t, S t, S t, S t, S (t.take j ++ c ++ t.drop (j + 1)), S (126 :: t.drop 1), S (t.take j)], ∃ u, y = S u ∧ isSigns u = true ∧ u.length ≤ 201 := by
    intro y hy
    simp at hy
    rcases hy with rfl | rfl | rfl | rfl
    · exact ⟨t, rfl, ht, by omega⟩
    · exact ⟨t.take j ++ c ++ t.drop (j + 1), by simp, signs_app (signs_app (signs_take ht _) hc1) (signs_drop ht _), by simp; omega⟩
    · exact ⟨126 :: t.drop 1, by simp, signs_app (a := [126]) (by decide) (signs_drop ht _), by simp; omega⟩
    · exact ⟨t.take j, rfl, signs_take ht _, by omega⟩
  have c3 : evD (evLst (evCons (evVar 1) (evCons (evVar 1) (evCons (evVar 1) (evCons (evVar 1) (evCons (evBin (binD .Add) (evBin (binD .Add) (evSlc (evVar 1) evNoPart (evPart (evVar 2))) (evVar 3)) (evSlc (evVar 1) (evPart (evBin (binD .Add) (evVar 2) (evC (.int 1)))) evNoPart)) (evCons (evBin (binD .Add) (evC (.str "~")) (evSlc (evVar 1) (evPart (evC (.int 1))) evNoPart)) (evCons (evSlc (evVar 1) evNoPart (evPart (evVar 2))) evNil)))))))) [z2, .d (S t), .d (.int (j : Nat)), .d (S c)] = .ok (.list [S t, S t, S t, S t, S (t.take j ++ c ++ t.drop (j + 1)), S (126 :: t.drop 1), S (t.take j)]) [z2, .d (S t), .d (.int (j : Nat)), .d (S c)] := by
    generalize t.drop 1 = d1 at *
    generalize t.drop (j + 1) = d2 at *
    generalize t.take j = d3 at *
    simp only [evD_eq, evLst_eq, evCons_eq, evNil_eq, evVar_eq, evBin_eq, evSlc_eq, evPart_eq, evNoPart_eq, evC_eq, List.getElem?_cons_succ, List.getElem?_cons_zero, bind_ok, x_d, ofO_ok, s1, s2, s3, b1, b2, b3, Pd.add_int]
    rfl
  obtain ⟨z3, y, p3, hy, e3⟩ := ev_pick (e := [z2, .d (S t), .d (.int (j : Nat)), .d (S c)]) rfl p2 c3 rfl p2 (by simp) (by simp)
  obtain ⟨u, rfl, hu1, hu2⟩ := hall y hy
  refine ⟨z3, u, p3, hu1, hu2, ?_⟩
  unfold run__law_hurt runB code__law_hurt
  have e0 : ([z, .d (S t)] : Pd.Env) ++ List.replicate (4 - 2) .u = [z, .d (S t), .u, .u] := rfl
  simp only [List.set_cons_zero] at e1 e2 e3
  have pr : evPar [2, 3] (evConsO (evCallG 2 run__law_draw (agV 0 (agD (evCallV .len 1) agN))) (evConsO (evCallG 2 run__law_pick (agV 0 (agD (evLst (evCons (evC (.str "~")) (evCons (evC (.str "0")) (evCons (evC (.str "1")) (evCons (evC (.str " ")) (evCons (evC (.str "+")) (evCons (evC (.str "a")) evNil))))))) agN))) evNilO)) [z, .d (S t), .u, .u] = .nx [z2, .d (S t), .d (.int (j : Nat)), .d (S c)] := by
    unfold evPar evConsO evNilO
    simp only [e1, e2, bind_ok, go_ok]
    rfl
  rw [e0, evSeq_eq, pr]
  simp only []
  rw [evRet_eq, e3]
  rfl
end K93
set_option Elab.async false
set_option linter.all false
set_option maxRecDepth 100000
set_option maxHeartbeats 2000000
namespace K93
open PySem PySem.Spec PyProof.Rows L2 Pd

/-! ### tapes laid out by hand -/
theorem callG2 {run : Pd.Run} {e e1 : Pd.Env} {z z1 z' o : Sl} {ea : EvE} {x : D} {r : Ar} (he : e[0]? = some z) (hz : PotOk z) (ha : evD ea e = .ok x e1) (he1 : e1[0]? = some z1) (hz1 : PotOk z1) (hr : run [z1, .d x] = .ok r [z', o]) : evCallG 2 run (agV 0 (agD ea agN)) e = .ok r (e1.set 0 z') := by
  unfold evCallG
  rw [agV_eq he hz]
  unfold agD agN
  rw [ha]
  have hu : resA e1 [.v 0, .d x] = some [z1, .d x] := by
    obtain ⟨a, b, rfl, _⟩ := hz1
    simp [resA, he1]
  simp only [bind_ok]
  unfold callA
  rw [hu, if_pos (vars_2 _)]
  simp [hr, updA]
theorem forL_inv {b : EvS} {et : D → Pd.Env → Option Pd.Env} (P : Nat → Pd.Env → Prop) (B : Nat) : ∀ (items : List D) (n : Nat) (e : Pd.Env), n + items.length ≤ B → P n e → (∀ x ∈ items, ∀ n e, n < B → P n e → ∃ e1 e2, et x e = some e1 ∧ b e1 = .nx e2 ∧ P (n + 1) e2) → ∃ e', forL et b items e = .nx e' ∧ P (n + items.length) e'
  | [], n, e, _, h, _ => ⟨e, rfl, h⟩
  | x :: r, n, e, hn, h, f => by
    simp only [List.length_cons] at hn
    obtain ⟨e1, e2, h1, h2, h3⟩ := f x List.mem_cons_self n e (by omega) h
    obtain ⟨e', g1, g2⟩ := forL_inv P B r (n + 1) e2 (by omega) h3 fun y hy => f y (List.mem_cons_of_mem _ hy)
    refine ⟨e', ?_, ?_⟩
    · unfold forL
      rw [h1]
      simp only []
      rw [h2]
      exact g1
    · rw [List.length_cons, show n + (r.length + 1) = n + 1 + r.length by omega]
      exact g2
theorem drawn_okT {e : List (List Nat)} (d : Drawn e) : ∀ p ∈ e, okT p := fun p hp => by
  have a := ent_prt d.ent p hp
  have b := d.len.2 p hp
  refine ⟨fun c hc => ?_, by omega⟩
  have := List.all_eq_true.mp a c hc
  unfold isPrt at this
  simp at this
  omega
theorem key3_step {F G : FV} {e : List (List Nat)} (h : Key3 F) (d : Drawn e) (hs : step F e = some G) : Key3 G := by
  have hk := d.key
  have upd : ∀ n v, n ∈ K3 → Key3 (put F n v) := fun n v hn => by
    cases hl : look F n with
    | none =>
      have h1 := look_none hl
      rw [put_new h1]
      unfold Key3 keys at *
      rw [List.map_append]
      refine ⟨fun m hm => ?_, ?_⟩
      · rcases List.mem_append.mp hm with hm | hm
        · exact h.1 m hm
        · simp at hm; subst hm; exact hn
      · refine List.nodup_append.mpr ⟨h.2, by simp, fun a ha b hb => ?_⟩
        simp at hb
        subst hb
        exact fun z => h1 (by rw [← z]; exact ha)
    | some u =>
      have := (put_old (v := v) h.2 hl).1
      unfold Key3
      rw [this]
      exact h
  match e, hk, hs with
  | [k, n], hk, hs =>
    have hs : (match look F n with
      | none => none
      | some _ => some (drp F n)) = some G := hs
    cases hl : look F n with
    | none => rw [hl] at hs; cases hs
    | some v =>
      rw [hl] at hs
      cases hs
      unfold Key3 keys drp at *
      have sub : ((F.filter fun q => decide (q.1 ≠ n)).map (·.1)).Sublist (F.map (·.1)) := List.filter_sublist.map _
      exact ⟨fun m hm => h.1 m (sub.subset hm), h.2.sublist sub⟩
  | [k, n, a], hk, hs =>
    have hn : n ∈ K3 := hk
    have hs : (if decide (k = tl "open") then (if (look F n).isSome then none else some (put F n (a, []))) else match look F n with
      | none => none
      | some v => some (put F n (v.1, v.2 ++ [a]))) = some G := hs
    by_cases hk : decide (k = tl "open") = true
    · rw [if_pos hk] at hs
      cases hl : look F n with
      | none => rw [hl] at hs; cases hs; exact upd n _ hn
      | some v => rw [hl] at hs; cases hs
    · rw [if_neg hk] at hs
      cases hl : look F n with
      | none => rw [hl] at hs; cases hs
      | some v => rw [hl] at hs; cases hs; exact upd n _ hn
theorem is_lst (F : FV) (e : List (List Nat)) : cmpD .Is (barV F e).x .none = some (step F e).isSome := by
  unfold barV
  cases step F e <;> rfl
def oddL : List D := [.tuple [.str "close", .str "f"], .tuple [.str "open", .str "f", .str "d"], .tuple [.str "call", .str "g", .str "x"]]
theorem odd_drawn {x : D} (h : x ∈ oddL) : ∃ e, x = tupE e ∧ Drawn e := by
  unfold oddL at h
  simp at h
  have f3 : tl "f" ∈ K3 := by unfold K3; simp
  have g3 : tl "g" ∈ K3 := by unfold K3; simp
  rcases h with rfl | rfl | rfl
  · exact ⟨[tl "close", tl "f"], rfl, drawn_close f3⟩
  · exact ⟨[tl "open", tl "f", tl "d"], rfl, drawn_open f3 (by decide +kernel)⟩
  · exact ⟨[tl "call", tl "g", tl "x"], rfl, drawn_call g3 (by decide +kernel) (by decide +kernel)⟩
/-- what holds ahead of each turn -/
def TapeP (many : Int) (head : List Nat) (n : Nat) (e : Pd.Env) : Prop := ∃ z t z5 F f z7, e = [z, .d (.int many), .d (S head), t, .u, z5, .d (S f), z7] ∧ PotOk z ∧ dctZ z5 F ∧ Key3 F ∧ few F n ∧ isSigns f = true ∧ f.length ≤ 201 * n
def tapeB : EvS := (evSeq (evSet 7 (evCallG 2 run__law_entry (agV 0 (agD (evVar 5) agN)))) (evSeq (evIfS (evIs (evCmp (cmpD .Eq) (evCallG 2 run__law_draw (agV 0 (agD (evC (.int 16)) agN))) (evC (.int 0)))) (evSet 7 (evCallG 2 run__law_pick (agV 0 (agD (evLst (evCons (evTup (evCons (evC (.str "close")) (evCons (evC (.str "f")) evNil))) (evCons (evTup (evCons (evC (.str "open")) (evCons (evC (.str "f")) (evCons (evC (.str "d")) evNil)))) (evCons (evTup (evCons (evC (.str "call")) (evCons (evC (.str "g")) (evCons (evC (.str "x")) evNil)))) evNil)))) agN)))) evNx) (evSeq (evIfS (evIs (evCmp (cmpD .Is) (evCall 2 run__law_bar (evCons (evVar 5) (evCons (evVar 7) evNil))) (evC .none))) (evSet 5 (evCall 2 run__law_behind (evCons (evVar 5) (evCons (evVar 7) evNil)))) evNx) (evSet 6 (evBin (binD .Add) (evVar 6) (evCallG 2 run__law_hurt (agV 0 (agD (evCall 1 run__law_row (evCons (evVar 7) evNil)) agN))))))))
theorem tape_turn {many : Int} {head : List Nat} (x : D) {n : Nat} {e : Pd.Env} (hn : n < 9) (h : TapeP many head n e) : ∃ e1 e2, gN 3 x e = some e1 ∧ tapeB e1 = .nx e2 ∧ TapeP many head (n + 1) e2 := by
  obtain ⟨z, t, z5, F, f, z7, rfl, hz, h5, hk, hf, hs, hl⟩ := h
  refine ⟨[z, .d (.int many), .d (S head), .d x, .u, z5, .d (S f), z7], ?_⟩
  have hv : evD (evVar 5) [z, .d (.int many), .d (S head), .d x, .u, z5, .d (S f), z7] = .ok (.dict (enc F)) [z, .d (.int many), .d (S head), .d x, .u, .d (.dict (enc F)), .d (S f), z7] := by
    rcases h5 with rfl | rfl <;> rfl
  obtain ⟨z1, en, p1, dr, r1⟩ := entry_run hz hk
  have c1 := callG2 (e := [z, .d (.int many), .d (S head), .d x, .u, z5, .d (S f), z7]) rfl hz hv rfl hz r1
  obtain ⟨z2, v, p2, v0, v1, c2⟩ := ev_draw (e := [z1, .d (.int many), .d (S head), .d x, .u, .d (.dict (enc F)), .d (S f), .d (tupE en)]) (ea := evC (.int 16)) rfl p1 rfl rfl p1 (by omega) (by omega)
  have hol : ∀ z2, evD (evLst (evCons (evTup (evCons (evC (.str "close")) (evCons (evC (.str "f")) evNil))) (evCons (evTup (evCons (evC (.str "open")) (evCons (evC (.str "f")) (evCons (evC (.str "d")) evNil)))) (evCons (evTup (evCons (evC (.str "call")) (evCons (evC (.str "g")) (evCons (evC (.str "x")) evNil)))) evNil)))) [z2, .d (.int many), .d (S head), .d x, .u, .d (.dict (enc F)), .d (S f), .d (tupE en)] = .ok (.list oddL) [z2, .d (.int many), .d (S head), .d x, .u, .d (.dict (enc F)), .d (S f), .d (tupE en)] := fun _ => rfl
  -- the entry in the end
  have st2 : ∃ z3 en3, PotOk z3 ∧ Drawn en3 ∧ (evIfS (evIs (evCmp (cmpD .Eq) (evCallG 2 run__law_draw (agV 0 (agD (evC (.int 16)) agN))) (evC (.int 0)))) (evSet 7 (evCallG 2 run__law_pick (agV 0 (agD (evLst (evCons (evTup (evCons (evC (.str "close")) (evCons (evC (.str "f")) evNil))) (evCons (evTup (evCons (evC (.str "open")) (evCons (evC (.str "f")) (evCons (evC (.str "d")) evNil)))) (evCons (evTup (evCons (evC (.str "call")) (evCons (evC (.str "g")) (evCons (evC (.str "x")) evNil)))) evNil)))) agN)))) evNx) [z1, .d (.int many), .d (S head), .d x, .u, .d (.dict (enc F)), .d (S f), .d (tupE en)] = .nx [z3, .d (.int many), .d (S head), .d x, .u, .d (.dict (enc F)), .d (S f), .d (tupE en3)] := by
    have hc : (evIs (evCmp (cmpD .Eq) (evCallG 2 run__law_draw (agV 0 (agD (evC (.int 16)) agN))) (evC (.int 0)))) [z1, .d (.int many), .d (S head), .d x, .u, .d (.dict (enc F)), .d (S f), .d (tupE en)] = .ok (decide (v = 0)) [z2, .d (.int many), .d (S head), .d x, .u, .d (.dict (enc F)), .d (S f), .d (tupE en)] := by
      have := eq_int (i := v) (j := 0)
      simp [c2, this]
    rw [evIfS_eq, hc]
    simp only [go_ok]
    cases decide (v = 0) with
    | false => exact ⟨z2, en, p2, dr, rfl⟩
    | true =>
      obtain ⟨z3, y, p3, hy, c3⟩ := ev_pick (e := [z2, .d (.int many), .d (S head), .d x, .u, .d (.dict (enc F)), .d (S f), .d (tupE en)]) rfl p2 (hol z2) rfl p2 (by unfold oddL; simp) (by unfold oddL; simp)
      obtain ⟨en3, rfl, d3⟩ := odd_drawn hy
      refine ⟨z3, en3, p3, d3, ?_⟩
      rw [evSet_eq, c3]
      rfl
  obtain ⟨z3, en3, p3, d3, c3⟩ := st2
  have ok3 := drawn_okT d3
  have b1 := law_bar_eq F en3 [z3, .d (.int many), .d (S head), .d x, .u, .d (.dict (enc F)), .d (S f), .d (tupE en3)] ok3 d3.ent
  have hc3 : (evIs (evCmp (cmpD .Is) (evCall 2 run__law_bar (evCons (evVar 5) (evCons (evVar 7) evNil))) (evC .none))) [z3, .d (.int many), .d (S head), .d x, .u, .d (.dict (enc F)), .d (S f), .d (tupE en3)] = .ok (step F en3).isSome [z3, .d (.int many), .d (S head), .d x, .u, .d (.dict (enc F)), .d (S f), .d (tupE en3)] := by
    have e0 : (evCall 2 run__law_bar (evCons (evVar 5) (evCons (evVar 7) evNil))) [z3, .d (.int many), .d (S head), .d x, .u, .d (.dict (enc F)), .d (S f), .d (tupE en3)] = .ok (barV F en3) [z3, .d (.int many), .d (S head), .d x, .u, .d (.dict (enc F)), .d (S f), .d (tupE en3)] := b1
    rw [evIs_eq, evCmp_eq, evD_eq, e0]
    simp only [bind_ok, evD_eq, evC_eq, x_d, is_lst, Option.map_some, ofO_ok, boolD_b]
  have st3 : ∃ G, Key3 G ∧ few G (n + 1) ∧ (evIfS (evIs (evCmp (cmpD .Is) (evCall 2 run__law_bar (evCons (evVar 5) (evCons (evVar 7) evNil))) (evC .none))) (evSet 5 (evCall 2 run__law_behind (evCons (evVar 5) (evCons (evVar 7) evNil)))) evNx) [z3, .d (.int many), .d (S head), .d x, .u, .d (.dict (enc F)), .d (S f), .d (tupE en3)] = .nx [z3, .d (.int many), .d (S head), .d x, .u, .d (.dict (enc G)), .d (S f), .d (tupE en3)] := by
    rw [evIfS_eq, hc3]
    simp only [go_ok]
    cases hst : step F en3 with
    | none => exact ⟨F, hk, ⟨Nat.le_succ_of_le hf.1, fun q hq => Nat.le_succ_of_le (hf.2 q hq)⟩, rfl⟩
    | some G =>
      refine ⟨G, key3_step hk d3 hst, few_step hf hst, ?_⟩
      have b2 := law_behind_eq F G en3 [z3, .d (.int many), .d (S head), .d x, .u, .d (.dict (enc F)), .d (S f), .d (tupE en3)] ok3 d3.ent hst hf (by omega)
      have e0 : (evCall 2 run__law_behind (evCons (evVar 5) (evCons (evVar 7) evNil))) [z3, .d (.int many), .d (S head), .d x, .u, .d (.dict (enc F)), .d (S f), .d (tupE en3)] = .ok (.d (.dict (enc G))) [z3, .d (.int many), .d (S head), .d x, .u, .d (.dict (enc F)), .d (S f), .d (tupE en3)] := b2
      simp only [Option.isSome_some]
      rw [evSet_eq, e0]
      rfl
  obtain ⟨G, kG, fG, c4⟩ := st3
  obtain ⟨rt, hr1, hr2, hr3⟩ := law_row_eq d3 [z3, .d (.int many), .d (S head), .d x, .u, .d (.dict (enc G)), .d (S f), .d (tupE en3)]
  have hrow : evD (evCall 1 run__law_row (evCons (evVar 7) evNil)) [z3, .d (.int many), .d (S head), .d x, .u, .d (.dict (enc G)), .d (S f), .d (tupE en3)] = .ok (S rt) [z3, .d (.int many), .d (S head), .d x, .u, .d (.dict (enc G)), .d (S f), .d (tupE en3)] := by
    have e0 : (evCall 1 run__law_row (evCons (evVar 7) evNil)) [z3, .d (.int many), .d (S head), .d x, .u, .d (.dict (enc G)), .d (S f), .d (tupE en3)] = .ok (.d (S rt)) [z3, .d (.int many), .d (S head), .d x, .u, .d (.dict (enc G)), .d (S f), .d (tupE en3)] := hr3
    rw [evD_eq, e0]
    rfl
  obtain ⟨z4, u, p4, hu1, hu2, r4⟩ := hurt_run p3 hr1 hr2
  have c5 := callG2 (e := [z3, .d (.int many), .d (S head), .d x, .u, .d (.dict (enc G)), .d (S f), .d (tupE en3)]) rfl p3 hrow rfl p3 r4
  have b5 := add_txt (a := f) (b := u) (by omega)
  refine ⟨[z4, .d (.int many), .d (S head), .d x, .u, .d (.dict (enc G)), .d (S (f ++ u)), .d (tupE en3)], rfl, ?_, z4, _, _, G, f ++ u, _, rfl, p4, .inr rfl, kG, fG, signs_app hs hu1, by simp; omega⟩
  unfold tapeB
  have c1' : evSet 7 (evCallG 2 run__law_entry (agV 0 (agD (evVar 5) agN))) [z, .d (.int many), .d (S head), .d x, .u, z5, .d (S f), z7] = .nx [z1, .d (.int many), .d (S head), .d x, .u, .d (.dict (enc F)), .d (S f), .d (tupE en)] := by
    rw [evSet_eq, c1]
    rfl
  rw [evSeq_eq, c1']
  simp only []
  rw [evSeq_eq, c3]
  simp only []
  rw [evSeq_eq, c4]
  simp only []
  rw [evSet_eq, evBin_eq, evD_eq]
  simp only [evVar_eq, List.getElem?_cons_succ, List.getElem?_cons_zero, bind_ok, x_d, evD_eq, c5, b5, ofO_ok, go_ok]
  rfl
end K93
set_option Elab.async false
set_option linter.all false
set_option maxRecDepth 100000
set_option maxHeartbeats 2000000
namespace K93
open PySem PySem.Spec PyProof.Rows L2 Pd

theorem tape_loop {many : Int} {head : List Nat} {e : Pd.Env} (items : List D) (hl : items.length ≤ 9) (h : TapeP many head 0 e) : ∃ e', forL (gN 3) tapeB items e = .nx e' ∧ TapeP many head items.length e' := by
  have := forL_inv (b := tapeB) (et := gN 3) (TapeP many head) 9 items 0 e (by omega) h fun x _ n e hn h => tape_turn x hn h
  simpa using this
def padOk (x : D) : Bool := match callD .str [x] with
  | some (.d (.str s)) => match mthD .zfill s [.int 9] with
    | some (.d (.str t)) => isSigns (tl t) && decide ((tl t).length ≤ 10)
    | _ => false
  | _ => false
theorem pad_of {x : D} (h : padOk x = true) : ∃ s l, callD .str [x] = some (.d (.str s)) ∧ mthD .zfill s [.int 9] = some (.d (S l)) ∧ isSigns l = true ∧ l.length ≤ 10 := by
  unfold padOk at h
  split at h
  · rename_i s hs
    split at h
    · rename_i t ht
      rw [Bool.and_eq_true] at h
      exact ⟨s, tl t, hs, ht, h.1, of_decide_eq_true h.2⟩
    · cases h
  · cases h
def plusL : List D := [.str "+", .str "+", .str "+", .str "+", .str "~"]
def intL : List D := [.int 0, .int 1, .int 1, .int 2, .int 10, .int 999999999]
def headE : EvE := (evBin (binD .Add) (evCallG 2 run__law_pick (agV 0 (agD (evLst (evCons (evC (.str "+")) (evCons (evC (.str "+")) (evCons (evC (.str "+")) (evCons (evC (.str "+")) (evCons (evC (.str "~")) evNil)))))) agN))) (evMth .zfill (evCallB .str (evCons (evCallG 2 run__law_pick (agV 0 (agD (evLst (evCons (evC (.int 0)) (evCons (evC (.int 1)) (evCons (evC (.int 1)) (evCons (evC (.int 2)) (evCons (evC (.int 10)) (evCons (evC (.int 999999999)) evNil))))))) agN))) evNil)) (evCons (evC (.int 9)) evNil)))
theorem head_eq {z : Sl} (hz : PotOk z) (r : Pd.Env) : ∃ z' h, PotOk z' ∧ isSigns h = true ∧ h.length ≤ 11 ∧ headE (z :: r) = .ok (.d (S h)) (z' :: r) := by
  have e1 : evD (evLst (evCons (evC (.str "+")) (evCons (evC (.str "+")) (evCons (evC (.str "+")) (evCons (evC (.str "+")) (evCons (evC (.str "~")) evNil)))))) (z :: r) = .ok (.list plusL) (z :: r) := rfl
  obtain ⟨z1, x, p1, hx, c1⟩ := ev_pick (e := z :: r) rfl hz e1 rfl hz (by unfold plusL; simp) (by unfold plusL; simp)
  have hxa : plusL.all (txtOk 1) = true := by decide +kernel
  obtain ⟨c, rfl, hc1, hc2⟩ := txt_of (List.all_eq_true.mp hxa x hx)
  have e2 : evD (evLst (evCons (evC (.int 0)) (evCons (evC (.int 1)) (evCons (evC (.int 1)) (evCons (evC (.int 2)) (evCons (evC (.int 10)) (evCons (evC (.int 999999999)) evNil))))))) (z1 :: r) = .ok (.list intL) (z1 :: r) := rfl
  obtain ⟨z2, y, p2, hy, c2⟩ := ev_pick (e := z1 :: r) rfl p1 e2 rfl p1 (by unfold intL; simp) (by unfold intL; simp)
  have hya : intL.all padOk = true := by decide +kernel
  obtain ⟨s, l, a1, a2, a3, a4⟩ := pad_of (List.all_eq_true.mp hya y hy)
  have b1 := add_txt (a := c) (b := l) (by omega)
  refine ⟨z2, c ++ l, p2, signs_app hc1 a3, by simp; omega, ?_⟩
  simp only [List.set_cons_zero] at c1 c2
  unfold headE
  simp only [evBin_eq, evD_eq, c1, bind_ok, x_d, evMth_eq, evCallB_eq, evCons_eq, evNil_eq, c2, a1, ofO_ok, evC_eq, a2, b1]
/-- head of seven alike and one bent -/
theorem head2_eq {z : Sl} (hz : PotOk z) {h : List Nat} (hs : isSigns h = true) (hl : h.length ≤ 11) (many : Sl) (r : Pd.Env) : ∃ z' g, PotOk z' ∧ isSigns g = true ∧ g.length ≤ 12 ∧ evCallG 2 run__law_pick (agV 0 (agD (evBin (binD .Add) (evBin (binD .Mult) (evLst (evCons (evVar 2) evNil)) (evC (.int 7))) (evLst (evCons (evBin (binD .Add) (evBin (binD .Add) (evSlc (evVar 2) evNoPart (evPart (evC (.int 4)))) (evC (.str "x"))) (evSlc (evVar 2) (evPart (evC (.int 5))) evNoPart)) evNil))) agN)) (z :: many :: .d (S h) :: r) = .ok (.d (S g)) (z' :: many :: .d (S h) :: r) := by
  have s1 := slc_pre (l := h) (j := 4) (b := 4) (by omega) rfl
  have s2 := slc_suf (l := h) (i := 5) (a := 5) (by omega) rfl
  have l1 : (h.take 4).length ≤ 4 := by simp; omega
  have l2 : (h.drop 5).length ≤ 6 := by simp; omega
  have b1 : binD .Add (S (h.take 4)) (.str "x") = some (.d (S (h.take 4 ++ [120]))) := add_txt (a := h.take 4) (b := [120]) (by simp; omega)
  have b2 := add_txt (a := h.take 4 ++ [120]) (b := h.drop 5) (by simp; omega)
  have hall : ∀ y ∈ List.replicate 7 (S h) ++ [S (h.take 4 ++ [120] ++ h.drop 5)], ∃ g, y = S g ∧ isSigns g = true ∧ g.length ≤ 12 := by
    intro y hy
    rcases List.mem_append.mp hy with hy | hy
    · exact ⟨h, (List.mem_replicate.mp hy).2, hs, by omega⟩
    · simp at hy
      exact ⟨h.take 4 ++ [120] ++ h.drop 5, by rw [hy]; simp, signs_app (signs_app (signs_take hs _) (by decide)) (signs_drop hs _), by simp; omega⟩
  have ea : evD (evBin (binD .Add) (evBin (binD .Mult) (evLst (evCons (evVar 2) evNil)) (evC (.int 7))) (evLst (evCons (evBin (binD .Add) (evBin (binD .Add) (evSlc (evVar 2) evNoPart (evPart (evC (.int 4)))) (evC (.str "x"))) (evSlc (evVar 2) (evPart (evC (.int 5))) evNoPart)) evNil))) (z :: many :: .d (S h) :: r) = .ok (.list (List.replicate 7 (S h) ++ [S (h.take 4 ++ [120] ++ h.drop 5)])) (z :: many :: .d (S h) :: r) := by
    generalize h.drop 5 = d1 at *
    generalize h.take 4 = d2 at *
    have k1 : evD (evBin (binD .Mult) (evLst (evCons (evVar 2) evNil)) (evC (.int 7))) (z :: many :: .d (S h) :: r) = .ok (.list (List.replicate 7 (S h))) (z :: many :: .d (S h) :: r) := rfl
    have k2 : evCons (evBin (binD .Add) (evBin (binD .Add) (evSlc (evVar 2) evNoPart (evPart (evC (.int 4)))) (evC (.str "x"))) (evSlc (evVar 2) (evPart (evC (.int 5))) evNoPart)) evNil (z :: many :: .d (S h) :: r) = .ok [S (d2 ++ [120] ++ d1)] (z :: many :: .d (S h) :: r) := by
      simp only [evD_eq, evBin_eq, evCons_eq, evNil_eq, evVar_eq, evSlc_eq, evPart_eq, evNoPart_eq, evC_eq, List.getElem?_cons_succ, List.getElem?_cons_zero, bind_ok, x_d, ofO_ok, s1, s2, b1, b2]
    rw [evD_eq, evBin_eq, k1]
    simp only [bind_ok]
    rw [evD_eq, evLst_eq, k2]
    rfl
  obtain ⟨z', y, p, hy, c⟩ := ev_pick (e := z :: many :: .d (S h) :: r) rfl hz ea rfl hz (by simp) (by simp)
  obtain ⟨g, rfl, h1, h2⟩ := hall y hy
  exact ⟨z', g, p, h1, h2, c⟩
theorem row_c : ∃ t, isSigns t = true ∧ t.length ≤ 200 ∧ ∀ env, evD (evCall 1 run__law_row (evCons (evTup (evCons (evC (.str "close")) (evCons (evC (.str "f")) evNil))) evNil)) env = .ok (S t) env := by
  have d : Drawn [tl "close", tl "f"] := drawn_close (by unfold K3; simp)
  obtain ⟨t, h1, h2, h3⟩ := law_row_eq d []
  refine ⟨t, h1, h2.2, fun env => ?_⟩
  have h4 : runD run__law_row [tupE [tl "close", tl "f"]] env = .ok (.d (S t)) env := by
    unfold runD at h3 ⊢
    cases hr : run__law_row ([tupE [tl "close", tl "f"]].map .d) with
    | ok r' os => rw [hr] at h3; cases h3; rfl
    | ex x os => rw [hr] at h3; cases h3
    | bad => rw [hr] at h3; cases h3
  have e0 : (evCall 1 run__law_row (evCons (evTup (evCons (evC (.str "close")) (evCons (evC (.str "f")) evNil))) evNil)) env = .ok (.d (S t)) env := h4
  rw [evD_eq, e0]
  rfl
theorem row_o : ∃ t, isSigns t = true ∧ t.length ≤ 200 ∧ ∀ env, evD (evCall 1 run__law_row (evCons (evTup (evCons (evC (.str "open")) (evCons (evC (.str "left")) (evCons (evC (.str "d")) evNil)))) evNil)) env = .ok (S t) env := by
  have d : Drawn [tl "open", tl "left", tl "d"] := drawn_open (by unfold K3; simp) (by decide +kernel)
  obtain ⟨t, h1, h2, h3⟩ := law_row_eq d []
  refine ⟨t, h1, h2.2, fun env => ?_⟩
  have h4 : runD run__law_row [tupE [tl "open", tl "left", tl "d"]] env = .ok (.d (S t)) env := by
    unfold runD at h3 ⊢
    cases hr : run__law_row ([tupE [tl "open", tl "left", tl "d"]].map .d) with
    | ok r' os => rw [hr] at h3; cases h3; rfl
    | ex x os => rw [hr] at h3; cases h3
    | bad => rw [hr] at h3; cases h3
  have e0 : (evCall 1 run__law_row (evCons (evTup (evCons (evC (.str "open")) (evCons (evC (.str "left")) (evCons (evC (.str "d")) evNil)))) evNil)) env = .ok (.d (S t)) env := h4
  rw [evD_eq, e0]
  rfl
def behE : EvA := (evCons (evC (.str "~")) (evCons (evC (.str "~")) (evCons (evC (.str "")) (evCons (evC (.str "+")) (evCons (evBin (binD .Add) (evC (.str "~")) (evCall 1 run__law_row (evCons (evTup (evCons (evC (.str "close")) (evCons (evC (.str "f")) evNil))) evNil))) (evCons (evCall 1 run__law_row (evCons (evTup (evCons (evC (.str "open")) (evCons (evC (.str "left")) (evCons (evC (.str "d")) evNil)))) evNil)) (evCons (evC (.str "+0")) evNil)))))))
theorem beh_eq {z : Sl} (hz : PotOk z) (r : Pd.Env) : ∃ z' g, PotOk z' ∧ isSigns g = true ∧ g.length ≤ 201 ∧ evCallG 2 run__law_pick (agV 0 (agD (evLst behE) agN)) (z :: r) = .ok (.d (S g)) (z' :: r) := by
  obtain ⟨t1, h1, l1, r1⟩ := row_c
  obtain ⟨t2, h2, l2, r2⟩ := row_o
  have b1 : binD .Add (.str "~") (S t1) = some (.d (S (126 :: t1))) := add_txt (a := [126]) (by simp; omega)
  have ea : evD (evLst behE) (z :: r) = .ok (.list [.str "~", .str "~", .str "", .str "+", S (126 :: t1), S t2, .str "+0"]) (z :: r) := by
    have c5 : evD (evBin (binD .Add) (evC (.str "~")) (evCall 1 run__law_row (evCons (evTup (evCons (evC (.str "close")) (evCons (evC (.str "f")) evNil))) evNil))) (z :: r) = .ok (S (126 :: t1)) (z :: r) := by
      rw [evD_eq, evBin_eq, show evD (evC (.str "~")) (z :: r) = .ok (.str "~") (z :: r) from rfl]
      simp only [bind_ok]
      rw [r1]
      simp only [bind_ok, x_d, b1, ofO_ok]
    have cc : ∀ (x : D) (er : EvA) (env : Pd.Env), evCons (evC x) er env = (er env).bind fun xs e2 => .ok (x :: xs) e2 := fun _ _ _ => rfl
    have ce : ∀ (a : EvE) (er : EvA) (env : Pd.Env), evCons a er env = (evD a env).bind fun x e1 => (er e1).bind fun xs e2 => .ok (x :: xs) e2 := fun _ _ _ => rfl
    rw [evD_eq, evLst_eq]
    unfold behE
    rw [cc, cc, cc, cc, ce, c5]
    simp only [bind_ok]
    rw [ce, r2]
    simp only [bind_ok]
    rw [cc]
    rfl
  obtain ⟨z', y, p, hy, c⟩ := ev_pick (e := z :: r) rfl hz ea rfl hz (by simp) (by simp)
  refine ⟨z', ?_⟩
  simp at hy
  have fin : ∀ g : List Nat, y = S g → isSigns g = true → g.length ≤ 201 → ∃ g, PotOk z' ∧ isSigns g = true ∧ g.length ≤ 201 ∧ evCallG 2 run__law_pick (agV 0 (agD (evLst behE) agN)) (z :: r) = .ok (.d (S g)) (z' :: r) := fun g e a b => ⟨g, p, a, b, by rw [← e]; exact c⟩
  rcases hy with rfl | rfl | rfl | rfl | rfl | rfl
  · exact fin [126] rfl (by decide) (by decide)
  · exact fin [] rfl (by decide) (by decide)
  · exact fin [43] rfl (by decide) (by decide)
  · exact fin (126 :: t1) rfl (signs_app (a := [126]) (by decide) h1) (by simp; omega)
  · exact fin t2 rfl h2 (by omega)
  · exact fin [43, 48] rfl (by decide) (by decide)
theorem mul_tilde {n : Nat} (h : n ≤ 100000) : binD .Mult (.str "~") (.int (n : Nat)) = some (.d (S (List.replicate n 126))) := by
  show (if Pd.inR 0 1000000 (n : Nat) && sz ((tl "~").length * ((n : Nat) : Int).toNat) then some (Ar.d (.str (mkS (List.replicate ((n : Nat) : Int).toNat (tl "~")).flatten))) else none) = _
  have e : tl "~" = [126] := by decide +kernel
  rw [inR_of (by omega) (by omega), e]
  rw [show sz ([126].length * ((n : Nat) : Int).toNat) = true from sz_le (by simp; omega), if_pos (by rfl)]
  congr 4
  rw [show ((n : Nat) : Int).toNat = n by simp]
  clear h
  induction n with
  | zero => rfl
  | succ n ih => rw [List.replicate_succ, List.replicate_succ, List.flatten_cons, ih]; rfl
theorem signs_rep (n : Nat) : isSigns (List.replicate n 126) = true := by
  unfold isSigns
  rw [List.all_eq_true]
  intro x hx
  rw [(List.mem_replicate.mp hx).2]
  decide
theorem tape_run {z : Sl} (hz : PotOk z) {n : Nat} (h1 : 60 ≤ n) (h2 : n ≤ 2000) : ∃ z' t, PotOk z' ∧ Tape t n ∧ run__law_tape [z, .d (.int (n : Nat))] = .ok (.d (S t)) [z', .u] := by
  obtain ⟨z1, h, p1, hh1, hh2, c1⟩ := head_eq hz [.d (.int (n : Nat)), .u, .u, .u, .u, .u, .u]
  obtain ⟨z2, g, p2, hg1, hg2, c2⟩ := head2_eq p1 hh1 hh2 (.d (.int (n : Nat))) [.u, .u, .u, .u, .u]
  obtain ⟨z3, v, p3, v0, v1, c3⟩ := ev_draw (e := [z2, .d (.int (n : Nat)), .d (S g), .u, .u, .o (.dict []), .d (.str ""), .u]) (ea := evC (.int 9)) rfl p2 rfl rfl p2 (by omega) (by omega)
  obtain ⟨k, rfl⟩ := Int.eq_ofNat_of_zero_le v0
  have hinv : TapeP (n : Nat) g 0 [z3, .d (.int (n : Nat)), .d (S g), .u, .u, .o (.dict []), .d (.str ""), .u] :=
    ⟨z3, .u, .o (.dict []), [], [], .u, rfl, p3, .inl rfl, ⟨by simp [keys], by simp [keys]⟩, ⟨by simp, by simp⟩, by decide, by simp⟩
  obtain ⟨e4, f4, z4, t4, zz5, F, f, zz7, rfl, p4, _, _, _, hs, hl⟩ := tape_loop ((List.range k).map fun (i : Nat) => .int (i : Nat)) (by simp; omega) hinv
  have hl : f.length ≤ 2000 := by simp at hl; omega
  obtain ⟨z5, b, p5, hb1, hb2, c5⟩ := beh_eq p4 [.d (.int (n : Nat)), .d (S g), t4, .u, zz5, .d (S f), zz7]
  have a1 := add_txt (a := g) (b := f) (by omega)
  have a2 := add_txt (a := g ++ f) (b := b) (by simp; omega)
  have a3 := mul_tilde (n := n) (by omega)
  have a4 := add_txt (a := g ++ f ++ b) (b := List.replicate n 126) (by simp; omega)
  have a5 := slc_pre (l := g ++ f ++ b ++ List.replicate n 126) (j := (n : Nat)) (b := n) (by simp; omega) rfl
  refine ⟨z5, (g ++ f ++ b ++ List.replicate n 126).take n, p5, ⟨signs_take (signs_app (signs_app (signs_app hg1 hs) hb1) (signs_rep n)) n, by simp; omega⟩, ?_⟩
  unfold run__law_tape runB code__law_tape
  have e0 : ([z, .d (.int (n : Nat))] : Pd.Env) ++ List.replicate (8 - 2) .u = [z, .d (.int (n : Nat)), .u, .u, .u, .u, .u, .u] := rfl
  have s1 : evSet 2 headE [z, .d (.int (n : Nat)), .u, .u, .u, .u, .u, .u] = .nx [z1, .d (.int (n : Nat)), .d (S h), .u, .u, .u, .u, .u] := by rw [evSet_eq, c1]; rfl
  have s2 : ∀ ee, evCallG 2 run__law_pick ee [z1, .d (.int (n : Nat)), .d (S h), .u, .u, .u, .u, .u] = .ok (.d (S g)) [z2, .d (.int (n : Nat)), .d (S h), .u, .u, .u, .u, .u] → evSet 2 (evCallG 2 run__law_pick ee) [z1, .d (.int (n : Nat)), .d (S h), .u, .u, .u, .u, .u] = .nx [z2, .d (.int (n : Nat)), .d (S g), .u, .u, .u, .u, .u] := fun ee h => by rw [evSet_eq, h]; rfl
  have s3 : evPar [5, 6] (evConsO evDNew (evConsO (evC (.str "")) evNilO)) [z2, .d (.int (n : Nat)), .d (S g), .u, .u, .u, .u, .u] = .nx [z2, .d (.int (n : Nat)), .d (S g), .u, .u, .o (.dict []), .d (.str ""), .u] := rfl
  have s4 : evFor (evRng1 (evCons (evCallG 2 run__law_draw (agV 0 (agD (evC (.int 9)) agN))) evNil)) (gN 3) tapeB [z2, .d (.int (n : Nat)), .d (S g), .u, .u, .o (.dict []), .d (.str ""), .u] = .nx [z4, .d (.int (n : Nat)), .d (S g), t4, .u, zz5, .d (S f), zz7] := by
    have e1 : evRng1 (evCons (evCallG 2 run__law_draw (agV 0 (agD (evC (.int 9)) agN))) evNil) [z2, .d (.int (n : Nat)), .d (S g), .u, .u, .o (.dict []), .d (.str ""), .u] = .ok ((List.range k).map fun (i : Nat) => .int (i : Nat)) [z3, .d (.int (n : Nat)), .d (S g), .u, .u, .o (.dict []), .d (.str ""), .u] := by
      have e2 : evCons (evCallG 2 run__law_draw (agV 0 (agD (evC (.int 9)) agN))) evNil [z2, .d (.int (n : Nat)), .d (S g), .u, .u, .o (.dict []), .d (.str ""), .u] = .ok [.int (k : Nat)] [z3, .d (.int (n : Nat)), .d (S g), .u, .u, .o (.dict []), .d (.str ""), .u] := by
        rw [evCons_eq, evD_eq, c3]
        rfl
      unfold evRng1
      rw [e2]
      have hi : Pd.inR (-1000000) 1000000 (k : Nat) = true := inR_of (by omega) (by omega)
      simp [rngD, hi]
    rw [evFor_eq, e1]
    exact f4
  rw [e0, evSeq_eq]
  rw [show evSet 2 (evBin (binD .Add) (evCallG 2 run__law_pick (agV 0 (agD (evLst (evCons (evC (.str "+")) (evCons (evC (.str "+")) (evCons (evC (.str "+")) (evCons (evC (.str "+")) (evCons (evC (.str "~")) evNil)))))) agN))) (evMth .zfill (evCallB .str (evCons (evCallG 2 run__law_pick (agV 0 (agD (evLst (evCons (evC (.int 0)) (evCons (evC (.int 1)) (evCons (evC (.int 1)) (evCons (evC (.int 2)) (evCons (evC (.int 10)) (evCons (evC (.int 999999999)) evNil))))))) agN))) evNil)) (evCons (evC (.int 9)) evNil))) = evSet 2 headE from rfl, s1]
  simp only []
  rw [evSeq_eq, s2 _ c2]
  simp only []
  rw [evSeq_eq, s3]
  simp only []
  rw [evSeq_eq]
  have s4' := s4
  unfold tapeB at s4'
  rw [s4']
  simp only []
  have s5 : evSet 4 (evCallG 2 run__law_pick (agV 0 (agD (evLst behE) agN))) [z4, .d (.int (n : Nat)), .d (S g), t4, .u, zz5, .d (S f), zz7] = .nx [z5, .d (.int (n : Nat)), .d (S g), t4, .d (S b), zz5, .d (S f), zz7] := by rw [evSet_eq, c5]; rfl
  unfold behE at s5
  rw [evSeq_eq, s5]
  simp only []
  rw [evRet_eq, evSlc_eq]
  simp only [evD_eq, evBin_eq, evVar_eq, evC_eq, List.getElem?_cons_succ, List.getElem?_cons_zero, bind_ok, x_d, a1, a2, a3, a4, ofO_ok, evNoPart_eq, evPart_eq, a5, go_ok]
  rfl
end K93
set_option Elab.async false
set_option linter.all false
set_option maxRecDepth 100000
set_option maxHeartbeats 2000000
namespace K93
open PySem PySem.Spec PyProof.Rows L2 Pd

theorem not_dev_list (ds : List D) (env : Pd.Env) : runD run_is_store [.list ds] env = .ok (.d (.bool false)) env := by
  have e1 : ∀ env, runD run_is_tuple [.list ds, .int 2] env = .ok (.d (.bool false)) env := fun env => by
    unfold run_is_tuple code_is_tuple
    rw [runD_eq]
    simp [isiD]
  have e2 : ∀ env, runD run_is_device_any [.list ds] env = .ok (.d (.bool false)) env := fun env => by
    unfold run_is_device_any code_is_device_any
    rw [runD_eq]
    simp [e1]
  unfold run_is_store code_is_store
  rw [runD_eq]
  simp [e2]
theorem not_dev_one (d : D) (env : Pd.Env) : runD run_is_store [.tuple [d]] env = .ok (.d (.bool false)) env := by
  have e1 : ∀ env, runD run_is_tuple [.tuple [d], .int 2] env = .ok (.d (.bool false)) env := fun env => by
    rw [is_tuple_eq]
    rfl
  have e2 : ∀ env, runD run_is_device_any [.tuple [d]] env = .ok (.d (.bool false)) env := fun env => by
    unfold run_is_device_any code_is_device_any
    rw [runD_eq]
    simp [e1]
  unfold run_is_store code_is_store
  rw [runD_eq]
  simp [e2]
def RightP (n : Nat) (e : Pd.Env) : Prop := ∃ z a b c, e = [z, a, b, .u, c] ∧ PotOk z
def rightB : EvS := (evSeq (evSet 2 (evBin (binD .Add) (evC (.int 60)) (evCallG 2 run__law_draw (agV 0 (agD (evC (.int 200)) agN))))) (evSeq (evSet 4 (evTup (evCons (evCallG 2 run__law_tape (agV 0 (agD (evVar 2) agN))) (evCons (evCallG 2 run__law_tape (agV 0 (agD (evVar 2) agN))) evNil)))) (evIfS (evOr (evNot (evTru (evCall 1 run__law_device_right (evCons (evVar 4) evNil)))) (evOr (evNot (evTru (evCall 1 run__law_device_right (evCons (evTurn (evVar 4) (evNeg (evC (.int 1)))) evNil)))) (evOr (evTru (evCall 1 run_is_store (evCons (evCallB .list (evCons (evVar 4) evNil)) evNil))) (evTru (evCall 1 run_is_store (evCons (evSlc (evVar 4) evNoPart (evPart (evC (.int 1)))) evNil)))))) (evRet (evC (.bool false))) evNx)))
theorem right_turn (x : D) {n : Nat} {e : Pd.Env} (h : RightP n e) : ∃ e1 e2, gN 1 x e = some e1 ∧ rightB e1 = .nx e2 ∧ RightP (n + 1) e2 := by
  obtain ⟨z, a, b, c, rfl, hz⟩ := h
  refine ⟨[z, .d x, b, .u, c], ?_⟩
  obtain ⟨z1, v, p1, v0, v1, c1⟩ := ev_draw (e := [z, .d x, b, .u, c]) (ea := evC (.int 200)) rfl hz rfl rfl hz (by omega) (by omega)
  obtain ⟨k, rfl⟩ := Int.eq_ofNat_of_zero_le v0
  have hm : (60 : Int) + ((k : Nat) : Int) = ((60 + k : Nat) : Int) := by omega
  obtain ⟨z2, t, p2, ht, r2⟩ := tape_run p1 (n := 60 + k) (by omega) (by omega)
  obtain ⟨z3, u, p3, hu, r3⟩ := tape_run p2 (n := 60 + k) (by omega) (by omega)
  have c2 := callG2 (e := [z1, .d x, .d (.int ((60 + k : Nat) : Int)), .u, c]) (ea := evVar 2) rfl p1 rfl rfl p1 r2
  have c3 := callG2 (e := [z2, .d x, .d (.int ((60 + k : Nat) : Int)), .u, c]) (ea := evVar 2) rfl p2 rfl rfl p2 r3
  have d1 := device_right_eq ht hu (by omega) (by omega) [z3, .d x, .d (.int ((60 + k : Nat) : Int)), .u, .d (.tuple [S t, S u])]
  have d2 := device_right_eq hu ht (by omega) (by omega) [z3, .d x, .d (.int ((60 + k : Nat) : Int)), .u, .d (.tuple [S t, S u])]
  have d3 := not_dev_list [S t, S u] [z3, .d x, .d (.int ((60 + k : Nat) : Int)), .u, .d (.tuple [S t, S u])]
  have d4 := not_dev_one (S t) [z3, .d x, .d (.int ((60 + k : Nat) : Int)), .u, .d (.tuple [S t, S u])]
  refine ⟨[z3, .d x, .d (.int ((60 + k : Nat) : Int)), .u, .d (.tuple [S t, S u])], rfl, ?_, z3, _, _, _, rfl, p3⟩
  have s1 : evSet 2 (evBin (binD .Add) (evC (.int 60)) (evCallG 2 run__law_draw (agV 0 (agD (evC (.int 200)) agN)))) [z, .d x, b, .u, c] = .nx [z1, .d x, .d (.int ((60 + k : Nat) : Int)), .u, c] := by
    rw [evSet_eq, evBin_eq]
    simp only [evD_eq, evC_eq, bind_ok, x_d, c1, Pd.add_int, ofO_ok, go_ok, hm]
    rfl
  have s2 : evSet 4 (evTup (evCons (evCallG 2 run__law_tape (agV 0 (agD (evVar 2) agN))) (evCons (evCallG 2 run__law_tape (agV 0 (agD (evVar 2) agN))) evNil))) [z1, .d x, .d (.int ((60 + k : Nat) : Int)), .u, c] = .nx [z3, .d x, .d (.int ((60 + k : Nat) : Int)), .u, .d (.tuple [S t, S u])] := by
    simp only [List.set_cons_zero] at c2 c3
    rw [evSet_eq, evTup_eq, evCons_eq]
    simp only [evD_eq, c2, bind_ok, x_d, evCons_eq, c3, evNil_eq]
    rfl
  unfold rightB
  rw [evSeq_eq, s1]
  simp only []
  rw [evSeq_eq, s2]
  simp only []
  generalize hE : [z3, .d x, .d (.int ((60 + k : Nat) : Int)), .u, .d (.tuple [S t, S u])] = E at *
  have g4 : E[4]? = some (.d (.tuple [S t, S u])) := by rw [← hE]; rfl
  have t1 : evTurn (evVar 4) (evNeg (evC (.int 1))) E = .ok (.d (.tuple [S u, S t])) E := by
    unfold evTurn
    simp [g4]
  have l1 : callD .list [.tuple [S t, S u]] = some (.o (.list [S t, S u])) := rfl
  have sl : slcD (.tuple [S t, S u]) none (some 1) = some (.d (.tuple [S t])) := rfl
  have cl : ∀ er env, evCallB .list er env = (er env).bind fun xs e => ofO (callD .list xs) e := fun _ _ => rfl
  simp [-evCallB_eq, cl, g4, d1, d2, d3, d4, t1, l1, sl]
/-! ### a new store -/
def newT (n : Nat) : List Nat := 43 :: (List.replicate 9 48 ++ List.replicate (n - 10) 126)
theorem new_tape {n : Nat} (h : 60 ≤ n) : Tape (newT n) n := ⟨by
    unfold newT
    exact signs_app (a := 43 :: List.replicate 9 48) (by decide) (signs_rep _), by unfold newT; simp; omega⟩
theorem til_tape (n : Nat) : Tape (List.replicate n 126) n := ⟨signs_rep n, by simp⟩
theorem new_row {n : Nat} (h : 60 ≤ n) : rowAt (newT n) 10 = none := by
  have e : ((newT n).drop 10).take 1 = [126] := by
    have : newT n = 43 :: (List.replicate 9 48 ++ 126 :: List.replicate (n - 11) 126) := by
      unfold newT
      rw [show n - 10 = (n - 11) + 1 by omega, show List.replicate (n - 11 + 1) 126 = 126 :: List.replicate (n - 11) 126 from List.replicate_succ]
    rw [this]
    rfl
  unfold rowAt headOk
  rw [e]
  rfl
theorem new_turn (n : Nat) : turnT (newT n) = List.replicate 9 48 := by
  unfold turnT newT
  rw [List.drop_succ_cons, List.drop_zero, List.take_append_of_le_length (by simp)]
  rfl
theorem new_log {n : Nat} (h : 60 ≤ n) : logF (newT n) = some [] := by
  have h1 : headL (newT n) = true := by
    unfold headL
    rw [new_turn]
    rfl
  unfold logF
  rw [h1, if_pos rfl]
  unfold rowsOf
  rw [walk_none (new_row h)]
  rfl
theorem new_sel {n : Nat} (h : 60 ≤ n) : sel (newT n) (List.replicate n 126) = some (0, newT n, []) := by
  have h2 : logF (List.replicate n 126) = none := by
    unfold logF headL
    have : (List.replicate n 126).take 1 = [126] := by
      rw [show n = (n - 1) + 1 by omega, List.replicate_succ]
      rfl
    rw [this]
    rfl
  unfold sel
  rw [new_log h, h2]
theorem mul_zero : binD .Mult (.str "0") (.int 9) = some (.d (S (List.replicate 9 48))) := by rfl
theorem new_store_eq {n : Nat} (h1 : 60 ≤ n) (h2 : n ≤ 2000) (env : Pd.Env) : runD run_new_store [.int (n : Nat)] env = .ok (.d (.tuple [S (newT n), S (List.replicate n 126)])) env := by
  have w : ∀ env, runD run_is_within [.int (n : Nat), .int 60, .int 2000] env = .ok (.d (.bool true)) env := fun env => by
    have i : ∀ env, runD run_is_integer [.int (n : Nat)] env = .ok (.d (.bool true)) env := fun env => by
      unfold run_is_integer code_is_integer
      rw [runD_eq]
      simp [isiD]
    unfold run_is_within code_is_within
    rw [runD_eq]
    have c1 : (decide ((60 : Int) ≤ (n : Nat)) : Bool) = true := decide_eq_true (by omega)
    have c2 : (decide ((n : Int) ≤ 2000) : Bool) = true := decide_eq_true (by omega)
    simp [i, c1, c2]
  have m1 := mul_tilde (n := n) (by omega)
  have m2 := mul_tilde (n := n - 10) (by omega)
  have hs : ((n : Nat) : Int) - 10 = ((n - 10 : Nat) : Int) := by omega
  have a1 : binD .Add (.str "+") (S (List.replicate 9 48)) = some (.d (S (43 :: List.replicate 9 48))) := add_txt (a := [43]) (by decide)
  have a2 := add_txt (a := 43 :: List.replicate 9 48) (b := List.replicate (n - 10) 126) (by simp; omega)
  unfold run_new_store code_new_store
  rw [runD_eq]
  have hn : newT n = (43 :: List.replicate 9 48) ++ List.replicate (n - 10) 126 := rfl
  have h9 : (10 : Int) - 1 = 9 := rfl
  simp only [evSeq_eq, evIfS_eq, evNot_eq, evTru_eq, evD_eq, evCall_eq, evCons_eq, evNil_eq, evVar_eq, evC_eq, evRet_eq, evTup_eq, evBin_eq, evNx_eq, List.map_cons, List.map_nil, List.cons_append, List.nil_append, List.replicate_zero, List.append_nil, Nat.sub_self, List.getElem?_cons_zero, bind_ok, x_d, w, truD_b, ofO_ok, go_ok, Bool.not_true, Pd.sub_int, hs, h9, mul_zero, a1, a2, m1, m2, List.length_cons, List.length_nil, if_true, Nat.zero_add, Nat.reduceAdd]
  rw [hn]
  rfl
end K93
set_option Elab.async false
set_option linter.all false
set_option maxRecDepth 100000
set_option maxHeartbeats 2000000
namespace K93
open PySem PySem.Spec PyProof.Rows L2 Pd

theorem ne_same {x : D} (h : SeqAt.shaped x = true) : cmpD .NotEq x x = some false := by
  show (if SeqAt.shaped x && SeqAt.shaped x then some (!PyData.eqv x x) else none) = _
  rw [h, if_pos (by rfl), SeqAt.eqv_refl x (SeqAt.canLay_of_shaped h)]
  rfl
theorem eq_same {x : D} (h : SeqAt.shaped x = true) : cmpD .Eq x x = some true := by
  show (if SeqAt.shaped x && SeqAt.shaped x then some (PyData.eqv x x) else none) = _
  rw [h, if_pos (by rfl), SeqAt.eqv_refl x (SeqAt.canLay_of_shaped h)]
theorem shaped_two {a b : List Nat} (ha : okT a) (hb : okT b) : SeqAt.shaped (.tuple [S a, S b]) = true := by
  have h1 := SeqAt.canLay_of_shaped (shaped_S ha)
  have h2 := SeqAt.canLay_of_shaped (shaped_S hb)
  have h3 : (PyData.tuple [S a, S b]).canLay0 = true := by
    show ((S a).canLay0 && ((S b).canLay0 && true)) = true
    rw [h1, h2]
    rfl
  unfold SeqAt.shaped
  rw [h3]
  rfl
def storeD (n : Nat) : D := .tuple [S (newT n), S (List.replicate n 126)]
theorem right_end {n : Nat} (h1 : 60 ≤ n) (h2 : n ≤ 2000) (z a c : Sl) : (evSeq (evSet 3 (evCall 1 run_new_store (evCons (evVar 2) evNil))) (evSeq (evIfS (evOr (evIs (evCmp (cmpD .NotEq) (evVar 3) (evTup (evCons (evBin (binD .Add) (evC (.str "+000000000")) (evBin (binD .Mult) (evC (.str "~")) (evBin (binD .Sub) (evVar 2) (evC (.int 10))))) (evCons (evBin (binD .Mult) (evC (.str "~")) (evVar 2)) evNil))))) (evIs (evCmp (cmpD .NotEq) (evCallK 1 run_new_store 1 [0] (evCons (evVar 2) evNil)) (evVar 3)))) (evRet (evC (.bool false))) evNx) (evRet (evCmp (cmpD .Eq) (evLst (evCons (evCall 1 run_turn_of (evCons (evVar 3) evNil)) (evCons (evCall 1 run_kept (evCons (evVar 3) evNil)) (evCons (evCall 1 run_entries_in (evCons (evVar 3) evNil)) (evCons (evCall 1 run_room (evCons (evVar 3) evNil)) evNil))))) (evLst (evCons (evC (.int 0)) (evCons (evLst evNil) (evCons (evLst evNil) (evCons (evBin (binD .Sub) (evVar 2) (evC (.int 10))) evNil))))))))) [z, a, .d (.int (n : Nat)), .u, c] = .rt (.d (.bool true)) [z, a, .d (.int (n : Nat)), .d (storeD n), c] := by
  have ta := new_tape h1
  have tb := til_tape n
  have sn := new_store_eq h1 h2
  have s1 := new_sel h1
  have k1 := turn_of_eq ta tb h1 h2 [z, a, .d (.int (n : Nat)), .d (storeD n), c] s1
  have k2 := kept_eq ta tb h1 h2 [z, a, .d (.int (n : Nat)), .d (storeD n), c] s1
  have k3 := entries_in_eq ta tb h1 h2 [z, a, .d (.int (n : Nat)), .d (storeD n), c] s1
  have k4 := room_eq ta tb h1 h2 [z, a, .d (.int (n : Nat)), .d (storeD n), c] s1
  have v1 : turnN (newT n) = 0 := by
    unfold turnN
    rw [new_turn]
    rfl
  have v2 : listV [] = [] := by
    unfold listV sortD
    simp
  have v3 : rowsOf (newT n) = [] := by
    unfold rowsOf
    rw [walk_none (new_row h1)]
  have v4 : endOf (newT n) = 10 := by
    unfold endOf
    rw [walk_none (new_row h1)]
  simp only [v1, v2, v3, v4, List.map_nil] at k1 k2 k3 k4
  have m1 := mul_tilde (n := n) (by omega)
  have m2 := mul_tilde (n := n - 10) (by omega)
  have hs : ((n : Nat) : Int) - 10 = ((n - 10 : Nat) : Int) := by omega
  have a2 : binD .Add (.str "+000000000") (S (List.replicate (n - 10) 126)) = some (.d (S (newT n))) := by
    have := add_txt (a := 43 :: List.replicate 9 48) (b := List.replicate (n - 10) 126) (by simp; omega)
    exact this
  have q1 := ne_same (shaped_two (ta.ok h2) (tb.ok h2))
  have hsh : SeqAt.shaped (.list [.int 0, .list [], .list [], .int ((n - 10 : Nat) : Int)]) = true := rfl
  have q2 := eq_same hsh
  have e1 : (evSet 3 (evCall 1 run_new_store (evCons (evVar 2) evNil))) [z, a, .d (.int (n : Nat)), .u, c] = .nx [z, a, .d (.int (n : Nat)), .d (storeD n), c] := by
    have : (evCall 1 run_new_store (evCons (evVar 2) evNil)) [z, a, .d (.int (n : Nat)), .u, c] = .ok (.d (storeD n)) [z, a, .d (.int (n : Nat)), .u, c] := sn _
    rw [evSet_eq, this]
    rfl
  have sn := sn [z, a, .d (.int (n : Nat)), .d (storeD n), c]
  rw [evSeq_eq, e1]
  simp only []
  generalize hE : [z, a, .d (.int (n : Nat)), .d (storeD n), c] = E at *
  have g2 : E[2]? = some (.d (.int (n : Nat))) := by rw [← hE]; rfl
  have g3 : E[3]? = some (.d (storeD n)) := by rw [← hE]; rfl
  have t1 : evTup (evCons (evBin (binD .Add) (evC (.str "+000000000")) (evBin (binD .Mult) (evC (.str "~")) (evBin (binD .Sub) (evVar 2) (evC (.int 10))))) (evCons (evBin (binD .Mult) (evC (.str "~")) (evVar 2)) evNil)) E = .ok (.d (storeD n)) E := by
    simp only [evTup_eq, evCons_eq, evNil_eq, evD_eq, evBin_eq, evC_eq, evVar_eq, g2, bind_ok, x_d, Pd.sub_int, ofO_ok, hs, m1, m2, a2]
    rfl
  have q1 : cmpD .NotEq (storeD n) (storeD n) = some false := q1
  have sn : runD run_new_store [.int (n : Nat)] E = .ok (.d (storeD n)) E := sn
  have k1 : runD run_turn_of [storeD n] E = .ok (.d (.int 0)) E := k1
  have k2 : runD run_kept [storeD n] E = .ok (.o (.list [])) E := k2
  have k3 : runD run_entries_in [storeD n] E = .ok (.d (.list [])) E := k3
  have k4 : runD run_room [storeD n] E = .ok (.d (.int ((n : Int) - (10 : Nat)))) E := k4
  have hs' : ((n : Nat) : Int) - (10 : Nat) = ((n - 10 : Nat) : Int) := by omega
  rw [hs'] at k4
  have c1 : (evOr (evIs (evCmp (cmpD .NotEq) (evVar 3) (evTup (evCons (evBin (binD .Add) (evC (.str "+000000000")) (evBin (binD .Mult) (evC (.str "~")) (evBin (binD .Sub) (evVar 2) (evC (.int 10))))) (evCons (evBin (binD .Mult) (evC (.str "~")) (evVar 2)) evNil))))) (evIs (evCmp (cmpD .NotEq) (evCallK 1 run_new_store 1 [0] (evCons (evVar 2) evNil)) (evVar 3)))) E = .ok false E := by
    rw [evOr_eq, evIs_eq, evCmp_eq]
    simp only [evD_eq, evVar_eq, g3, bind_ok, x_d, t1, q1, Option.map_some, ofO_ok, boolD_b]
    simp [g2, g3, sn, q1]
  rw [evSeq_eq, evIfS_eq, c1]
  simp only [go_ok, evNx_eq]
  have l0 : sz ([.int 0, .list [], .list [], .int ((n - 10 : Nat) : Int)] : List D).length = true := rfl
  have l1 : evLst (evCons (evCall 1 run_turn_of (evCons (evVar 3) evNil)) (evCons (evCall 1 run_kept (evCons (evVar 3) evNil)) (evCons (evCall 1 run_entries_in (evCons (evVar 3) evNil)) (evCons (evCall 1 run_room (evCons (evVar 3) evNil)) evNil)))) E = .ok (.o (.list [.int 0, .list [], .list [], .int ((n - 10 : Nat) : Int)])) E := by
    simp [g3, k1, k2, k3, k4, sz]
  have l2 : evLst (evCons (evC (.int 0)) (evCons (evLst evNil) (evCons (evLst evNil) (evCons (evBin (binD .Sub) (evVar 2) (evC (.int 10))) evNil)))) E = .ok (.o (.list [.int 0, .list [], .list [], .int ((n - 10 : Nat) : Int)])) E := by
    simp [g2, hs, sz]
  rw [evRet_eq, evCmp_eq, evD_eq, l1]
  simp only [bind_ok, x_o]
  rw [evD_eq, l2]
  simp only [bind_ok, x_o, q2, Option.map_some, ofO_ok, go_ok]
end K93
set_option Elab.async false
set_option linter.all false
set_option maxRecDepth 100000
set_option maxHeartbeats 2000000
namespace K93
open PySem PySem.Spec PyProof.Rows L2 Pd

theorem right_run {z : Sl} (hz : PotOk z) : ∃ z', run__law_right [z] = .ok (.d (.bool true)) [z'] := by
  have h0 : RightP 0 [z, .u, .u, .u, .u] := ⟨z, _, _, _, rfl, hz⟩
  obtain ⟨e', f1, z1, a, b, c, rfl, p1⟩ := forL_inv (b := rightB) (et := gN 1) RightP 8 (rngD 0 8) 0 [z, .u, .u, .u, .u] (by decide) h0 fun x _ n e _ h => right_turn x h
  obtain ⟨z2, v, p2, v0, v1, c2⟩ := ev_draw (e := [z1, a, b, .u, c]) (ea := evC (.int 1941)) rfl p1 rfl rfl p1 (by omega) (by omega)
  obtain ⟨k, rfl⟩ := Int.eq_ofNat_of_zero_le v0
  have hm : (60 : Int) + ((k : Nat) : Int) = ((60 + k : Nat) : Int) := by omega
  have s2 : evSet 2 (evBin (binD .Add) (evC (.int 60)) (evCallG 2 run__law_draw (agV 0 (agD (evC (.int 1941)) agN)))) [z1, a, b, .u, c] = .nx [z2, a, .d (.int ((60 + k : Nat) : Int)), .u, c] := by
    rw [evSet_eq, evBin_eq]
    simp only [evD_eq, evC_eq, bind_ok, x_d, c2, Pd.add_int, ofO_ok, go_ok, hm]
    rfl
  have s3 := right_end (n := 60 + k) (by omega) (by omega) z2 a c
  have s1 : evFor (evRng1 (evCons (evC (.int 8)) evNil)) (gN 1) rightB [z, .u, .u, .u, .u] = .nx [z1, a, b, .u, c] := by
    have e1 : evRng1 (evCons (evC (.int 8)) evNil) [z, .u, .u, .u, .u] = .ok (rngD 0 8) [z, .u, .u, .u, .u] := rfl
    rw [evFor_eq, e1]
    exact f1
  refine ⟨z2, ?_⟩
  unfold run__law_right runB code__law_right
  unfold rightB at s1
  have e0 : ([z] : Pd.Env) ++ List.replicate (5 - 1) .u = [z, .u, .u, .u, .u] := rfl
  rw [e0, evSeq_eq, s1]
  simp only []
  rw [evSeq_eq, s2]
  simp only []
  rw [s3]
  rfl
/-! ### the pots -/
theorem pot_run (ns : List Int) (hn : ns.length ≤ 63) (k : Nat) (hk : k ≤ 1) : ∃ a b : Int, 0 ≤ a ∧ 0 ≤ b ∧ b < 2147483587 ∧ run__law_pot [.s ns, .d (.int (k : Nat))] = .ok (.o (.list [.int a, .int b])) [.s ns, .u] := by
  have cell : ∃ c : Int, 0 ≤ c ∧ evIf (evIs (evCmp (cmpD .Lt) (evVar 1) (evScrLen 0))) (evCallB .abs (evCons (evScrIdx 0 (evVar 1)) evNil)) (evBin (binD .Add) (evBin (binD .Add) (evBin (binD .Mult) (evC (.int 6101)) (evVar 1)) (evC (.int 1087))) (evCallB .int (evCons (evBin (binD .Mod) (evCallB .sum (evCons (evComp (evItScr 0) (gN 3) (fun env => .ok true env) (evCallB .abs (evCons (evVar 3) evNil)) [3]) evNil)) (evC (.int 1000003))) evNil))) [.s ns, .d (.int (k : Nat)), .u, .u] = .ok (.d (.int c)) [.s ns, .d (.int (k : Nat)), .u, .u] := by
    have sl : evScrLen 0 [.s ns, .d (.int (k : Nat)), .u, .u] = .ok (.d (.int (ns.length : Nat))) [.s ns, .d (.int (k : Nat)), .u, .u] := rfl
    have hc : evIs (evCmp (cmpD .Lt) (evVar 1) (evScrLen 0)) [.s ns, .d (.int (k : Nat)), .u, .u] = .ok (decide (k < ns.length)) [.s ns, .d (.int (k : Nat)), .u, .u] := by
      have : (decide ((k : Int) < (ns.length : Int)) : Bool) = decide (k < ns.length) := decide_eq_decide.mpr (by omega)
      simp [sl, this]
    by_cases h : k < ns.length
    · refine ⟨if ns[k] < 0 then -ns[k] else ns[k], by split <;> omega, ?_⟩
      have si : evScrIdx 0 (evVar 1) [.s ns, .d (.int (k : Nat)), .u, .u] = .ok (.d (.int ns[k])) [.s ns, .d (.int (k : Nat)), .u, .u] := by
        have hs : scrOf [.s ns, .d (.int (k : Nat)), .u, .u] 0 = some ns := rfl
        have hv : evD (evVar 1) [.s ns, .d (.int (k : Nat)), .u, .u] = .ok (.int (k : Nat)) [.s ns, .d (.int (k : Nat)), .u, .u] := rfl
        unfold evScrIdx
        rw [hs]
        simp only [hv, bind_ok, Pd.atI_nat, List.getElem?_eq_getElem h, Option.map_some, ofO_ok]
      rw [evIf_eq, hc, decide_eq_true h]
      simp only [bind_ok, evCallB_eq, evCons_eq, evNil_eq, evD_eq, si, x_d]
      rfl
    · let f : D → D := fun x => match x with
        | .int i => .int (if i < 0 then -i else i)
        | _ => .none
      have hcl : compL (gN 3) (fun env => .ok true env) (evCallB .abs (evCons (evVar 3) evNil)) [3] (ns.map .int) [.s ns, .d (.int (k : Nat)), .u, .u] = some ((ns.map .int).map f, [.s ns, .d (.int (k : Nat)), .u, .u]) := by
        refine compL_map f _ fun x hx => ?_
        obtain ⟨i, _, rfl⟩ := List.mem_map.mp hx
        exact ⟨[.s ns, .d (.int (k : Nat)), .u, .d (.int i)], _, [.s ns, .d (.int (k : Nat)), .u, .d (.int i)], rfl, rfl, rfl, rfl⟩
      have hmap : (ns.map .int).map f = (ns.map fun i => if i < 0 then -i else i).map .int := by
        rw [List.map_map, List.map_map]
        rfl
      have hz : sz (ns.map (.int : Int → D)).length = true := sz_le (by simp; omega)
      have hcp : evComp (evItScr 0) (gN 3) (fun env => .ok true env) (evCallB .abs (evCons (evVar 3) evNil)) [3] [.s ns, .d (.int (k : Nat)), .u, .u] = .ok (.o (.list ((ns.map fun i => if i < 0 then -i else i).map .int))) [.s ns, .d (.int (k : Nat)), .u, .u] := by
        have hi : evItScr 0 [.s ns, .d (.int (k : Nat)), .u, .u] = .ok (ns.map .int) [.s ns, .d (.int (k : Nat)), .u, .u] := rfl
        have hno : noOwn [.s ns, .d (.int (k : Nat)), .u, .u] [3] = true := rfl
        have hw : wipeE [.s ns, .d (.int (k : Nat)), .u, .u] [3] = [.s ns, .d (.int (k : Nat)), .u, .u] := rfl
        rw [evComp_eq, hi]
        simp only [bind_ok, hno, hz, hw, hcl, hmap, Bool.and_self, if_true]
        rfl
      have hai : ∀ l : List Int, asInts (l.map .int) = some l := fun l => by
        induction l with
        | nil => rfl
        | cons x l ih =>
          show (asInts (l.map .int)).map (x :: ·) = _
          rw [ih]
          rfl
      have hsum : callD .sum [.list ((ns.map fun i => if i < 0 then -i else i).map .int)] = some (.d (.int (ns.map fun i => if i < 0 then -i else i).sum)) := by
        show (asInts _).map _ = _
        rw [hai]
        rfl
      generalize hS : (ns.map fun i => if i < 0 then -i else i).sum = T at hsum
      have cs : ∀ er env, evCallB .sum er env = (er env).bind fun xs e => ofO (callD .sum xs) e := fun _ _ => rfl
      have ci : ∀ er env, evCallB .int er env = (er env).bind fun xs e => ofO (callD .int xs) e := fun _ _ => rfl
      have m1 := mul_int (i := 6101) (j := (k : Nat)) (.inl (by decide))
      have m2 := mod_int (i := T) (j := 1000003) (by omega)
      refine ⟨6101 * (k : Int) + 1087 + T % 1000003, by have := Int.emod_nonneg T (show (1000003 : Int) ≠ 0 by decide); omega, ?_⟩
      rw [evIf_eq, hc, decide_eq_false h]
      simp only [bind_ok]
      simp only [evBin_eq, evD_eq, evC_eq, bind_ok, x_d, evVar_eq, List.getElem?_cons_succ, List.getElem?_cons_zero, m1, ofO_ok, Pd.add_int, ci, cs, evCons_eq, evNil_eq, hcp, x_o, hsum, m2, int_int]
  obtain ⟨c, c0, hc⟩ := cell
  have hp : binD .Pow (.int 10) (.int 18) = some (.d (.int 1000000000000000000)) := rfl
  have hm0 : 0 ≤ c % 2147483549 := Int.emod_nonneg _ (by decide)
  have hm1 : c % 2147483549 < 2147483549 := Int.emod_lt_of_pos _ (by decide)
  have m1 := mod_int (i := c) (j := 2147483549) (by omega)
  have m2 := mul_int (i := c % 2147483549) (j := 42179) (.inr (by decide))
  have m3 := mul_int (i := 11071) (j := (k : Nat)) (.inl (by decide))
  have m4 := mod_int (i := c % 2147483549 * 42179 + 11071 * (k : Nat) + 67) (j := 2147483563) (by omega)
  have b0 : 0 ≤ (c % 2147483549 * 42179 + 11071 * (k : Nat) + 67) % 2147483563 := Int.emod_nonneg _ (by decide)
  have b1 : (c % 2147483549 * 42179 + 11071 * (k : Nat) + 67) % 2147483563 < 2147483563 := Int.emod_lt_of_pos _ (by decide)
  have hmax : callD .max2 [.int 0, .int (c - 1000000000000000000)] = some (.d (.int (if c - 1000000000000000000 > 0 then c - 1000000000000000000 else 0))) := rfl
  refine ⟨if c - 1000000000000000000 > 0 then c - 1000000000000000000 else 0, (c % 2147483549 * 42179 + 11071 * (k : Nat) + 67) % 2147483563 + 1, by split <;> omega, by omega, by omega, ?_⟩
  generalize (if c - 1000000000000000000 > 0 then c - 1000000000000000000 else 0) = A at *
  generalize (c % 2147483549 * 42179 + 11071 * (k : Nat) + 67) % 2147483563 = B at *
  unfold run__law_pot runB code__law_pot
  have e0 : ([.s ns, .d (.int (k : Nat))] : Pd.Env) ++ List.replicate (4 - 2) .u = [.s ns, .d (.int (k : Nat)), .u, .u] := rfl
  rw [e0, evSeq_eq, evSet_eq, hc]
  have h4 : (2 : Nat) < ([.s ns, .d (.int (k : Nat)), .u, .u] : Pd.Env).length := by show 2 < 4; decide
  simp only [go_ok]
  rw [if_pos h4]
  simp only [slA_d, List.set_cons_succ, List.set_cons_zero]
  have ci : ∀ er env, evCallB .int er env = (er env).bind fun xs e => ofO (callD .int xs) e := fun _ _ => rfl
  have cm : ∀ er env, evCallB .max2 er env = (er env).bind fun xs e => ofO (callD .max2 xs) e := fun _ _ => rfl
  have l2 : sz ([.int A, .int (B + 1)] : List D).length = true := rfl
  simp only [evRet_eq, evLst_eq, evCons_eq, evNil_eq, evBin_eq, evD_eq, evC_eq, bind_ok, x_d, evVar_eq, List.getElem?_cons_succ, List.getElem?_cons_zero, ofO_ok, Pd.add_int, Pd.sub_int, ci, cm, hp, m1, m2, m3, m4, int_int, hmax, l2, if_true, go_ok]
  rfl
theorem law_true (ns : List Int) (hn : ns.length ≤ 63) : ∃ os, run_law [.s ns] = .ok (.d (.bool true)) os := by
  let m : Nat := max 1 (min 2 ns.length)
  have hm : m ≤ 2 := by omega
  have hcl : compL (gN 1) (fun env => .ok true env) (evCallG 1 run__law_right (agO (evCallG 2 run__law_pot (agV 0 (agD (evVar 1) agN))) agN)) [1] (rngD 0 m) [.s ns, .u] = some ((rngD 0 m).map fun _ => .bool true, [.s ns, .u]) := by
    refine compL_map (fun _ => .bool true) _ fun x hx => ?_
    unfold rngD at hx
    obtain ⟨k, hk, rfl⟩ := List.mem_map.mp hx
    have hk := List.mem_range.mp hk
    have hk0 : (0 : Int) + (k : Nat) = (k : Nat) := by omega
    rw [hk0]
    obtain ⟨a, b, h1, h2, h3, h4⟩ := pot_run ns hn k (by omega)
    obtain ⟨z', h5⟩ := right_run (z := .o (.list [.int a, .int b])) ⟨a, b, rfl, h1, h2, h3⟩
    refine ⟨[.s ns, .d (.int (k : Nat))], _, [.s ns, .d (.int (k : Nat))], rfl, rfl, ?_, rfl⟩
    have e1 : evCallG 2 run__law_pot (agV 0 (agD (evVar 1) agN)) [.s ns, .d (.int (k : Nat))] = .ok (.o (.list [.int a, .int b])) [.s ns, .d (.int (k : Nat))] := by
      have e2 : agV 0 (agD (evVar 1) agN) [.s ns, .d (.int (k : Nat))] = .ok [.v 0, .d (.int (k : Nat))] [.s ns, .d (.int (k : Nat))] := rfl
      unfold evCallG
      rw [e2]
      simp only [bind_ok]
      unfold callA
      have hu : resA [.s ns, .d (.int (k : Nat))] [.v 0, .d (.int (k : Nat))] = some [.s ns, .d (.int (k : Nat))] := rfl
      rw [hu, if_pos (vars_2 _)]
      simp only [List.length_cons, List.length_nil, if_true, h4]
      rfl
    have e3 : evCallG 1 run__law_right (agO (evCallG 2 run__law_pot (agV 0 (agD (evVar 1) agN))) agN) [.s ns, .d (.int (k : Nat))] = .ok (.d (.bool true)) [.s ns, .d (.int (k : Nat))] := by
      unfold evCallG
      have e4 : agO (evCallG 2 run__law_pot (agV 0 (agD (evVar 1) agN))) agN [.s ns, .d (.int (k : Nat))] = .ok [.o (.list [.int a, .int b])] [.s ns, .d (.int (k : Nat))] := by
        unfold agO
        unfold evCallG at e1
        unfold evCallG
        rw [e1]
        rfl
      unfold evCallG at e4
      rw [e4]
      simp only [bind_ok]
      unfold callA
      have hu : resA [.s ns, .d (.int (k : Nat))] [.o (.list [.int a, .int b])] = some [.o (.list [.int a, .int b])] := rfl
      have hv : (vars [.o (.list [.int a, .int b])]).Nodup := by show ([] : List Nat).Nodup; decide
      rw [hu, if_pos hv]
      simp only [List.length_cons, List.length_nil, if_true, h5]
      rfl
    rw [evD_eq, e3]
    rfl
  have hz : sz (rngD 0 m).length = true := sz_le (by unfold rngD; simp; omega)
  have hr : evRng1 (evCons (evCallB .max2 (evCons (evC (.int 1)) (evCons (evCallB .min2 (evCons (evC (.int 2)) (evCons (evScrLen 0) evNil))) evNil))) evNil) [.s ns, .u] = .ok (rngD 0 m) [.s ns, .u] := by
    have sl : evScrLen 0 [.s ns, .u] = .ok (.d (.int (ns.length : Nat))) [.s ns, .u] := rfl
    have c1 : callD .min2 [.int 2, .int (ns.length : Nat)] = some (.d (.int ((min 2 ns.length : Nat) : Int))) := by
      show some (Ar.d (.int (if ((ns.length : Nat) : Int) < 2 then ((ns.length : Nat) : Int) else 2))) = _
      congr 3
      split <;> omega
    have c2 : callD .max2 [.int 1, .int ((min 2 ns.length : Nat) : Int)] = some (.d (.int ((m : Nat) : Int))) := by
      show some (Ar.d (.int (if ((min 2 ns.length : Nat) : Int) > 1 then ((min 2 ns.length : Nat) : Int) else 1))) = _
      congr 3
      split <;> omega
    have hi : Pd.inR (-1000000) 1000000 (m : Nat) = true := inR_of (by omega) (by omega)
    unfold evRng1
    have cm : ∀ er env, evCallB .max2 er env = (er env).bind fun xs e => ofO (callD .max2 xs) e := fun _ _ => rfl
    have cn : ∀ er env, evCallB .min2 er env = (er env).bind fun xs e => ofO (callD .min2 xs) e := fun _ _ => rfl
    simp only [evCons_eq, evNil_eq, evD_eq, evC_eq, cm, cn, sl, bind_ok, x_d, ofO_ok, c1, c2, hi, if_true, Int.toNat_natCast]
  have hcp : evComp (evRng1 (evCons (evCallB .max2 (evCons (evC (.int 1)) (evCons (evCallB .min2 (evCons (evC (.int 2)) (evCons (evScrLen 0) evNil))) evNil))) evNil)) (gN 1) (fun env => .ok true env) (evCallG 1 run__law_right (agO (evCallG 2 run__law_pot (agV 0 (agD (evVar 1) agN))) agN)) [1] [.s ns, .u] = .ok (.o (.list ((rngD 0 m).map fun _ => .bool true))) [.s ns, .u] := by
    have hno : noOwn [.s ns, .u] [1] = true := rfl
    have hw : wipeE [.s ns, .u] [1] = [.s ns, .u] := rfl
    rw [evComp_eq, hr]
    simp only [bind_ok, hno, hz, hw, hcl, Bool.and_self, if_true]
    rfl
  have hall : ∀ l : List D, callD .all [.list (l.map fun _ => .bool true)] = some (.d (.bool true)) := fun l => by
    have : asBools (l.map fun _ => .bool true) = some (l.map fun _ => true) := by
      induction l with
      | nil => rfl
      | cons x l ih =>
        show (asBools (l.map fun _ => .bool true)).map (true :: ·) = _
        rw [ih]
        rfl
    show (asBools _).map _ = _
    rw [this]
    simp
  refine ⟨[.s ns], ?_⟩
  unfold run_law runB code_law
  have e0 : ([.s ns] : Pd.Env) ++ List.replicate (2 - 1) .u = [.s ns, .u] := rfl
  have ca : ∀ er env, evCallB .all er env = (er env).bind fun xs e => ofO (callD .all xs) e := fun _ _ => rfl
  rw [e0, evRet_eq, ca, evCons_eq, evD_eq, hcp]
  simp only [bind_ok, x_o, evNil_eq, hall, ofO_ok, go_ok]
  rfl
end K93
set_option Elab.async false
set_option linter.all false
set_option maxRecDepth 100000
set_option maxHeartbeats 0
namespace K93
open PySem PySem.Spec PyProof.Rows L2
def top (i : Nat) : Stmt := PySem.Challenge.pw_marchhouse_k93_any_device_as_a_store.main.body.getD i (.Pass ⟨0, 0, 0, 0⟩)

def d_is_integer : He.DefD := ⟨("is_integer", none), "is_integer", "is_integer", defArgs (top 1), defBody (top 1), defScope (top 1), [], []⟩
def d_is_within : He.DefD := ⟨("is_within", none), "is_within", "is_within", defArgs (top 2), defBody (top 2), defScope (top 2), [], []⟩
def d_is_tuple : He.DefD := ⟨("is_tuple", none), "is_tuple", "is_tuple", defArgs (top 3), defBody (top 3), defScope (top 3), [], []⟩
def d_are_signs : He.DefD := ⟨("are_signs", none), "are_signs", "are_signs", defArgs (top 15), defBody (top 15), defScope (top 15), [], []⟩
def d_is_device_any : He.DefD := ⟨("is_device_any", none), "is_device_any", "is_device_any", defArgs (top 16), defBody (top 16), defScope (top 16), [], []⟩
def d_is_short_name : He.DefD := ⟨("is_short_name", none), "is_short_name", "is_short_name", defArgs (top 27), defBody (top 27), defScope (top 27), [], []⟩
def d_is_entry_any : He.DefD := ⟨("is_entry_any", none), "is_entry_any", "is_entry_any", defArgs (top 28), defBody (top 28), defScope (top 28), [], []⟩
def d_row_told : He.DefD := ⟨("row_told", none), "row_told", "row_told", defArgs (top 29), defBody (top 29), defScope (top 29), [], []⟩
def d_are_figures : He.DefD := ⟨("are_figures", none), "are_figures", "are_figures", defArgs (top 30), defBody (top 30), defScope (top 30), [], []⟩
def d_entry_at : He.DefD := ⟨("entry_at", none), "entry_at", "entry_at", defArgs (top 31), defBody (top 31), defScope (top 31), [], []⟩
def d_rows_from : He.DefD := ⟨("rows_from", none), "rows_from", "rows_from", defArgs (top 32), defBody (top 32), defScope (top 32), [], []⟩
def d_behind_entry : He.DefD := ⟨("behind_entry", none), "behind_entry", "behind_entry", defArgs (top 33), defBody (top 33), defScope (top 33), [], []⟩
def d_behind_all : He.DefD := ⟨("behind_all", none), "behind_all", "behind_all", defArgs (top 34), defBody (top 34), defScope (top 34), [], []⟩
def d_listed : He.DefD := ⟨("listed", none), "listed", "listed", defArgs (top 35), defBody (top 35), defScope (top 35), [], []⟩
def d_log_on : He.DefD := ⟨("log_on", none), "log_on", "log_on", defArgs (top 38), defBody (top 38), defScope (top 38), [], []⟩
def d_read_store : He.DefD := ⟨("read_store", none), "read_store", "read_store", defArgs (top 39), defBody (top 39), defScope (top 39), [], []⟩
def d_room_in : He.DefD := ⟨("room_in", none), "room_in", "room_in", defArgs (top 40), defBody (top 40), defScope (top 40), [], []⟩
def d_want_store : He.DefD := ⟨("want_store", none), "want_store", "want_store", defArgs (top 41), defBody (top 41), defScope (top 41), [], []⟩
def d_new_store : He.DefD := ⟨("new_store", none), "new_store", "new_store", defArgs (top 42), defBody (top 42), defScope (top 42), [], []⟩
def d_is_store : He.DefD := ⟨("is_store", none), "is_store", "is_store", defArgs (top 43), defBody (top 43), defScope (top 43), [], []⟩
def d_kept : He.DefD := ⟨("kept", none), "kept", "kept", defArgs (top 44), defBody (top 44), defScope (top 44), [], []⟩
def d_turn_of : He.DefD := ⟨("turn_of", none), "turn_of", "turn_of", defArgs (top 45), defBody (top 45), defScope (top 45), [], []⟩
def d_room : He.DefD := ⟨("room", none), "room", "room", defArgs (top 46), defBody (top 46), defScope (top 46), [], []⟩
def d_entries_in : He.DefD := ⟨("entries_in", none), "entries_in", "entries_in", defArgs (top 47), defBody (top 47), defScope (top 47), [], []⟩
def d__law_pot : He.DefD := ⟨("_law_pot", none), "_law_pot", "_law_pot", defArgs (top 49), defBody (top 49), defScope (top 49), [], []⟩
def d__law_draw : He.DefD := ⟨("_law_draw", none), "_law_draw", "_law_draw", defArgs (top 50), defBody (top 50), defScope (top 50), [], []⟩
def d__law_pick : He.DefD := ⟨("_law_pick", none), "_law_pick", "_law_pick", defArgs (top 51), defBody (top 51), defScope (top 51), [], []⟩
def d__law_is_name : He.DefD := ⟨("_law_is_name", none), "_law_is_name", "_law_is_name", defArgs (top 52), defBody (top 52), defScope (top 52), [], []⟩
def d__law_is_signs : He.DefD := ⟨("_law_is_signs", none), "_law_is_signs", "_law_is_signs", defArgs (top 53), defBody (top 53), defScope (top 53), [], []⟩
def d__law_is_entry : He.DefD := ⟨("_law_is_entry", none), "_law_is_entry", "_law_is_entry", defArgs (top 54), defBody (top 54), defScope (top 54), [], []⟩
def d__law_row : He.DefD := ⟨("_law_row", none), "_law_row", "_law_row", defArgs (top 55), defBody (top 55), defScope (top 55), [], []⟩
def d__law_bar : He.DefD := ⟨("_law_bar", none), "_law_bar", "_law_bar", defArgs (top 56), defBody (top 56), defScope (top 56), [], []⟩
def d__law_behind : He.DefD := ⟨("_law_behind", none), "_law_behind", "_law_behind", defArgs (top 57), defBody (top 57), defScope (top 57), [], []⟩
def d__law_listed : He.DefD := ⟨("_law_listed", none), "_law_listed", "_law_listed", defArgs (top 58), defBody (top 58), defScope (top 58), [], []⟩
def d__law_row_in : He.DefD := ⟨("_law_row_in", none), "_law_row_in", "_law_row_in", defArgs (top 59), defBody (top 59), defScope (top 59), [], []⟩
def d__law_log : He.DefD := ⟨("_law_log", none), "_law_log", "_law_log", defArgs (top 60), defBody (top 60), defScope (top 60), [], []⟩
def d__law_store : He.DefD := ⟨("_law_store", none), "_law_store", "_law_store", defArgs (top 61), defBody (top 61), defScope (top 61), [], []⟩
def d__law_kept : He.DefD := ⟨("_law_kept", none), "_law_kept", "_law_kept", defArgs (top 62), defBody (top 62), defScope (top 62), [], []⟩
def d__law_text : He.DefD := ⟨("_law_text", none), "_law_text", "_law_text", defArgs (top 63), defBody (top 63), defScope (top 63), [], []⟩
def d__law_entry : He.DefD := ⟨("_law_entry", none), "_law_entry", "_law_entry", defArgs (top 64), defBody (top 64), defScope (top 64), [], []⟩
def d__law_hurt : He.DefD := ⟨("_law_hurt", none), "_law_hurt", "_law_hurt", defArgs (top 65), defBody (top 65), defScope (top 65), [], []⟩
def d__law_tape : He.DefD := ⟨("_law_tape", none), "_law_tape", "_law_tape", defArgs (top 66), defBody (top 66), defScope (top 66), [], []⟩
def d__law_device_right : He.DefD := ⟨("_law_device_right", none), "_law_device_right", "_law_device_right", defArgs (top 67), defBody (top 67), defScope (top 67), [], []⟩
def d__law_right : He.DefD := ⟨("_law_right", none), "_law_right", "_law_right", defArgs (top 68), defBody (top 68), defScope (top 68), [], []⟩
def d_law : He.DefD := ⟨("law", none), "law", "law", defArgs (top 69), defBody (top 69), defScope (top 69), [], []⟩
def fn : List He.DefD := [d_is_integer, d_is_within, d_is_tuple, d_are_signs, d_is_device_any, d_is_short_name, d_is_entry_any, d_row_told, d_are_figures, d_entry_at, d_rows_from, d_behind_entry, d_behind_all, d_listed, d_log_on, d_read_store, d_room_in, d_want_store, d_new_store, d_is_store, d_kept, d_turn_of, d_room, d_entries_in, d__law_pot, d__law_draw, d__law_pick, d__law_is_name, d__law_is_signs, d__law_is_entry, d__law_row, d__law_bar, d__law_behind, d__law_listed, d__law_row_in, d__law_log, d__law_store, d__law_kept, d__law_text, d__law_entry, d__law_hurt, d__law_tape, d__law_device_right, d__law_right, d_law]
def fa : List He.Fa := [.glo "is_integer", .glo "is_within", .glo "is_tuple", .glo "are_signs", .glo "is_device_any", .glo "is_short_name", .glo "is_entry_any", .glo "row_told", .glo "are_figures", .glo "entry_at", .glo "rows_from", .glo "behind_entry", .glo "behind_all", .glo "listed", .glo "log_on", .glo "read_store", .glo "room_in", .glo "want_store", .glo "new_store", .glo "is_store", .glo "kept", .glo "turn_of", .glo "room", .glo "entries_in", .glo "_law_pot", .glo "_law_draw", .glo "_law_pick", .glo "_law_is_name", .glo "_law_is_signs", .glo "_law_is_entry", .glo "_law_row", .glo "_law_bar", .glo "_law_behind", .glo "_law_listed", .glo "_law_row_in", .glo "_law_log", .glo "_law_store", .glo "_law_kept", .glo "_law_text", .glo "_law_entry", .glo "_law_hurt", .glo "_law_tape", .glo "_law_device_right", .glo "_law_right", .glo "law", .int "LEAST_SIGNS" 60, .int "MOST_SIGNS" 2000, .str "MARK" "+", .str "FIGURES" "0123456789", .str "LETTERS" "abcdefghijklmnopqrstuvwxyz", .int "MOST_LETTERS" 12, .int "MOST_TEXT" 40, .int "HEAD" 10, .str "OPEN" "open", .str "CALL" "call", .str "CLOSE" "close", .str "TILDE" "~", .free "LookupError", .free "RuntimeError", .free "ValueError", .free "abs", .free "all", .free "bool", .free "dict", .free "divmod", .free "int", .free "isinstance", .free "len", .free "list", .free "max", .free "min", .free "range", .free "repr", .free "sorted", .free "str", .free "sum", .free "tuple"]
abbrev R : PySem.W.OpenRow := PySem.W.OpenLaw.row PySem.Challenge.rw_marchhouse_k93_any_device_as_a_store
abbrev hk : PySem.W.Hook := He.hookD 4 fa fn
def ob (s : PySem.W.SharedT) : He.AlD := He.obsDG 4 fa fn (HandSHeadRun.getT s)
theorem ob_eq (s : PySem.W.SharedT) : ob s = hk.obs s.abs := He.obsDG_eq (HandSHeadRun.getT_eq s)
def nm0 : List PySem.Str := ["is_integer", "is_within", "is_tuple", "MarchError", "MissingError", "StateError", "InvalidMany", "InvalidStore", "UnknownField", "FieldTaken", "LEAST_SIGNS", "MOST_SIGNS", "are_signs", "is_device_any", "MARK", "FIGURES", "LETTERS", "MOST_LETTERS"]
def nm1 : List PySem.Str := ["MOST_TEXT", "HEAD", "OPEN", "CALL", "CLOSE", "is_short_name", "is_entry_any", "row_told", "are_figures", "entry_at", "rows_from", "behind_entry", "behind_all", "listed", "TILDE", "log_on", "read_store", "room_in"]
def nm2 : List PySem.Str := ["want_store", "new_store", "is_store", "kept", "turn_of", "room", "entries_in", "_law_pot", "_law_draw", "_law_pick", "_law_is_name", "_law_is_signs", "_law_is_entry", "_law_row", "_law_bar", "_law_behind", "_law_listed", "_law_row_in"]
def nm3 : List PySem.Str := ["_law_log", "_law_store", "_law_kept", "_law_text", "_law_entry", "_law_hurt", "_law_tape", "_law_device_right", "_law_right"]
def names : List PySem.Str := nm0 ++ nm1 ++ nm2 ++ nm3
theorem run (w : World) : HandSHeadRun.RunEq R (PySem.W.view R.prog [69]) hk ob 6000 names w := by
  intro os
  kernel_rfl
end K93
set_option Elab.async false
set_option linter.all false
set_option maxRecDepth 100000
set_option maxHeartbeats 4000000
namespace K93
open PySem PySem.Spec PyProof.Rows L2 Pd
/-- what stands in the module -/
structure Fs (K : PySem.W.Frag) (mg : Str → Option Value) : Prop where
  d_is_integer : ∃ fd, FunD K "is_integer" "is_integer" (defArgs (top 1)) (defBody (top 1)) (defScope (top 1)) [] [] (He.ga K "is_integer") fd
  g_is_integer : mg "is_integer" = some (.ref (He.ga K "is_integer"))
  d_is_within : ∃ fd, FunD K "is_within" "is_within" (defArgs (top 2)) (defBody (top 2)) (defScope (top 2)) [] [] (He.ga K "is_within") fd
  g_is_within : mg "is_within" = some (.ref (He.ga K "is_within"))
  d_is_tuple : ∃ fd, FunD K "is_tuple" "is_tuple" (defArgs (top 3)) (defBody (top 3)) (defScope (top 3)) [] [] (He.ga K "is_tuple") fd
  g_is_tuple : mg "is_tuple" = some (.ref (He.ga K "is_tuple"))
  d_are_signs : ∃ fd, FunD K "are_signs" "are_signs" (defArgs (top 15)) (defBody (top 15)) (defScope (top 15)) [] [] (He.ga K "are_signs") fd
  g_are_signs : mg "are_signs" = some (.ref (He.ga K "are_signs"))
  d_is_device_any : ∃ fd, FunD K "is_device_any" "is_device_any" (defArgs (top 16)) (defBody (top 16)) (defScope (top 16)) [] [] (He.ga K "is_device_any") fd
  g_is_device_any : mg "is_device_any" = some (.ref (He.ga K "is_device_any"))
  d_is_short_name : ∃ fd, FunD K "is_short_name" "is_short_name" (defArgs (top 27)) (defBody (top 27)) (defScope (top 27)) [] [] (He.ga K "is_short_name") fd
  g_is_short_name : mg "is_short_name" = some (.ref (He.ga K "is_short_name"))
  d_is_entry_any : ∃ fd, FunD K "is_entry_any" "is_entry_any" (defArgs (top 28)) (defBody (top 28)) (defScope (top 28)) [] [] (He.ga K "is_entry_any") fd
  g_is_entry_any : mg "is_entry_any" = some (.ref (He.ga K "is_entry_any"))
  d_row_told : ∃ fd, FunD K "row_told" "row_told" (defArgs (top 29)) (defBody (top 29)) (defScope (top 29)) [] [] (He.ga K "row_told") fd
  g_row_told : mg "row_told" = some (.ref (He.ga K "row_told"))
  d_are_figures : ∃ fd, FunD K "are_figures" "are_figures" (defArgs (top 30)) (defBody (top 30)) (defScope (top 30)) [] [] (He.ga K "are_figures") fd
  g_are_figures : mg "are_figures" = some (.ref (He.ga K "are_figures"))
  d_entry_at : ∃ fd, FunD K "entry_at" "entry_at" (defArgs (top 31)) (defBody (top 31)) (defScope (top 31)) [] [] (He.ga K "entry_at") fd
  g_entry_at : mg "entry_at" = some (.ref (He.ga K "entry_at"))
  d_rows_from : ∃ fd, FunD K "rows_from" "rows_from" (defArgs (top 32)) (defBody (top 32)) (defScope (top 32)) [] [] (He.ga K "rows_from") fd
  g_rows_from : mg "rows_from" = some (.ref (He.ga K "rows_from"))
  d_behind_entry : ∃ fd, FunD K "behind_entry" "behind_entry" (defArgs (top 33)) (defBody (top 33)) (defScope (top 33)) [] [] (He.ga K "behind_entry") fd
  g_behind_entry : mg "behind_entry" = some (.ref (He.ga K "behind_entry"))
  d_behind_all : ∃ fd, FunD K "behind_all" "behind_all" (defArgs (top 34)) (defBody (top 34)) (defScope (top 34)) [] [] (He.ga K "behind_all") fd
  g_behind_all : mg "behind_all" = some (.ref (He.ga K "behind_all"))
  d_listed : ∃ fd, FunD K "listed" "listed" (defArgs (top 35)) (defBody (top 35)) (defScope (top 35)) [] [] (He.ga K "listed") fd
  g_listed : mg "listed" = some (.ref (He.ga K "listed"))
  d_log_on : ∃ fd, FunD K "log_on" "log_on" (defArgs (top 38)) (defBody (top 38)) (defScope (top 38)) [] [] (He.ga K "log_on") fd
  g_log_on : mg "log_on" = some (.ref (He.ga K "log_on"))
  d_read_store : ∃ fd, FunD K "read_store" "read_store" (defArgs (top 39)) (defBody (top 39)) (defScope (top 39)) [] [] (He.ga K "read_store") fd
  g_read_store : mg "read_store" = some (.ref (He.ga K "read_store"))
  d_room_in : ∃ fd, FunD K "room_in" "room_in" (defArgs (top 40)) (defBody (top 40)) (defScope (top 40)) [] [] (He.ga K "room_in") fd
  g_room_in : mg "room_in" = some (.ref (He.ga K "room_in"))
  d_want_store : ∃ fd, FunD K "want_store" "want_store" (defArgs (top 41)) (defBody (top 41)) (defScope (top 41)) [] [] (He.ga K "want_store") fd
  g_want_store : mg "want_store" = some (.ref (He.ga K "want_store"))
  d_new_store : ∃ fd, FunD K "new_store" "new_store" (defArgs (top 42)) (defBody (top 42)) (defScope (top 42)) [] [] (He.ga K "new_store") fd
  g_new_store : mg "new_store" = some (.ref (He.ga K "new_store"))
  d_is_store : ∃ fd, FunD K "is_store" "is_store" (defArgs (top 43)) (defBody (top 43)) (defScope (top 43)) [] [] (He.ga K "is_store") fd
  g_is_store : mg "is_store" = some (.ref (He.ga K "is_store"))
  d_kept : ∃ fd, FunD K "kept" "kept" (defArgs (top 44)) (defBody (top 44)) (defScope (top 44)) [] [] (He.ga K "kept") fd
  g_kept : mg "kept" = some (.ref (He.ga K "kept"))
  d_turn_of : ∃ fd, FunD K "turn_of" "turn_of" (defArgs (top 45)) (defBody (top 45)) (defScope (top 45)) [] [] (He.ga K "turn_of") fd
  g_turn_of : mg "turn_of" = some (.ref (He.ga K "turn_of"))
  d_room : ∃ fd, FunD K "room" "room" (defArgs (top 46)) (defBody (top 46)) (defScope (top 46)) [] [] (He.ga K "room") fd
  g_room : mg "room" = some (.ref (He.ga K "room"))
  d_entries_in : ∃ fd, FunD K "entries_in" "entries_in" (defArgs (top 47)) (defBody (top 47)) (defScope (top 47)) [] [] (He.ga K "entries_in") fd
  g_entries_in : mg "entries_in" = some (.ref (He.ga K "entries_in"))
  d__law_pot : ∃ fd, FunD K "_law_pot" "_law_pot" (defArgs (top 49)) (defBody (top 49)) (defScope (top 49)) [] [] (He.ga K "_law_pot") fd
  g__law_pot : mg "_law_pot" = some (.ref (He.ga K "_law_pot"))
  d__law_draw : ∃ fd, FunD K "_law_draw" "_law_draw" (defArgs (top 50)) (defBody (top 50)) (defScope (top 50)) [] [] (He.ga K "_law_draw") fd
  g__law_draw : mg "_law_draw" = some (.ref (He.ga K "_law_draw"))
  d__law_pick : ∃ fd, FunD K "_law_pick" "_law_pick" (defArgs (top 51)) (defBody (top 51)) (defScope (top 51)) [] [] (He.ga K "_law_pick") fd
  g__law_pick : mg "_law_pick" = some (.ref (He.ga K "_law_pick"))
  d__law_is_name : ∃ fd, FunD K "_law_is_name" "_law_is_name" (defArgs (top 52)) (defBody (top 52)) (defScope (top 52)) [] [] (He.ga K "_law_is_name") fd
  g__law_is_name : mg "_law_is_name" = some (.ref (He.ga K "_law_is_name"))
  d__law_is_signs : ∃ fd, FunD K "_law_is_signs" "_law_is_signs" (defArgs (top 53)) (defBody (top 53)) (defScope (top 53)) [] [] (He.ga K "_law_is_signs") fd
  g__law_is_signs : mg "_law_is_signs" = some (.ref (He.ga K "_law_is_signs"))
  d__law_is_entry : ∃ fd, FunD K "_law_is_entry" "_law_is_entry" (defArgs (top 54)) (defBody (top 54)) (defScope (top 54)) [] [] (He.ga K "_law_is_entry") fd
  g__law_is_entry : mg "_law_is_entry" = some (.ref (He.ga K "_law_is_entry"))
  d__law_row : ∃ fd, FunD K "_law_row" "_law_row" (defArgs (top 55)) (defBody (top 55)) (defScope (top 55)) [] [] (He.ga K "_law_row") fd
  g__law_row : mg "_law_row" = some (.ref (He.ga K "_law_row"))
  d__law_bar : ∃ fd, FunD K "_law_bar" "_law_bar" (defArgs (top 56)) (defBody (top 56)) (defScope (top 56)) [] [] (He.ga K "_law_bar") fd
  g__law_bar : mg "_law_bar" = some (.ref (He.ga K "_law_bar"))
  d__law_behind : ∃ fd, FunD K "_law_behind" "_law_behind" (defArgs (top 57)) (defBody (top 57)) (defScope (top 57)) [] [] (He.ga K "_law_behind") fd
  g__law_behind : mg "_law_behind" = some (.ref (He.ga K "_law_behind"))
  d__law_listed : ∃ fd, FunD K "_law_listed" "_law_listed" (defArgs (top 58)) (defBody (top 58)) (defScope (top 58)) [] [] (He.ga K "_law_listed") fd
  g__law_listed : mg "_law_listed" = some (.ref (He.ga K "_law_listed"))
  d__law_row_in : ∃ fd, FunD K "_law_row_in" "_law_row_in" (defArgs (top 59)) (defBody (top 59)) (defScope (top 59)) [] [] (He.ga K "_law_row_in") fd
  g__law_row_in : mg "_law_row_in" = some (.ref (He.ga K "_law_row_in"))
  d__law_log : ∃ fd, FunD K "_law_log" "_law_log" (defArgs (top 60)) (defBody (top 60)) (defScope (top 60)) [] [] (He.ga K "_law_log") fd
  g__law_log : mg "_law_log" = some (.ref (He.ga K "_law_log"))
  d__law_store : ∃ fd, FunD K "_law_store" "_law_store" (defArgs (top 61)) (defBody (top 61)) (defScope (top 61)) [] [] (He.ga K "_law_store") fd
  g__law_store : mg "_law_store" = some (.ref (He.ga K "_law_store"))
  d__law_kept : ∃ fd, FunD K "_law_kept" "_law_kept" (defArgs (top 62)) (defBody (top 62)) (defScope (top 62)) [] [] (He.ga K "_law_kept") fd
  g__law_kept : mg "_law_kept" = some (.ref (He.ga K "_law_kept"))
  d__law_text : ∃ fd, FunD K "_law_text" "_law_text" (defArgs (top 63)) (defBody (top 63)) (defScope (top 63)) [] [] (He.ga K "_law_text") fd
  g__law_text : mg "_law_text" = some (.ref (He.ga K "_law_text"))
  d__law_entry : ∃ fd, FunD K "_law_entry" "_law_entry" (defArgs (top 64)) (defBody (top 64)) (defScope (top 64)) [] [] (He.ga K "_law_entry") fd
  g__law_entry : mg "_law_entry" = some (.ref (He.ga K "_law_entry"))
  d__law_hurt : ∃ fd, FunD K "_law_hurt" "_law_hurt" (defArgs (top 65)) (defBody (top 65)) (defScope (top 65)) [] [] (He.ga K "_law_hurt") fd
  g__law_hurt : mg "_law_hurt" = some (.ref (He.ga K "_law_hurt"))
  d__law_tape : ∃ fd, FunD K "_law_tape" "_law_tape" (defArgs (top 66)) (defBody (top 66)) (defScope (top 66)) [] [] (He.ga K "_law_tape") fd
  g__law_tape : mg "_law_tape" = some (.ref (He.ga K "_law_tape"))
  d__law_device_right : ∃ fd, FunD K "_law_device_right" "_law_device_right" (defArgs (top 67)) (defBody (top 67)) (defScope (top 67)) [] [] (He.ga K "_law_device_right") fd
  g__law_device_right : mg "_law_device_right" = some (.ref (He.ga K "_law_device_right"))
  d__law_right : ∃ fd, FunD K "_law_right" "_law_right" (defArgs (top 68)) (defBody (top 68)) (defScope (top 68)) [] [] (He.ga K "_law_right") fd
  g__law_right : mg "_law_right" = some (.ref (He.ga K "_law_right"))
  d_law : ∃ fd, FunD K "law" "law" (defArgs (top 69)) (defBody (top 69)) (defScope (top 69)) [] [] (He.ga K "law") fd
  g_law : mg "law" = some (.ref (He.ga K "law"))
  c_LEAST_SIGNS : ∃ t, mg "LEAST_SIGNS" = some (.int 60 t)
  c_MOST_SIGNS : ∃ t, mg "MOST_SIGNS" = some (.int 2000 t)
  c_MARK : ∃ t, mg "MARK" = some (.str "+" t)
  c_FIGURES : ∃ t, mg "FIGURES" = some (.str "0123456789" t)
  c_LETTERS : ∃ t, mg "LETTERS" = some (.str "abcdefghijklmnopqrstuvwxyz" t)
  c_MOST_LETTERS : ∃ t, mg "MOST_LETTERS" = some (.int 12 t)
  c_MOST_TEXT : ∃ t, mg "MOST_TEXT" = some (.int 40 t)
  c_HEAD : ∃ t, mg "HEAD" = some (.int 10 t)
  c_OPEN : ∃ t, mg "OPEN" = some (.str "open" t)
  c_CALL : ∃ t, mg "CALL" = some (.str "call" t)
  c_CLOSE : ∃ t, mg "CLOSE" = some (.str "close" t)
  c_TILDE : ∃ t, mg "TILDE" = some (.str "~" t)
  n_LookupError : mg "LookupError" = none
  n_RuntimeError : mg "RuntimeError" = none
  n_ValueError : mg "ValueError" = none
  n_abs : mg "abs" = none
  n_all : mg "all" = none
  n_bool : mg "bool" = none
  n_dict : mg "dict" = none
  n_divmod : mg "divmod" = none
  n_int : mg "int" = none
  n_isinstance : mg "isinstance" = none
  n_len : mg "len" = none
  n_list : mg "list" = none
  n_max : mg "max" = none
  n_min : mg "min" = none
  n_range : mg "range" = none
  n_repr : mg "repr" = none
  n_sorted : mg "sorted" = none
  n_str : mg "str" = none
  n_sum : mg "sum" = none
  n_tuple : mg "tuple" = none
section
variable {P : Program} {w : World} {C : Kc} {mg : Str → Option Value} {base : Heap} (Z : Fs C.K mg) (dg : base.NoDigits)
include Z dg
omit Z dg in theorem sc_is_integer : FnScope ["value"] ["value"] (defScope (top 1)) := ⟨rfl, rfl, rfl, by decide +kernel, rfl, by decide +kernel, by decide +kernel⟩
theorem ok_is_integer : GF P w C mg base 1 "is_integer" (defArgs (top 1)) (defBody (top 1)) (defScope (top 1)) ["value"] 1 run_is_integer :=
  GF.of (N := ["value"]) (pin := []) (code := code_is_integer) Z.d_is_integer Z.g_is_integer sc_is_integer (fun _ _ _ _ _ _ us hl => match us, hl with | [_], _ => rfl) rfl dg fun cdv A outer s H E R =>
  (q_one (q_ret (q_andV (q_isi R .int rfl Z.n_isinstance rfl Z.n_int (q_var (i := 0) rfl (by first | exact .inl rfl | exact .inr (.inl rfl) | exact .inr (.inr rfl)))) (q_oneV (q_notV (q_isi R .bool rfl Z.n_isinstance rfl Z.n_bool (q_var (i := 0) rfl (by first | exact .inl rfl | exact .inr (.inl rfl) | exact .inr (.inr rfl)))))))))
omit Z dg in theorem sc_is_within : FnScope ["value", "least", "most"] ["value", "least", "most"] (defScope (top 2)) := ⟨rfl, rfl, rfl, by decide +kernel, rfl, by decide +kernel, by decide +kernel⟩
theorem ok_is_within : GF P w C mg base 2 "is_within" (defArgs (top 2)) (defBody (top 2)) (defScope (top 2)) ["value", "least", "most"] 3 run_is_within :=
  GF.of (N := ["value", "least", "most"]) (pin := []) (code := code_is_within) Z.d_is_within Z.g_is_within sc_is_within (fun _ _ _ _ _ _ us hl => match us, hl with | [_, _, _], _ => rfl) rfl dg fun cdv A outer s H E R =>
  (q_one (q_ret (q_andV (q_callF R (ok_is_integer Z dg) rfl (q_cons (q_var (i := 0) rfl (by first | exact .inl rfl | exact .inr (.inl rfl) | exact .inr (.inr rfl))) q_nil)) (q_oneV (q_chn R (q_var (i := 1) rfl (by first | exact .inl rfl | exact .inr (.inl rfl) | exact .inr (.inr rfl))) (q_var (i := 0) rfl (by first | exact .inl rfl | exact .inr (.inl rfl) | exact .inr (.inr rfl))) (q_var (i := 2) rfl (by first | exact .inl rfl | exact .inr (.inl rfl) | exact .inr (.inr rfl))))))))
omit Z dg in theorem sc_is_tuple : FnScope ["value", "many"] ["value", "many"] (defScope (top 3)) := ⟨rfl, rfl, rfl, by decide +kernel, rfl, by decide +kernel, by decide +kernel⟩
theorem ok_is_tuple : GF P w C mg base 1 "is_tuple" (defArgs (top 3)) (defBody (top 3)) (defScope (top 3)) ["value", "many"] 2 run_is_tuple :=
  GF.of (N := ["value", "many"]) (pin := []) (code := code_is_tuple) Z.d_is_tuple Z.g_is_tuple sc_is_tuple (fun _ _ _ _ _ _ us hl => match us, hl with | [_, _], _ => rfl) rfl dg fun cdv A outer s H E R =>
  (q_one (q_ret (q_andV (q_isi R .tuple rfl Z.n_isinstance rfl Z.n_tuple (q_var (i := 0) rfl (by first | exact .inl rfl | exact .inr (.inl rfl) | exact .inr (.inr rfl)))) (q_oneV (q_cmp R (q_callV (i := 0) R .len rfl Z.n_len rfl (by first | exact .inl rfl | exact .inr (.inl rfl) | exact .inr (.inr rfl))) (q_var (i := 1) rfl (by first | exact .inl rfl | exact .inr (.inl rfl) | exact .inr (.inr rfl))))))))
omit Z dg in theorem sc_are_signs : FnScope ["value", "sign"] ["value"] (defScope (top 15)) := ⟨rfl, rfl, rfl, by decide +kernel, rfl, by decide +kernel, by decide +kernel⟩
theorem ok_are_signs : GF P w C mg base 1 "are_signs" (defArgs (top 15)) (defBody (top 15)) (defScope (top 15)) ["value"] 1 run_are_signs :=
  GF.of (N := ["value", "sign"]) (pin := []) (code := code_are_signs) Z.d_are_signs Z.g_are_signs sc_are_signs (fun _ _ _ _ _ _ us hl => match us, hl with | [_], _ => rfl) rfl dg fun cdv A outer s H E R =>
  (q_one (q_ret (q_andV (q_isi R .str rfl Z.n_isinstance rfl Z.n_str (q_var (i := 0) rfl (by first | exact .inl rfl | exact .inr (.inl rfl) | exact .inr (.inr rfl)))) (q_oneV (q_callB R .all rfl Z.n_all (q_cons (q_comp R [("sign", 1)] (q_it R (q_var (i := 0) rfl (by first | exact .inl rfl | exact .inr (.inl rfl) | exact .inr (.inr rfl)))) rfl (by decide) (fun _ _ _ _ _ => (q_gname (i := 1) (rm_blk R _ _ _ _ _).nd rfl (by first | exact .inl rfl | exact .inr rfl))) (fun _ _ _ _ _ => q_pts0) (fun _ _ _ _ _ => (q_chn (rm_blk R _ _ _ _ _) q_str (q_var (i := 1) rfl (by first | exact .inl rfl | exact .inr (.inl rfl) | exact .inr (.inr rfl))) q_str))) q_nil))))))
omit Z dg in theorem sc_is_device_any : FnScope ["value", "one"] ["value"] (defScope (top 16)) := ⟨rfl, rfl, rfl, by decide +kernel, rfl, by decide +kernel, by decide +kernel⟩
theorem ok_is_device_any : GF P w C mg base 2 "is_device_any" (defArgs (top 16)) (defBody (top 16)) (defScope (top 16)) ["value"] 1 run_is_device_any :=
  GF.of (N := ["value", "one"]) (pin := []) (code := code_is_device_any) Z.d_is_device_any Z.g_is_device_any sc_is_device_any (fun _ _ _ _ _ _ us hl => match us, hl with | [_], _ => rfl) rfl dg fun cdv A outer s H E R =>
  (q_seq (q_ifS (PW.pt (q_or (q_not (q_tru R (q_callF R (ok_is_tuple Z dg) rfl (q_cons (q_var (i := 0) rfl (by first | exact .inl rfl | exact .inr (.inl rfl) | exact .inr (.inr rfl))) (q_cons q_int q_nil))))) (q_or1 (q_not (q_tru R (q_callB R .all rfl Z.n_all (q_cons (q_comp R [("one", 1)] (q_it R (q_var (i := 0) rfl (by first | exact .inl rfl | exact .inr (.inl rfl) | exact .inr (.inr rfl)))) rfl (by decide) (fun _ _ _ _ _ => (q_gname (i := 1) (rm_blk R _ _ _ _ _).nd rfl (by first | exact .inl rfl | exact .inr rfl))) (fun _ _ _ _ _ => q_pts0) (fun _ _ _ _ _ => (q_callF (rm_blk R _ _ _ _ _) (ok_are_signs Z dg) rfl (q_cons (q_var (i := 1) rfl (by first | exact .inl rfl | exact .inr (.inl rfl) | exact .inr (.inr rfl))) q_nil)))) q_nil))))))) (q_one (q_ret q_bl)) q_snil) (q_one (q_ret (q_andV (q_cmp R (q_callB R .len rfl Z.n_len (q_cons (q_idxV (i := 0) R rfl (by first | exact .inl rfl | exact .inr (.inl rfl) | exact .inr (.inr rfl)) q_int) q_nil)) (q_callB R .len rfl Z.n_len (q_cons (q_idxV (i := 0) R rfl (by first | exact .inl rfl | exact .inr (.inl rfl) | exact .inr (.inr rfl)) q_int) q_nil))) (q_oneV (q_chn R (q_gint rfl Z.c_LEAST_SIGNS) (q_callB R .len rfl Z.n_len (q_cons (q_idxV (i := 0) R rfl (by first | exact .inl rfl | exact .inr (.inl rfl) | exact .inr (.inr rfl)) q_int) q_nil)) (q_gint rfl Z.c_MOST_SIGNS)))))))
omit Z dg in theorem sc_is_short_name : FnScope ["value", "sign"] ["value"] (defScope (top 27)) := ⟨rfl, rfl, rfl, by decide +kernel, rfl, by decide +kernel, by decide +kernel⟩
theorem ok_is_short_name : GF P w C mg base 1 "is_short_name" (defArgs (top 27)) (defBody (top 27)) (defScope (top 27)) ["value"] 1 run_is_short_name :=
  GF.of (N := ["value", "sign"]) (pin := []) (code := code_is_short_name) Z.d_is_short_name Z.g_is_short_name sc_is_short_name (fun _ _ _ _ _ _ us hl => match us, hl with | [_], _ => rfl) rfl dg fun cdv A outer s H E R =>
  (q_seq (q_ifS (PW.pt (q_or (q_not (q_tru R (q_isi R .str rfl Z.n_isinstance rfl Z.n_str (q_var (i := 0) rfl (by first | exact .inl rfl | exact .inr (.inl rfl) | exact .inr (.inr rfl)))))) (q_or1 (q_not (q_tchn R q_int (q_callV (i := 0) R .len rfl Z.n_len rfl (by first | exact .inl rfl | exact .inr (.inl rfl) | exact .inr (.inr rfl))) (q_gint rfl Z.c_MOST_LETTERS)))))) (q_one (q_ret q_bl)) q_snil) (q_one (q_ret (q_callB R .all rfl Z.n_all (q_cons (q_comp R [("sign", 1)] (q_it R (q_var (i := 0) rfl (by first | exact .inl rfl | exact .inr (.inl rfl) | exact .inr (.inr rfl)))) rfl (by decide) (fun _ _ _ _ _ => (q_gname (i := 1) (rm_blk R _ _ _ _ _).nd rfl (by first | exact .inl rfl | exact .inr rfl))) (fun _ _ _ _ _ => q_pts0) (fun _ _ _ _ _ => (q_cmp (rm_blk R _ _ _ _ _) (q_var (i := 1) rfl (by first | exact .inl rfl | exact .inr (.inl rfl) | exact .inr (.inr rfl))) (q_gstr rfl Z.c_LETTERS)))) q_nil)))))
omit Z dg in theorem sc_is_entry_any : FnScope ["value"] ["value"] (defScope (top 28)) := ⟨rfl, rfl, rfl, by decide +kernel, rfl, by decide +kernel, by decide +kernel⟩
theorem ok_is_entry_any : GF P w C mg base 2 "is_entry_any" (defArgs (top 28)) (defBody (top 28)) (defScope (top 28)) ["value"] 1 run_is_entry_any :=
  GF.of (N := ["value"]) (pin := []) (code := code_is_entry_any) Z.d_is_entry_any Z.g_is_entry_any sc_is_entry_any (fun _ _ _ _ _ _ us hl => match us, hl with | [_], _ => rfl) rfl dg fun cdv A outer s H E R =>
  (q_seq (q_ifS (PW.pt (q_or (q_not (q_tru R (q_isi R .tuple rfl Z.n_isinstance rfl Z.n_tuple (q_var (i := 0) rfl (by first | exact .inl rfl | exact .inr (.inl rfl) | exact .inr (.inr rfl)))))) (q_or (q_tcmp R (q_callV (i := 0) R .len rfl Z.n_len rfl (by first | exact .inl rfl | exact .inr (.inl rfl) | exact .inr (.inr rfl))) (q_tup (q_cons q_int (q_cons q_int q_nil)))) (q_or1 (q_not (q_tru R (q_isi R .str rfl Z.n_isinstance rfl Z.n_str (q_idxV (i := 0) R rfl (by first | exact .inl rfl | exact .inr (.inl rfl) | exact .inr (.inr rfl)) q_int)))))))) (q_one (q_ret q_bl)) q_snil) (q_seq (q_ifS (q_not (q_tru R (q_callF R (ok_is_short_name Z dg) rfl (q_cons (q_idxV (i := 0) R rfl (by first | exact .inl rfl | exact .inr (.inl rfl) | exact .inr (.inr rfl)) q_int) q_nil)))) (q_one (q_ret q_bl)) q_snil) (q_seq (q_ifS (q_tcmp R (q_callV (i := 0) R .len rfl Z.n_len rfl (by first | exact .inl rfl | exact .inr (.inl rfl) | exact .inr (.inr rfl))) q_int) (q_one (q_ret (q_cmp R (q_idxV (i := 0) R rfl (by first | exact .inl rfl | exact .inr (.inl rfl) | exact .inr (.inr rfl)) q_int) (q_gstr rfl Z.c_CLOSE)))) q_snil) (q_seq (q_ifS (q_tcmp R (q_idxV (i := 0) R rfl (by first | exact .inl rfl | exact .inr (.inl rfl) | exact .inr (.inr rfl)) q_int) (q_gstr rfl Z.c_OPEN)) (q_one (q_ret (q_callF R (ok_is_short_name Z dg) rfl (q_cons (q_idxV (i := 0) R rfl (by first | exact .inl rfl | exact .inr (.inl rfl) | exact .inr (.inr rfl)) q_int) q_nil)))) q_snil) (q_one (q_ret (q_andV (q_cmp R (q_idxV (i := 0) R rfl (by first | exact .inl rfl | exact .inr (.inl rfl) | exact .inr (.inr rfl)) q_int) (q_gstr rfl Z.c_CALL)) (q_andV (q_callF R (ok_are_signs Z dg) rfl (q_cons (q_idxV (i := 0) R rfl (by first | exact .inl rfl | exact .inr (.inl rfl) | exact .inr (.inr rfl)) q_int) q_nil)) (q_oneV (q_cmp R (q_callB R .len rfl Z.n_len (q_cons (q_idxV (i := 0) R rfl (by first | exact .inl rfl | exact .inr (.inl rfl) | exact .inr (.inr rfl)) q_int) q_nil)) (q_gint rfl Z.c_MOST_TEXT)))))))))))
omit Z dg in theorem sc_row_told : FnScope ["entry", "body"] ["entry"] (defScope (top 29)) := ⟨rfl, rfl, rfl, by decide +kernel, rfl, by decide +kernel, by decide +kernel⟩
theorem ok_row_told : GF P w C mg base 1 "row_told" (defArgs (top 29)) (defBody (top 29)) (defScope (top 29)) ["entry"] 1 run_row_told :=
  GF.of (N := ["entry", "body"]) (pin := []) (code := code_row_told) Z.d_row_told Z.g_row_told sc_row_told (fun _ _ _ _ _ _ us hl => match us, hl with | [_], _ => rfl) rfl dg fun cdv A outer s H E R =>
  (q_seq (q_set (i := 1) R rfl (by first | exact .inl rfl | exact .inr rfl) (q_mth R .join q_str (q_cons (q_var (i := 0) rfl (by first | exact .inl rfl | exact .inr (.inl rfl) | exact .inr (.inr rfl))) q_nil))) (q_one (q_ret (q_bin R (q_join [(evFv (evC (.str "+"))), (evFz 3 (evCallV .len 1))] (PJ.cons (q_D (q_fv (q_gstr rfl Z.c_MARK))) (PJ.cons (q_D (q_fz R 3 (q_callV (i := 1) R .len rfl Z.n_len rfl (by first | exact .inl rfl | exact .inr (.inl rfl) | exact .inr (.inr rfl))) (by decide +kernel) (by decide +kernel) (by decide +kernel) (by decide))) PJ.nil))) (q_var (i := 1) rfl (by first | exact .inl rfl | exact .inr (.inl rfl) | exact .inr (.inr rfl)))))))
omit Z dg in theorem sc_are_figures : FnScope ["text", "sign"] ["text"] (defScope (top 30)) := ⟨rfl, rfl, rfl, by decide +kernel, rfl, by decide +kernel, by decide +kernel⟩
theorem ok_are_figures : GF P w C mg base 1 "are_figures" (defArgs (top 30)) (defBody (top 30)) (defScope (top 30)) ["text"] 1 run_are_figures :=
  GF.of (N := ["text", "sign"]) (pin := []) (code := code_are_figures) Z.d_are_figures Z.g_are_figures sc_are_figures (fun _ _ _ _ _ _ us hl => match us, hl with | [_], _ => rfl) rfl dg fun cdv A outer s H E R =>
  (q_one (q_ret (q_callB R .all rfl Z.n_all (q_cons (q_comp R [("sign", 1)] (q_it R (q_var (i := 0) rfl (by first | exact .inl rfl | exact .inr (.inl rfl) | exact .inr (.inr rfl)))) rfl (by decide) (fun _ _ _ _ _ => (q_gname (i := 1) (rm_blk R _ _ _ _ _).nd rfl (by first | exact .inl rfl | exact .inr rfl))) (fun _ _ _ _ _ => q_pts0) (fun _ _ _ _ _ => (q_cmp (rm_blk R _ _ _ _ _) (q_var (i := 1) rfl (by first | exact .inl rfl | exact .inr (.inl rfl) | exact .inr (.inr rfl))) (q_gstr rfl Z.c_FIGURES)))) q_nil))))
omit Z dg in theorem sc_entry_at : FnScope ["tape", "place", "size", "body", "entry"] ["tape", "place"] (defScope (top 31)) := ⟨rfl, rfl, rfl, by decide +kernel, rfl, by decide +kernel, by decide +kernel⟩
theorem ok_entry_at : GF P w C mg base 3 "entry_at" (defArgs (top 31)) (defBody (top 31)) (defScope (top 31)) ["tape", "place"] 2 run_entry_at :=
  GF.of (N := ["tape", "place", "size", "body", "entry"]) (pin := []) (code := code_entry_at) Z.d_entry_at Z.g_entry_at sc_entry_at (fun _ _ _ _ _ _ us hl => match us, hl with | [_, _], _ => rfl) rfl dg fun cdv A outer s H E R =>
  (q_seq (q_set (i := 2) R rfl (by first | exact .inl rfl | exact .inr rfl) (q_slice R (q_var (i := 0) rfl (by first | exact .inl rfl | exact .inr (.inl rfl) | exact .inr (.inr rfl))) (q_part (q_bin R (q_var (i := 1) rfl (by first | exact .inl rfl | exact .inr (.inl rfl) | exact .inr (.inr rfl))) q_int)) (q_part (q_bin R (q_var (i := 1) rfl (by first | exact .inl rfl | exact .inr (.inl rfl) | exact .inr (.inr rfl))) q_int)))) (q_seq (q_ifS (PW.pt (q_or (q_tcmp R (q_slice R (q_var (i := 0) rfl (by first | exact .inl rfl | exact .inr (.inl rfl) | exact .inr (.inr rfl))) (q_part (q_var (i := 1) rfl (by first | exact .inl rfl | exact .inr (.inl rfl) | exact .inr (.inr rfl)))) (q_part (q_bin R (q_var (i := 1) rfl (by first | exact .inl rfl | exact .inr (.inl rfl) | exact .inr (.inr rfl))) q_int))) (q_gstr rfl Z.c_MARK)) (q_or (q_tcmp R (q_callV (i := 2) R .len rfl Z.n_len rfl (by first | exact .inl rfl | exact .inr (.inl rfl) | exact .inr (.inr rfl))) q_int) (q_or1 (q_not (q_tru R (q_callF R (ok_are_figures Z dg) rfl (q_cons (q_var (i := 2) rfl (by first | exact .inl rfl | exact .inr (.inl rfl) | exact .inr (.inr rfl))) q_nil)))))))) (q_one (q_ret q_non)) q_snil) (q_seq (q_set (i := 3) R rfl (by first | exact .inl rfl | exact .inr rfl) (q_slice R (q_var (i := 0) rfl (by first | exact .inl rfl | exact .inr (.inl rfl) | exact .inr (.inr rfl))) (q_part (q_bin R (q_var (i := 1) rfl (by first | exact .inl rfl | exact .inr (.inl rfl) | exact .inr (.inr rfl))) q_int)) (q_part (q_bin R (q_bin R (q_var (i := 1) rfl (by first | exact .inl rfl | exact .inr (.inl rfl) | exact .inr (.inr rfl))) q_int) (q_callT R .int rfl Z.n_int (q_cons (q_var (i := 2) rfl (by first | exact .inl rfl | exact .inr (.inl rfl) | exact .inr (.inr rfl))) q_nil)))))) (q_seq (q_set (i := 4) R rfl (by first | exact .inl rfl | exact .inr rfl) (q_callT R .tuple rfl Z.n_tuple (q_cons (q_mth R .split (q_var (i := 3) rfl (by first | exact .inl rfl | exact .inr (.inl rfl) | exact .inr (.inr rfl))) (q_cons q_str (q_cons q_int q_nil))) q_nil))) (q_seq (q_ifS (PW.pt (q_or (q_tcmp R (q_callV (i := 3) R .len rfl Z.n_len rfl (by first | exact .inl rfl | exact .inr (.inl rfl) | exact .inr (.inr rfl))) (q_callT R .int rfl Z.n_int (q_cons (q_var (i := 2) rfl (by first | exact .inl rfl | exact .inr (.inl rfl) | exact .inr (.inr rfl))) q_nil))) (q_or1 (q_not (q_tru R (q_callF R (ok_is_entry_any Z dg) rfl (q_cons (q_var (i := 4) rfl (by first | exact .inl rfl | exact .inr (.inl rfl) | exact .inr (.inr rfl))) q_nil))))))) (q_one (q_ret q_non)) q_snil) (q_one (q_ret (q_var (i := 4) rfl (by first | exact .inl rfl | exact .inr (.inl rfl) | exact .inr (.inr rfl))))))))))
omit Z dg in theorem sc_rows_from : FnScope ["tape", "entry", "found", "place"] ["tape"] (defScope (top 32)) := ⟨rfl, rfl, rfl, by decide +kernel, rfl, by decide +kernel, by decide +kernel⟩
theorem ok_rows_from : GF P w C mg base 4 "rows_from" (defArgs (top 32)) (defBody (top 32)) (defScope (top 32)) ["tape"] 1 run_rows_from :=
  GF.of (N := ["tape", "entry", "found", "place"]) (pin := []) (code := code_rows_from) Z.d_rows_from Z.g_rows_from sc_rows_from (fun _ _ _ _ _ _ us hl => match us, hl with | [_], _ => rfl) rfl dg fun cdv A outer s H E R =>
  (q_seq (q_par2 (i := 2) (j := 3) R rfl rfl rfl rfl (q_consO (q_lst q_nil) (q_consO (q_gint rfl Z.c_HEAD) q_nilO))) (q_seq (q_set (i := 1) R rfl (by first | exact .inl rfl | exact .inr rfl) (q_callF R (ok_entry_at Z dg) rfl (q_cons (q_var (i := 0) rfl (by first | exact .inl rfl | exact .inr (.inl rfl) | exact .inr (.inr rfl))) (q_cons (q_var (i := 3) rfl (by first | exact .inl rfl | exact .inr (.inl rfl) | exact .inr (.inr rfl))) q_nil)))) (q_seq (q_whl R 4000 (q_tcmp R (q_var (i := 1) rfl (by first | exact .inl rfl | exact .inr (.inl rfl) | exact .inr (.inr rfl))) q_non) (q_seq (q_app (i := 2) R rfl (by first | exact .inl rfl | exact .inr (.inl rfl) | exact .inr (.inr rfl)) (q_var (i := 1) rfl (by first | exact .inl rfl | exact .inr (.inl rfl) | exact .inr (.inr rfl)))) (q_seq (q_set (i := 3) R rfl (by first | exact .inl rfl | exact .inr rfl) (q_bin R (q_var (i := 3) rfl (by first | exact .inl rfl | exact .inr (.inl rfl) | exact .inr (.inr rfl))) (q_callB R .len rfl Z.n_len (q_cons (q_callF R (ok_row_told Z dg) rfl (q_cons (q_var (i := 1) rfl (by first | exact .inl rfl | exact .inr (.inl rfl) | exact .inr (.inr rfl))) q_nil)) q_nil)))) (q_one (q_set (i := 1) R rfl (by first | exact .inl rfl | exact .inr rfl) (q_callF R (ok_entry_at Z dg) rfl (q_cons (q_var (i := 0) rfl (by first | exact .inl rfl | exact .inr (.inl rfl) | exact .inr (.inr rfl))) (q_cons (q_var (i := 3) rfl (by first | exact .inl rfl | exact .inr (.inl rfl) | exact .inr (.inr rfl))) q_nil)))))))) (q_one (q_ret (q_tup (q_cons (q_var (i := 2) rfl (by first | exact .inl rfl | exact .inr (.inl rfl) | exact .inr (.inr rfl))) (q_cons (q_var (i := 3) rfl (by first | exact .inl rfl | exact .inr (.inl rfl) | exact .inr (.inr rfl))) q_nil))))))))
omit Z dg in theorem sc_behind_entry : FnScope ["fields", "entry", "word", "name", "late"] ["fields", "entry"] (defScope (top 33)) := ⟨rfl, rfl, rfl, by decide +kernel, rfl, by decide +kernel, by decide +kernel⟩
theorem ok_behind_entry : GF P w C mg base 1 "behind_entry" (defArgs (top 33)) (defBody (top 33)) (defScope (top 33)) ["fields", "entry"] 2 run_behind_entry :=
  GF.of (N := ["fields", "entry", "word", "name", "late"]) (pin := []) (code := code_behind_entry) Z.d_behind_entry Z.g_behind_entry sc_behind_entry (fun _ _ _ _ _ _ us hl => match us, hl with | [_, _], _ => rfl) rfl dg fun cdv A outer s H E R =>
  (q_seq (q_par3 (i := 2) (j := 3) (l := 4) R rfl rfl rfl rfl rfl rfl (q_consO (q_idxV (i := 1) R rfl (by first | exact .inl rfl | exact .inr (.inl rfl) | exact .inr (.inr rfl)) q_int) (q_consO (q_idxV (i := 1) R rfl (by first | exact .inl rfl | exact .inr (.inl rfl) | exact .inr (.inr rfl)) q_int) (q_consO (q_callT R .dict rfl Z.n_dict (q_cons (q_var (i := 0) rfl (by first | exact .inl rfl | exact .inr (.inl rfl) | exact .inr (.inr rfl))) q_nil)) q_nilO)))) (q_seq (q_ifS (q_tcmp R (q_var (i := 2) rfl (by first | exact .inl rfl | exact .inr (.inl rfl) | exact .inr (.inr rfl))) (q_gstr rfl Z.c_OPEN)) (q_seq (q_ifS (q_tcmpB R (q_var (i := 3) rfl (by first | exact .inl rfl | exact .inr (.inl rfl) | exact .inr (.inr rfl))) (q_bor (i := 4) rfl (by first | exact .inl rfl | exact .inr (.inl rfl) | exact .inr (.inr rfl)))) (q_one q_never) q_snil) (q_seq (q_put (i := 4) R rfl (by first | exact .inl rfl | exact .inr (.inl rfl) | exact .inr (.inr rfl)) (q_var (i := 3) rfl (by first | exact .inl rfl | exact .inr (.inl rfl) | exact .inr (.inr rfl))) (q_tup (q_cons (q_idxV (i := 1) R rfl (by first | exact .inl rfl | exact .inr (.inl rfl) | exact .inr (.inr rfl)) q_int) (q_cons (q_tup q_nil) q_nil)))) (q_one (q_ret (q_var (i := 4) rfl (by first | exact .inl rfl | exact .inr (.inl rfl) | exact .inr (.inr rfl))))))) q_snil) (q_seq (q_ifS (q_tcmpB R (q_var (i := 3) rfl (by first | exact .inl rfl | exact .inr (.inl rfl) | exact .inr (.inr rfl))) (q_bor (i := 4) rfl (by first | exact .inl rfl | exact .inr (.inl rfl) | exact .inr (.inr rfl)))) (q_one q_never) q_snil) (q_seq (q_ifS (q_tcmp R (q_var (i := 2) rfl (by first | exact .inl rfl | exact .inr (.inl rfl) | exact .inr (.inr rfl))) (q_gstr rfl Z.c_CALL)) (q_one (q_put (i := 4) R rfl (by first | exact .inl rfl | exact .inr (.inl rfl) | exact .inr (.inr rfl)) (q_var (i := 3) rfl (by first | exact .inl rfl | exact .inr (.inl rfl) | exact .inr (.inr rfl))) (q_tup (q_cons (q_idx R (q_idxV (i := 4) R rfl (by first | exact .inl rfl | exact .inr (.inl rfl) | exact .inr (.inr rfl)) (q_var (i := 3) rfl (by first | exact .inl rfl | exact .inr (.inl rfl) | exact .inr (.inr rfl)))) q_int) (q_cons (q_bin R (q_idx R (q_idxV (i := 4) R rfl (by first | exact .inl rfl | exact .inr (.inl rfl) | exact .inr (.inr rfl)) (q_var (i := 3) rfl (by first | exact .inl rfl | exact .inr (.inl rfl) | exact .inr (.inr rfl)))) q_int) (q_tup (q_cons (q_idxV (i := 1) R rfl (by first | exact .inl rfl | exact .inr (.inl rfl) | exact .inr (.inr rfl)) q_int) q_nil))) q_nil))))) (q_one (q_popK (i := 4) R rfl (by first | exact .inl rfl | exact .inr (.inl rfl) | exact .inr (.inr rfl)) (q_var (i := 3) rfl (by first | exact .inl rfl | exact .inr (.inl rfl) | exact .inr (.inr rfl)))))) (q_one (q_ret (q_var (i := 4) rfl (by first | exact .inl rfl | exact .inr (.inl rfl) | exact .inr (.inr rfl)))))))))
omit Z dg in theorem sc_behind_all : FnScope ["entries", "fields", "entry"] ["entries"] (defScope (top 34)) := ⟨rfl, rfl, rfl, by decide +kernel, rfl, by decide +kernel, by decide +kernel⟩
theorem ok_behind_all : GF P w C mg base 2 "behind_all" (defArgs (top 34)) (defBody (top 34)) (defScope (top 34)) ["entries"] 1 run_behind_all :=
  GF.of (N := ["entries", "fields", "entry"]) (pin := []) (code := code_behind_all) Z.d_behind_all Z.g_behind_all sc_behind_all (fun _ _ _ _ _ _ us hl => match us, hl with | [_], _ => rfl) rfl dg fun cdv A outer s H E R =>
  (q_seq (q_set (i := 1) R rfl (by first | exact .inl rfl | exact .inr rfl) q_dnew) (q_seq (q_for R (q_it R (q_var (i := 0) rfl (by first | exact .inl rfl | exact .inr (.inl rfl) | exact .inr (.inr rfl)))) (q_gname (i := 2) R.nd rfl (by first | exact .inl rfl | exact .inr rfl)) (q_seq (q_ifS (q_tcmp R (q_cmpB R (q_idxV (i := 2) R rfl (by first | exact .inl rfl | exact .inr (.inl rfl) | exact .inr (.inr rfl)) q_int) (q_bor (i := 1) rfl (by first | exact .inl rfl | exact .inr (.inl rfl) | exact .inr (.inr rfl)))) (q_cmp R (q_idxV (i := 2) R rfl (by first | exact .inl rfl | exact .inr (.inl rfl) | exact .inr (.inr rfl)) q_int) (q_gstr rfl Z.c_OPEN))) (q_one (q_ret q_non)) q_snil) (q_one (q_set (i := 1) R rfl (by first | exact .inl rfl | exact .inr rfl) (q_callF R (ok_behind_entry Z dg) rfl (q_cons (q_var (i := 1) rfl (by first | exact .inl rfl | exact .inr (.inl rfl) | exact .inr (.inr rfl))) (q_cons (q_var (i := 2) rfl (by first | exact .inl rfl | exact .inr (.inl rfl) | exact .inr (.inr rfl))) q_nil))))))) (q_one (q_ret (q_var (i := 1) rfl (by first | exact .inl rfl | exact .inr (.inl rfl) | exact .inr (.inr rfl)))))))
omit Z dg in theorem sc_listed : FnScope ["fields", "name", "drill", "calls"] ["fields"] (defScope (top 35)) := ⟨rfl, rfl, rfl, by decide +kernel, rfl, by decide +kernel, by decide +kernel⟩
theorem ok_listed : GF P w C mg base 1 "listed" (defArgs (top 35)) (defBody (top 35)) (defScope (top 35)) ["fields"] 1 run_listed :=
  GF.of (N := ["fields", "name", "drill", "calls"]) (pin := []) (code := code_listed) Z.d_listed Z.g_listed sc_listed (fun _ _ _ _ _ _ us hl => match us, hl with | [_], _ => rfl) rfl dg fun cdv A outer s H E R =>
  (q_one (q_ret (q_callB R .sorted rfl Z.n_sorted (q_cons (q_compI (i := 0) R [("name", 1), ("drill", 2), ("calls", 3)] rfl (by first | exact .inl rfl | exact .inr (.inl rfl) | exact .inr (.inr rfl)) rfl (by decide) (fun _ _ _ _ _ => (q_gtup (rm_blk R _ _ _ _ _) (q_gcons (q_gname (i := 1) (rm_blk R _ _ _ _ _).nd rfl (by first | exact .inl rfl | exact .inr rfl)) (q_gcons (q_gtup (rm_blk R _ _ _ _ _) (q_gcons (q_gname (i := 2) (rm_blk R _ _ _ _ _).nd rfl (by first | exact .inl rfl | exact .inr rfl)) (q_gcons (q_gname (i := 3) (rm_blk R _ _ _ _ _).nd rfl (by first | exact .inl rfl | exact .inr rfl)) q_gnil))) q_gnil)))) (fun _ _ _ _ _ => q_pts0) (fun _ _ _ _ _ => (q_tup (q_cons (q_var (i := 1) rfl (by first | exact .inl rfl | exact .inr (.inl rfl) | exact .inr (.inr rfl))) (q_cons (q_var (i := 2) rfl (by first | exact .inl rfl | exact .inr (.inl rfl) | exact .inr (.inr rfl))) (q_cons (q_var (i := 3) rfl (by first | exact .inl rfl | exact .inr (.inl rfl) | exact .inr (.inr rfl))) q_nil)))))) q_nil))))
omit Z dg in theorem sc_log_on : FnScope ["device", "which", "tape", "fields", "entries", "end"] ["device", "which"] (defScope (top 38)) := ⟨rfl, rfl, rfl, by decide +kernel, rfl, by decide +kernel, by decide +kernel⟩
theorem ok_log_on : GF P w C mg base 5 "log_on" (defArgs (top 38)) (defBody (top 38)) (defScope (top 38)) ["device", "which"] 2 run_log_on :=
  GF.of (N := ["device", "which", "tape", "fields", "entries", "end"]) (pin := []) (code := code_log_on) Z.d_log_on Z.g_log_on sc_log_on (fun _ _ _ _ _ _ us hl => match us, hl with | [_, _], _ => rfl) rfl dg fun cdv A outer s H E R =>
  (q_seq (q_set (i := 2) R rfl (by first | exact .inl rfl | exact .inr rfl) (q_idxV (i := 0) R rfl (by first | exact .inl rfl | exact .inr (.inl rfl) | exact .inr (.inr rfl)) (q_var (i := 1) rfl (by first | exact .inl rfl | exact .inr (.inl rfl) | exact .inr (.inr rfl))))) (q_seq (q_ifS (PW.pt (q_or (q_tcmp R (q_idxV (i := 2) R rfl (by first | exact .inl rfl | exact .inr (.inl rfl) | exact .inr (.inr rfl)) q_int) (q_gstr rfl Z.c_MARK)) (q_or1 (q_not (q_tru R (q_callF R (ok_are_figures Z dg) rfl (q_cons (q_slice R (q_var (i := 2) rfl (by first | exact .inl rfl | exact .inr (.inl rfl) | exact .inr (.inr rfl))) (q_part q_int) (q_part (q_gint rfl Z.c_HEAD))) q_nil))))))) (q_one (q_ret q_non)) q_snil) (q_seq (q_asg (q_callF R (ok_rows_from Z dg) rfl (q_cons (q_var (i := 2) rfl (by first | exact .inl rfl | exact .inr (.inl rfl) | exact .inr (.inr rfl))) q_nil)) (q_gtup R (q_gcons (q_gname (i := 4) R.nd rfl (by first | exact .inl rfl | exact .inr rfl)) (q_gcons (q_gname (i := 5) R.nd rfl (by first | exact .inl rfl | exact .inr rfl)) q_gnil)))) (q_seq (q_set (i := 3) R rfl (by first | exact .inl rfl | exact .inr rfl) (q_callF R (ok_behind_all Z dg) rfl (q_cons (q_var (i := 4) rfl (by first | exact .inl rfl | exact .inr (.inl rfl) | exact .inr (.inr rfl))) q_nil))) (q_seq (q_ifS (q_tcmp R (q_var (i := 3) rfl (by first | exact .inl rfl | exact .inr (.inl rfl) | exact .inr (.inr rfl))) q_non) (q_one (q_ret q_non)) q_snil) (q_one (q_ret (q_dsp [("tape", (evVar 1)), ("turn", (evCallB .int (evCons (evSlc (evVar 2) (evPart (evC (.int 1))) (evPart (evC (.int 10)))) evNil))), ("entries", (evVar 4)), ("end", (evVar 5)), ("fields", (evVar 3))] (pps_cons pe_str (q_D (q_var (i := 1) rfl (by first | exact .inl rfl | exact .inr (.inl rfl) | exact .inr (.inr rfl)))) (pps_cons pe_str (q_D (q_callT R .int rfl Z.n_int (q_cons (q_slice R (q_var (i := 2) rfl (by first | exact .inl rfl | exact .inr (.inl rfl) | exact .inr (.inr rfl))) (q_part q_int) (q_part (q_gint rfl Z.c_HEAD))) q_nil))) (pps_cons pe_str (q_D (q_var (i := 4) rfl (by first | exact .inl rfl | exact .inr (.inl rfl) | exact .inr (.inr rfl)))) (pps_cons pe_str (q_D (q_var (i := 5) rfl (by first | exact .inl rfl | exact .inr (.inl rfl) | exact .inr (.inr rfl)))) (pps_cons pe_str (q_D (q_var (i := 3) rfl (by first | exact .inl rfl | exact .inr (.inl rfl) | exact .inr (.inr rfl)))) pps_nil)))))))))))))
omit Z dg in theorem sc_read_store : FnScope ["device", "near", "far"] ["device"] (defScope (top 39)) := ⟨rfl, rfl, rfl, by decide +kernel, rfl, by decide +kernel, by decide +kernel⟩
theorem ok_read_store : GF P w C mg base 6 "read_store" (defArgs (top 39)) (defBody (top 39)) (defScope (top 39)) ["device"] 1 run_read_store :=
  GF.of (N := ["device", "near", "far"]) (pin := []) (code := code_read_store) Z.d_read_store Z.g_read_store sc_read_store (fun _ _ _ _ _ _ us hl => match us, hl with | [_], _ => rfl) rfl dg fun cdv A outer s H E R =>
  (q_seq (q_par2 (i := 1) (j := 2) R rfl rfl rfl rfl (q_consO (q_callF R (ok_log_on Z dg) rfl (q_cons (q_var (i := 0) rfl (by first | exact .inl rfl | exact .inr (.inl rfl) | exact .inr (.inr rfl))) (q_cons q_int q_nil))) (q_consO (q_callF R (ok_log_on Z dg) rfl (q_cons (q_var (i := 0) rfl (by first | exact .inl rfl | exact .inr (.inl rfl) | exact .inr (.inr rfl))) (q_cons q_int q_nil))) q_nilO))) (q_seq (q_ifS (PW.pt (q_or (q_tcmp R (q_var (i := 1) rfl (by first | exact .inl rfl | exact .inr (.inl rfl) | exact .inr (.inr rfl))) q_non) (q_or1 (q_tcmp R (q_var (i := 2) rfl (by first | exact .inl rfl | exact .inr (.inl rfl) | exact .inr (.inr rfl))) q_non)))) (q_one (q_ret (q_if (q_tcmp R (q_var (i := 1) rfl (by first | exact .inl rfl | exact .inr (.inl rfl) | exact .inr (.inr rfl))) q_non) (q_var (i := 2) rfl (by first | exact .inl rfl | exact .inr (.inl rfl) | exact .inr (.inr rfl))) (q_var (i := 1) rfl (by first | exact .inl rfl | exact .inr (.inl rfl) | exact .inr (.inr rfl)))))) q_snil) (q_one (q_ret (q_if (q_tcmp R (q_idxV (i := 2) R rfl (by first | exact .inl rfl | exact .inr (.inl rfl) | exact .inr (.inr rfl)) q_str) (q_idxV (i := 1) R rfl (by first | exact .inl rfl | exact .inr (.inl rfl) | exact .inr (.inr rfl)) q_str)) (q_var (i := 2) rfl (by first | exact .inl rfl | exact .inr (.inl rfl) | exact .inr (.inr rfl))) (q_var (i := 1) rfl (by first | exact .inl rfl | exact .inr (.inl rfl) | exact .inr (.inr rfl))))))))
omit Z dg in theorem sc_room_in : FnScope ["device", "told"] ["device", "told"] (defScope (top 40)) := ⟨rfl, rfl, rfl, by decide +kernel, rfl, by decide +kernel, by decide +kernel⟩
theorem ok_room_in : GF P w C mg base 1 "room_in" (defArgs (top 40)) (defBody (top 40)) (defScope (top 40)) ["device", "told"] 2 run_room_in :=
  GF.of (N := ["device", "told"]) (pin := []) (code := code_room_in) Z.d_room_in Z.g_room_in sc_room_in (fun _ _ _ _ _ _ us hl => match us, hl with | [_, _], _ => rfl) rfl dg fun cdv A outer s H E R =>
  (q_one (q_ret (q_bin R (q_callB R .len rfl Z.n_len (q_cons (q_idxV (i := 0) R rfl (by first | exact .inl rfl | exact .inr (.inl rfl) | exact .inr (.inr rfl)) q_int) q_nil)) (q_idxV (i := 1) R rfl (by first | exact .inl rfl | exact .inr (.inl rfl) | exact .inr (.inr rfl)) q_str))))
omit Z dg in theorem sc_want_store : FnScope ["store", "told"] ["store"] (defScope (top 41)) := ⟨rfl, rfl, rfl, by decide +kernel, rfl, by decide +kernel, by decide +kernel⟩
theorem ok_want_store : GF P w C mg base 7 "want_store" (defArgs (top 41)) (defBody (top 41)) (defScope (top 41)) ["store"] 1 run_want_store :=
  GF.of (N := ["store", "told"]) (pin := []) (code := code_want_store) Z.d_want_store Z.g_want_store sc_want_store (fun _ _ _ _ _ _ us hl => match us, hl with | [_], _ => rfl) rfl dg fun cdv A outer s H E R =>
  (q_seq (q_set (i := 1) R rfl (by first | exact .inl rfl | exact .inr rfl) (q_if (q_tru R (q_callF R (ok_is_device_any Z dg) rfl (q_cons (q_var (i := 0) rfl (by first | exact .inl rfl | exact .inr (.inl rfl) | exact .inr (.inr rfl))) q_nil))) (q_callF R (ok_read_store Z dg) rfl (q_cons (q_var (i := 0) rfl (by first | exact .inl rfl | exact .inr (.inl rfl) | exact .inr (.inr rfl))) q_nil)) q_non)) (q_seq (q_ifS (q_tcmp R (q_var (i := 1) rfl (by first | exact .inl rfl | exact .inr (.inl rfl) | exact .inr (.inr rfl))) q_non) (q_one q_never) q_snil) (q_one (q_ret (q_var (i := 1) rfl (by first | exact .inl rfl | exact .inr (.inl rfl) | exact .inr (.inr rfl)))))))
omit Z dg in theorem sc_new_store : FnScope ["many"] ["many"] (defScope (top 42)) := ⟨rfl, rfl, rfl, by decide +kernel, rfl, by decide +kernel, by decide +kernel⟩
theorem ok_new_store : GF P w C mg base 3 "new_store" (defArgs (top 42)) (defBody (top 42)) (defScope (top 42)) ["many"] 1 run_new_store :=
  GF.of (N := ["many"]) (pin := []) (code := code_new_store) Z.d_new_store Z.g_new_store sc_new_store (fun _ _ _ _ _ _ us hl => match us, hl with | [_], _ => rfl) rfl dg fun cdv A outer s H E R =>
  (q_seq (q_ifS (q_not (q_tru R (q_callF R (ok_is_within Z dg) rfl (q_cons (q_var (i := 0) rfl (by first | exact .inl rfl | exact .inr (.inl rfl) | exact .inr (.inr rfl))) (q_cons (q_gint rfl Z.c_LEAST_SIGNS) (q_cons (q_gint rfl Z.c_MOST_SIGNS) q_nil)))))) (q_one q_never) q_snil) (q_one (q_ret (q_tup (q_cons (q_bin R (q_bin R (q_gstr rfl Z.c_MARK) (q_bin R q_str (q_bin R (q_gint rfl Z.c_HEAD) q_int))) (q_bin R (q_gstr rfl Z.c_TILDE) (q_bin R (q_var (i := 0) rfl (by first | exact .inl rfl | exact .inr (.inl rfl) | exact .inr (.inr rfl))) (q_gint rfl Z.c_HEAD)))) (q_cons (q_bin R (q_gstr rfl Z.c_TILDE) (q_var (i := 0) rfl (by first | exact .inl rfl | exact .inr (.inl rfl) | exact .inr (.inr rfl)))) q_nil))))))
omit Z dg in theorem sc_is_store : FnScope ["value"] ["value"] (defScope (top 43)) := ⟨rfl, rfl, rfl, by decide +kernel, rfl, by decide +kernel, by decide +kernel⟩
theorem ok_is_store : GF P w C mg base 7 "is_store" (defArgs (top 43)) (defBody (top 43)) (defScope (top 43)) ["value"] 1 run_is_store :=
  GF.of (N := ["value"]) (pin := []) (code := code_is_store) Z.d_is_store Z.g_is_store sc_is_store (fun _ _ _ _ _ _ us hl => match us, hl with | [_], _ => rfl) rfl dg fun cdv A outer s H E R =>
  (q_one (q_ret (q_andV (q_callF R (ok_is_device_any Z dg) rfl (q_cons (q_var (i := 0) rfl (by first | exact .inl rfl | exact .inr (.inl rfl) | exact .inr (.inr rfl))) q_nil)) (q_oneV (q_cmp R (q_callF R (ok_read_store Z dg) rfl (q_cons (q_var (i := 0) rfl (by first | exact .inl rfl | exact .inr (.inl rfl) | exact .inr (.inr rfl))) q_nil)) q_non)))))
omit Z dg in theorem sc_kept : FnScope ["store"] ["store"] (defScope (top 44)) := ⟨rfl, rfl, rfl, by decide +kernel, rfl, by decide +kernel, by decide +kernel⟩
theorem ok_kept : GF P w C mg base 8 "kept" (defArgs (top 44)) (defBody (top 44)) (defScope (top 44)) ["store"] 1 run_kept :=
  GF.of (N := ["store"]) (pin := []) (code := code_kept) Z.d_kept Z.g_kept sc_kept (fun _ _ _ _ _ _ us hl => match us, hl with | [_], _ => rfl) rfl dg fun cdv A outer s H E R =>
  (q_one (q_ret (q_callF R (ok_listed Z dg) rfl (q_cons (q_idx R (q_callF R (ok_want_store Z dg) rfl (q_cons (q_var (i := 0) rfl (by first | exact .inl rfl | exact .inr (.inl rfl) | exact .inr (.inr rfl))) q_nil)) q_str) q_nil))))
omit Z dg in theorem sc_turn_of : FnScope ["store"] ["store"] (defScope (top 45)) := ⟨rfl, rfl, rfl, by decide +kernel, rfl, by decide +kernel, by decide +kernel⟩
theorem ok_turn_of : GF P w C mg base 8 "turn_of" (defArgs (top 45)) (defBody (top 45)) (defScope (top 45)) ["store"] 1 run_turn_of :=
  GF.of (N := ["store"]) (pin := []) (code := code_turn_of) Z.d_turn_of Z.g_turn_of sc_turn_of (fun _ _ _ _ _ _ us hl => match us, hl with | [_], _ => rfl) rfl dg fun cdv A outer s H E R =>
  (q_one (q_ret (q_idx R (q_callF R (ok_want_store Z dg) rfl (q_cons (q_var (i := 0) rfl (by first | exact .inl rfl | exact .inr (.inl rfl) | exact .inr (.inr rfl))) q_nil)) q_str)))
omit Z dg in theorem sc_room : FnScope ["store"] ["store"] (defScope (top 46)) := ⟨rfl, rfl, rfl, by decide +kernel, rfl, by decide +kernel, by decide +kernel⟩
theorem ok_room : GF P w C mg base 8 "room" (defArgs (top 46)) (defBody (top 46)) (defScope (top 46)) ["store"] 1 run_room :=
  GF.of (N := ["store"]) (pin := []) (code := code_room) Z.d_room Z.g_room sc_room (fun _ _ _ _ _ _ us hl => match us, hl with | [_], _ => rfl) rfl dg fun cdv A outer s H E R =>
  (q_one (q_ret (q_callF R (ok_room_in Z dg) rfl (q_cons (q_var (i := 0) rfl (by first | exact .inl rfl | exact .inr (.inl rfl) | exact .inr (.inr rfl))) (q_cons (q_callF R (ok_want_store Z dg) rfl (q_cons (q_var (i := 0) rfl (by first | exact .inl rfl | exact .inr (.inl rfl) | exact .inr (.inr rfl))) q_nil)) q_nil)))))
omit Z dg in theorem sc_entries_in : FnScope ["store"] ["store"] (defScope (top 47)) := ⟨rfl, rfl, rfl, by decide +kernel, rfl, by decide +kernel, by decide +kernel⟩
theorem ok_entries_in : GF P w C mg base 8 "entries_in" (defArgs (top 47)) (defBody (top 47)) (defScope (top 47)) ["store"] 1 run_entries_in :=
  GF.of (N := ["store"]) (pin := []) (code := code_entries_in) Z.d_entries_in Z.g_entries_in sc_entries_in (fun _ _ _ _ _ _ us hl => match us, hl with | [_], _ => rfl) rfl dg fun cdv A outer s H E R =>
  (q_one (q_ret (q_idx R (q_callF R (ok_want_store Z dg) rfl (q_cons (q_var (i := 0) rfl (by first | exact .inl rfl | exact .inr (.inl rfl) | exact .inr (.inr rfl))) q_nil)) q_str)))
omit Z dg in theorem sc__law_pot : FnScope ["script", "k", "cell", "one"] ["script", "k"] (defScope (top 49)) := ⟨rfl, rfl, rfl, by decide +kernel, rfl, by decide +kernel, by decide +kernel⟩
theorem ok__law_pot : GF P w C mg base 1 "_law_pot" (defArgs (top 49)) (defBody (top 49)) (defScope (top 49)) ["script", "k"] 2 run__law_pot :=
  GF.of (N := ["script", "k", "cell", "one"]) (pin := [0]) (code := code__law_pot) Z.d__law_pot Z.g__law_pot sc__law_pot (fun _ _ _ _ _ _ us hl => match us, hl with | [_, _], _ => rfl) rfl dg fun cdv A outer s H E R =>
  (q_seq (q_set (i := 2) R rfl (by first | exact .inl rfl | exact .inr rfl) (q_if (q_tcmp R (q_var (i := 1) rfl (by first | exact .inl rfl | exact .inr (.inl rfl) | exact .inr (.inr rfl))) (q_scrLen (i := 0) R rfl Z.n_len rfl (by first | exact .inl rfl | exact .inr (.inl rfl) | exact .inr (.inr rfl)))) (q_callB R .abs rfl Z.n_abs (q_cons (q_scrIdx (i := 0) R rfl (by first | exact .inl rfl | exact .inr (.inl rfl) | exact .inr (.inr rfl)) (q_var (i := 1) rfl (by first | exact .inl rfl | exact .inr (.inl rfl) | exact .inr (.inr rfl)))) q_nil)) (q_bin R (q_bin R (q_bin R q_int (q_var (i := 1) rfl (by first | exact .inl rfl | exact .inr (.inl rfl) | exact .inr (.inr rfl)))) q_int) (q_callT R .int rfl Z.n_int (q_cons (q_bin R (q_callB R .sum rfl Z.n_sum (q_cons (q_comp R [("one", 3)] (q_itScr (i := 0) R rfl (by first | exact .inl rfl | exact .inr (.inl rfl) | exact .inr (.inr rfl))) rfl (by decide) (fun _ _ _ _ _ => (q_gname (i := 3) (rm_blk R _ _ _ _ _).nd rfl (by first | exact .inl rfl | exact .inr rfl))) (fun _ _ _ _ _ => q_pts0) (fun _ _ _ _ _ => (q_callB (rm_blk R _ _ _ _ _) .abs rfl Z.n_abs (q_cons (q_var (i := 3) rfl (by first | exact .inl rfl | exact .inr (.inl rfl) | exact .inr (.inr rfl))) q_nil)))) q_nil)) q_int) q_nil))))) (q_one (q_ret (q_lst (q_cons (q_callB R .max2 rfl Z.n_max (q_cons q_int (q_cons (q_bin R (q_var (i := 2) rfl (by first | exact .inl rfl | exact .inr (.inl rfl) | exact .inr (.inr rfl))) (q_bin R q_int q_int)) q_nil))) (q_cons (q_bin R (q_bin R (q_callT R .int rfl Z.n_int (q_cons (q_bin R (q_bin R (q_bin R (q_bin R (q_callT R .int rfl Z.n_int (q_cons (q_var (i := 2) rfl (by first | exact .inl rfl | exact .inr (.inl rfl) | exact .inr (.inr rfl))) q_nil)) q_int) q_int) (q_bin R q_int (q_var (i := 1) rfl (by first | exact .inl rfl | exact .inr (.inl rfl) | exact .inr (.inr rfl))))) q_int) q_nil)) q_int) q_int) q_nil))))))
omit Z dg in theorem sc__law_draw : FnScope ["pot", "many", "digit"] ["pot", "many"] (defScope (top 50)) := ⟨rfl, rfl, rfl, by decide +kernel, rfl, by decide +kernel, by decide +kernel⟩
theorem ok__law_draw : GF P w C mg base 1 "_law_draw" (defArgs (top 50)) (defBody (top 50)) (defScope (top 50)) ["pot", "many"] 2 run__law_draw :=
  GF.of (N := ["pot", "many", "digit"]) (pin := [0]) (code := code__law_draw) Z.d__law_draw Z.g__law_draw sc__law_draw (fun _ _ _ _ _ _ us hl => match us, hl with | [_, _], _ => rfl) rfl dg fun cdv A outer s H E R =>
  (q_seq (q_ifS (q_tcmp R (q_idxV (i := 0) R rfl (by first | exact .inl rfl | exact .inr (.inl rfl) | exact .inr (.inr rfl)) q_int) q_int) (q_seq (q_asg (q_callB R .divmod rfl Z.n_divmod (q_cons (q_idxV (i := 0) R rfl (by first | exact .inl rfl | exact .inr (.inl rfl) | exact .inr (.inr rfl)) q_int) (q_cons (q_var (i := 1) rfl (by first | exact .inl rfl | exact .inr (.inl rfl) | exact .inr (.inr rfl))) q_nil))) (q_gtup R (q_gcons (q_gput (i := 0) R rfl (by first | exact .inl rfl | exact .inr (.inl rfl) | exact .inr (.inr rfl)) q_int) (q_gcons (q_gname (i := 2) R.nd rfl (by first | exact .inl rfl | exact .inr rfl)) q_gnil)))) (q_one (q_ret (q_var (i := 2) rfl (by first | exact .inl rfl | exact .inr (.inl rfl) | exact .inr (.inr rfl)))))) q_snil) (q_seq (q_put (i := 0) R rfl (by first | exact .inl rfl | exact .inr (.inl rfl) | exact .inr (.inr rfl)) q_int (q_bin R (q_callT R .int rfl Z.n_int (q_cons (q_bin R (q_bin R (q_idxV (i := 0) R rfl (by first | exact .inl rfl | exact .inr (.inl rfl) | exact .inr (.inr rfl)) q_int) q_int) q_int) q_nil)) q_int)) (q_one (q_ret (q_bin R (q_callT R .int rfl Z.n_int (q_cons (q_bin R (q_bin R (q_callT R .int rfl Z.n_int (q_cons (q_bin R (q_idxV (i := 0) R rfl (by first | exact .inl rfl | exact .inr (.inl rfl) | exact .inr (.inr rfl)) q_int) (q_idxV (i := 0) R rfl (by first | exact .inl rfl | exact .inr (.inl rfl) | exact .inr (.inr rfl)) q_int)) q_nil)) q_int) q_int) q_nil)) (q_var (i := 1) rfl (by first | exact .inl rfl | exact .inr (.inl rfl) | exact .inr (.inr rfl))))))))
omit Z dg in theorem sc__law_pick : FnScope ["pot", "some"] ["pot", "some"] (defScope (top 51)) := ⟨rfl, rfl, rfl, by decide +kernel, rfl, by decide +kernel, by decide +kernel⟩
theorem ok__law_pick : GF P w C mg base 2 "_law_pick" (defArgs (top 51)) (defBody (top 51)) (defScope (top 51)) ["pot", "some"] 2 run__law_pick :=
  GF.of (N := ["pot", "some"]) (pin := [0]) (code := code__law_pick) Z.d__law_pick Z.g__law_pick sc__law_pick (fun _ _ _ _ _ _ us hl => match us, hl with | [_, _], _ => rfl) rfl dg fun cdv A outer s H E R =>
  (q_one (q_ret (q_idxV (i := 1) R rfl (by first | exact .inl rfl | exact .inr (.inl rfl) | exact .inr (.inr rfl)) (q_callGF R (ok__law_draw Z dg) rfl (q_agV (i := 0) rfl (by first | exact .inl rfl | exact .inr (.inl rfl) | exact .inr (.inr rfl)) (q_agD (q_callV (i := 1) R .len rfl Z.n_len rfl (by first | exact .inl rfl | exact .inr (.inl rfl) | exact .inr (.inr rfl))) q_agN))))))
omit Z dg in theorem sc__law_is_name : FnScope ["value", "sign"] ["value"] (defScope (top 52)) := ⟨rfl, rfl, rfl, by decide +kernel, rfl, by decide +kernel, by decide +kernel⟩
theorem ok__law_is_name : GF P w C mg base 1 "_law_is_name" (defArgs (top 52)) (defBody (top 52)) (defScope (top 52)) ["value"] 1 run__law_is_name :=
  GF.of (N := ["value", "sign"]) (pin := []) (code := code__law_is_name) Z.d__law_is_name Z.g__law_is_name sc__law_is_name (fun _ _ _ _ _ _ us hl => match us, hl with | [_], _ => rfl) rfl dg fun cdv A outer s H E R =>
  (q_one (q_ret (q_andV (q_isi R .str rfl Z.n_isinstance rfl Z.n_str (q_var (i := 0) rfl (by first | exact .inl rfl | exact .inr (.inl rfl) | exact .inr (.inr rfl)))) (q_andV (q_chn R q_int (q_callV (i := 0) R .len rfl Z.n_len rfl (by first | exact .inl rfl | exact .inr (.inl rfl) | exact .inr (.inr rfl))) q_int) (q_oneV (q_callB R .all rfl Z.n_all (q_cons (q_comp R [("sign", 1)] (q_it R (q_var (i := 0) rfl (by first | exact .inl rfl | exact .inr (.inl rfl) | exact .inr (.inr rfl)))) rfl (by decide) (fun _ _ _ _ _ => (q_gname (i := 1) (rm_blk R _ _ _ _ _).nd rfl (by first | exact .inl rfl | exact .inr rfl))) (fun _ _ _ _ _ => q_pts0) (fun _ _ _ _ _ => (q_chn (rm_blk R _ _ _ _ _) q_str (q_var (i := 1) rfl (by first | exact .inl rfl | exact .inr (.inl rfl) | exact .inr (.inr rfl))) q_str))) q_nil)))))))
omit Z dg in theorem sc__law_is_signs : FnScope ["value", "sign"] ["value"] (defScope (top 53)) := ⟨rfl, rfl, rfl, by decide +kernel, rfl, by decide +kernel, by decide +kernel⟩
theorem ok__law_is_signs : GF P w C mg base 1 "_law_is_signs" (defArgs (top 53)) (defBody (top 53)) (defScope (top 53)) ["value"] 1 run__law_is_signs :=
  GF.of (N := ["value", "sign"]) (pin := []) (code := code__law_is_signs) Z.d__law_is_signs Z.g__law_is_signs sc__law_is_signs (fun _ _ _ _ _ _ us hl => match us, hl with | [_], _ => rfl) rfl dg fun cdv A outer s H E R =>
  (q_one (q_ret (q_andV (q_isi R .str rfl Z.n_isinstance rfl Z.n_str (q_var (i := 0) rfl (by first | exact .inl rfl | exact .inr (.inl rfl) | exact .inr (.inr rfl)))) (q_oneV (q_callB R .all rfl Z.n_all (q_cons (q_comp R [("sign", 1)] (q_it R (q_var (i := 0) rfl (by first | exact .inl rfl | exact .inr (.inl rfl) | exact .inr (.inr rfl)))) rfl (by decide) (fun _ _ _ _ _ => (q_gname (i := 1) (rm_blk R _ _ _ _ _).nd rfl (by first | exact .inl rfl | exact .inr rfl))) (fun _ _ _ _ _ => q_pts0) (fun _ _ _ _ _ => (q_chn (rm_blk R _ _ _ _ _) q_str (q_var (i := 1) rfl (by first | exact .inl rfl | exact .inr (.inl rfl) | exact .inr (.inr rfl))) q_str))) q_nil))))))
omit Z dg in theorem sc__law_is_entry : FnScope ["value"] ["value"] (defScope (top 54)) := ⟨rfl, rfl, rfl, by decide +kernel, rfl, by decide +kernel, by decide +kernel⟩
theorem ok__law_is_entry : GF P w C mg base 2 "_law_is_entry" (defArgs (top 54)) (defBody (top 54)) (defScope (top 54)) ["value"] 1 run__law_is_entry :=
  GF.of (N := ["value"]) (pin := []) (code := code__law_is_entry) Z.d__law_is_entry Z.g__law_is_entry sc__law_is_entry (fun _ _ _ _ _ _ us hl => match us, hl with | [_], _ => rfl) rfl dg fun cdv A outer s H E R =>
  (q_seq (q_ifS (PW.pt (q_or (q_not (q_tru R (q_isi R .tuple rfl Z.n_isinstance rfl Z.n_tuple (q_var (i := 0) rfl (by first | exact .inl rfl | exact .inr (.inl rfl) | exact .inr (.inr rfl)))))) (q_or (q_tcmp R (q_callV (i := 0) R .len rfl Z.n_len rfl (by first | exact .inl rfl | exact .inr (.inl rfl) | exact .inr (.inr rfl))) (q_tup (q_cons q_int (q_cons q_int q_nil)))) (q_or (q_not (q_tru R (q_isi R .str rfl Z.n_isinstance rfl Z.n_str (q_idxV (i := 0) R rfl (by first | exact .inl rfl | exact .inr (.inl rfl) | exact .inr (.inr rfl)) q_int)))) (q_or1 (q_not (q_tru R (q_callF R (ok__law_is_name Z dg) rfl (q_cons (q_idxV (i := 0) R rfl (by first | exact .inl rfl | exact .inr (.inl rfl) | exact .inr (.inr rfl)) q_int) q_nil))))))))) (q_one (q_ret q_bl)) q_snil) (q_seq (q_ifS (PW.pt (q_or (q_tcmp R (q_callV (i := 0) R .len rfl Z.n_len rfl (by first | exact .inl rfl | exact .inr (.inl rfl) | exact .inr (.inr rfl))) q_int) (q_or1 (q_tcmp R (q_idxV (i := 0) R rfl (by first | exact .inl rfl | exact .inr (.inl rfl) | exact .inr (.inr rfl)) q_int) (q_tup (q_cons q_str (q_cons q_str q_nil))))))) (q_one (q_ret (q_andV (q_cmp R (q_callV (i := 0) R .len rfl Z.n_len rfl (by first | exact .inl rfl | exact .inr (.inl rfl) | exact .inr (.inr rfl))) q_int) (q_oneV (q_cmp R (q_idxV (i := 0) R rfl (by first | exact .inl rfl | exact .inr (.inl rfl) | exact .inr (.inr rfl)) q_int) q_str))))) q_snil) (q_one (q_ret (q_if (q_tcmp R (q_idxV (i := 0) R rfl (by first | exact .inl rfl | exact .inr (.inl rfl) | exact .inr (.inr rfl)) q_int) q_str) (q_callF R (ok__law_is_name Z dg) rfl (q_cons (q_idxV (i := 0) R rfl (by first | exact .inl rfl | exact .inr (.inl rfl) | exact .inr (.inr rfl)) q_int) q_nil)) (q_andV (q_callF R (ok__law_is_signs Z dg) rfl (q_cons (q_idxV (i := 0) R rfl (by first | exact .inl rfl | exact .inr (.inl rfl) | exact .inr (.inr rfl)) q_int) q_nil)) (q_oneV (q_cmp R (q_callB R .len rfl Z.n_len (q_cons (q_idxV (i := 0) R rfl (by first | exact .inl rfl | exact .inr (.inl rfl) | exact .inr (.inr rfl)) q_int) q_nil)) q_int))))))))
omit Z dg in theorem sc__law_row : FnScope ["entry", "body", "part"] ["entry"] (defScope (top 55)) := ⟨rfl, rfl, rfl, by decide +kernel, rfl, by decide +kernel, by decide +kernel⟩
theorem ok__law_row : GF P w C mg base 1 "_law_row" (defArgs (top 55)) (defBody (top 55)) (defScope (top 55)) ["entry"] 1 run__law_row :=
  GF.of (N := ["entry", "body", "part"]) (pin := []) (code := code__law_row) Z.d__law_row Z.g__law_row sc__law_row (fun _ _ _ _ _ _ us hl => match us, hl with | [_], _ => rfl) rfl dg fun cdv A outer s H E R =>
  (q_seq (q_set (i := 1) R rfl (by first | exact .inl rfl | exact .inr rfl) (q_idxV (i := 0) R rfl (by first | exact .inl rfl | exact .inr (.inl rfl) | exact .inr (.inr rfl)) q_int)) (q_seq (q_for R (q_it R (q_slice R (q_var (i := 0) rfl (by first | exact .inl rfl | exact .inr (.inl rfl) | exact .inr (.inr rfl))) (q_part q_int) q_noPart)) (q_gname (i := 2) R.nd rfl (by first | exact .inl rfl | exact .inr rfl)) (q_one (q_set (i := 1) R rfl (by first | exact .inl rfl | exact .inr rfl) (q_bin R (q_bin R (q_var (i := 1) rfl (by first | exact .inl rfl | exact .inr (.inl rfl) | exact .inr (.inr rfl))) q_str) (q_var (i := 2) rfl (by first | exact .inl rfl | exact .inr (.inl rfl) | exact .inr (.inr rfl))))))) (q_one (q_ret (q_bin R (q_bin R q_str (q_mth R .zfill (q_callT R .str rfl Z.n_str (q_cons (q_callV (i := 1) R .len rfl Z.n_len rfl (by first | exact .inl rfl | exact .inr (.inl rfl) | exact .inr (.inr rfl))) q_nil)) (q_cons q_int q_nil))) (q_var (i := 1) rfl (by first | exact .inl rfl | exact .inr (.inl rfl) | exact .inr (.inr rfl))))))))
omit Z dg in theorem sc__law_bar : FnScope ["fields", "entry"] ["fields", "entry"] (defScope (top 56)) := ⟨rfl, rfl, rfl, by decide +kernel, rfl, by decide +kernel, by decide +kernel⟩
theorem ok__law_bar : GF P w C mg base 1 "_law_bar" (defArgs (top 56)) (defBody (top 56)) (defScope (top 56)) ["fields", "entry"] 2 run__law_bar :=
  GF.of (N := ["fields", "entry"]) (pin := []) (code := code__law_bar) Z.d__law_bar Z.g__law_bar sc__law_bar (fun _ _ _ _ _ _ us hl => match us, hl with | [_, _], _ => rfl) rfl dg fun cdv A outer s H E R =>
  (q_seq (q_ifS (q_tcmp R (q_idxV (i := 1) R rfl (by first | exact .inl rfl | exact .inr (.inl rfl) | exact .inr (.inr rfl)) q_int) q_str) (q_one (q_ret (q_if (q_tcmpB R (q_idxV (i := 1) R rfl (by first | exact .inl rfl | exact .inr (.inl rfl) | exact .inr (.inr rfl)) q_int) (q_bor (i := 0) rfl (by first | exact .inl rfl | exact .inr (.inl rfl) | exact .inr (.inr rfl)))) (q_lst (q_cons q_str (q_cons (q_idxV (i := 1) R rfl (by first | exact .inl rfl | exact .inr (.inl rfl) | exact .inr (.inr rfl)) q_int) q_nil))) q_non))) q_snil) (q_one (q_ret (q_if (q_tcmpB R (q_idxV (i := 1) R rfl (by first | exact .inl rfl | exact .inr (.inl rfl) | exact .inr (.inr rfl)) q_int) (q_bor (i := 0) rfl (by first | exact .inl rfl | exact .inr (.inl rfl) | exact .inr (.inr rfl)))) q_non (q_lst (q_cons q_str (q_cons (q_idxV (i := 1) R rfl (by first | exact .inl rfl | exact .inr (.inl rfl) | exact .inr (.inr rfl)) q_int) q_nil)))))))
omit Z dg in theorem sc__law_behind : FnScope ["fields", "entry", "late", "word", "name"] ["fields", "entry"] (defScope (top 57)) := ⟨rfl, rfl, rfl, by decide +kernel, rfl, by decide +kernel, by decide +kernel⟩
theorem ok__law_behind : GF P w C mg base 1 "_law_behind" (defArgs (top 57)) (defBody (top 57)) (defScope (top 57)) ["fields", "entry"] 2 run__law_behind :=
  GF.of (N := ["fields", "entry", "late", "word", "name"]) (pin := []) (code := code__law_behind) Z.d__law_behind Z.g__law_behind sc__law_behind (fun _ _ _ _ _ _ us hl => match us, hl with | [_, _], _ => rfl) rfl dg fun cdv A outer s H E R =>
  (q_seq (q_par3 (i := 2) (j := 3) (l := 4) R rfl rfl rfl rfl rfl rfl (q_consO (q_callT R .dict rfl Z.n_dict (q_cons (q_var (i := 0) rfl (by first | exact .inl rfl | exact .inr (.inl rfl) | exact .inr (.inr rfl))) q_nil)) (q_consO (q_idxV (i := 1) R rfl (by first | exact .inl rfl | exact .inr (.inl rfl) | exact .inr (.inr rfl)) q_int) (q_consO (q_idxV (i := 1) R rfl (by first | exact .inl rfl | exact .inr (.inl rfl) | exact .inr (.inr rfl)) q_int) q_nilO)))) (q_seq (q_ifS (q_tcmp R (q_var (i := 3) rfl (by first | exact .inl rfl | exact .inr (.inl rfl) | exact .inr (.inr rfl))) q_str) (q_one (q_put (i := 2) R rfl (by first | exact .inl rfl | exact .inr (.inl rfl) | exact .inr (.inr rfl)) (q_var (i := 4) rfl (by first | exact .inl rfl | exact .inr (.inl rfl) | exact .inr (.inr rfl))) (q_tup (q_cons (q_idxV (i := 1) R rfl (by first | exact .inl rfl | exact .inr (.inl rfl) | exact .inr (.inr rfl)) q_int) (q_cons (q_tup q_nil) q_nil))))) (q_one (q_ifS (q_tcmp R (q_var (i := 3) rfl (by first | exact .inl rfl | exact .inr (.inl rfl) | exact .inr (.inr rfl))) q_str) (q_one (q_put (i := 2) R rfl (by first | exact .inl rfl | exact .inr (.inl rfl) | exact .inr (.inr rfl)) (q_var (i := 4) rfl (by first | exact .inl rfl | exact .inr (.inl rfl) | exact .inr (.inr rfl))) (q_tup (q_cons (q_idx R (q_idxV (i := 2) R rfl (by first | exact .inl rfl | exact .inr (.inl rfl) | exact .inr (.inr rfl)) (q_var (i := 4) rfl (by first | exact .inl rfl | exact .inr (.inl rfl) | exact .inr (.inr rfl)))) q_int) (q_cons (q_bin R (q_idx R (q_idxV (i := 2) R rfl (by first | exact .inl rfl | exact .inr (.inl rfl) | exact .inr (.inr rfl)) (q_var (i := 4) rfl (by first | exact .inl rfl | exact .inr (.inl rfl) | exact .inr (.inr rfl)))) q_int) (q_tup (q_cons (q_idxV (i := 1) R rfl (by first | exact .inl rfl | exact .inr (.inl rfl) | exact .inr (.inr rfl)) q_int) q_nil))) q_nil))))) (q_one (q_popK (i := 2) R rfl (by first | exact .inl rfl | exact .inr (.inl rfl) | exact .inr (.inr rfl)) (q_var (i := 4) rfl (by first | exact .inl rfl | exact .inr (.inl rfl) | exact .inr (.inr rfl)))))))) (q_one (q_ret (q_var (i := 2) rfl (by first | exact .inl rfl | exact .inr (.inl rfl) | exact .inr (.inr rfl)))))))
omit Z dg in theorem sc__law_listed : FnScope ["fields", "name", "row"] ["fields"] (defScope (top 58)) := ⟨rfl, rfl, rfl, by decide +kernel, rfl, by decide +kernel, by decide +kernel⟩
theorem ok__law_listed : GF P w C mg base 1 "_law_listed" (defArgs (top 58)) (defBody (top 58)) (defScope (top 58)) ["fields"] 1 run__law_listed :=
  GF.of (N := ["fields", "name", "row"]) (pin := []) (code := code__law_listed) Z.d__law_listed Z.g__law_listed sc__law_listed (fun _ _ _ _ _ _ us hl => match us, hl with | [_], _ => rfl) rfl dg fun cdv A outer s H E R =>
  (q_one (q_ret (q_callB R .sorted rfl Z.n_sorted (q_cons (q_compI (i := 0) R [("name", 1), ("row", 2)] rfl (by first | exact .inl rfl | exact .inr (.inl rfl) | exact .inr (.inr rfl)) rfl (by decide) (fun _ _ _ _ _ => (q_gtup (rm_blk R _ _ _ _ _) (q_gcons (q_gname (i := 1) (rm_blk R _ _ _ _ _).nd rfl (by first | exact .inl rfl | exact .inr rfl)) (q_gcons (q_gname (i := 2) (rm_blk R _ _ _ _ _).nd rfl (by first | exact .inl rfl | exact .inr rfl)) q_gnil)))) (fun _ _ _ _ _ => q_pts0) (fun _ _ _ _ _ => (q_tup (q_cons (q_var (i := 1) rfl (by first | exact .inl rfl | exact .inr (.inl rfl) | exact .inr (.inr rfl))) (q_cons (q_idxV (i := 2) (rm_blk R _ _ _ _ _) rfl (by first | exact .inl rfl | exact .inr (.inl rfl) | exact .inr (.inr rfl)) q_int) (q_cons (q_idxV (i := 2) (rm_blk R _ _ _ _ _) rfl (by first | exact .inl rfl | exact .inr (.inl rfl) | exact .inr (.inr rfl)) q_int) q_nil)))))) q_nil))))
omit Z dg in theorem sc__law_row_in : FnScope ["tape", "place", "size", "body", "parts", "entry", "sign"] ["tape", "place"] (defScope (top 59)) := ⟨rfl, rfl, rfl, by decide +kernel, rfl, by decide +kernel, by decide +kernel⟩
theorem ok__law_row_in : GF P w C mg base 3 "_law_row_in" (defArgs (top 59)) (defBody (top 59)) (defScope (top 59)) ["tape", "place"] 2 run__law_row_in :=
  GF.of (N := ["tape", "place", "size", "body", "parts", "entry", "sign"]) (pin := []) (code := code__law_row_in) Z.d__law_row_in Z.g__law_row_in sc__law_row_in (fun _ _ _ _ _ _ us hl => match us, hl with | [_, _], _ => rfl) rfl dg fun cdv A outer s H E R =>
  (q_seq (q_set (i := 2) R rfl (by first | exact .inl rfl | exact .inr rfl) (q_slice R (q_var (i := 0) rfl (by first | exact .inl rfl | exact .inr (.inl rfl) | exact .inr (.inr rfl))) (q_part (q_bin R (q_var (i := 1) rfl (by first | exact .inl rfl | exact .inr (.inl rfl) | exact .inr (.inr rfl))) q_int)) (q_part (q_bin R (q_var (i := 1) rfl (by first | exact .inl rfl | exact .inr (.inl rfl) | exact .inr (.inr rfl))) q_int)))) (q_seq (q_ifS (PW.pt (q_or (q_tcmp R (q_slice R (q_var (i := 0) rfl (by first | exact .inl rfl | exact .inr (.inl rfl) | exact .inr (.inr rfl))) (q_part (q_var (i := 1) rfl (by first | exact .inl rfl | exact .inr (.inl rfl) | exact .inr (.inr rfl)))) (q_part (q_bin R (q_var (i := 1) rfl (by first | exact .inl rfl | exact .inr (.inl rfl) | exact .inr (.inr rfl))) q_int))) q_str) (q_or (q_tcmp R (q_callV (i := 2) R .len rfl Z.n_len rfl (by first | exact .inl rfl | exact .inr (.inl rfl) | exact .inr (.inr rfl))) q_int) (q_or1 (q_not (q_tru R (q_callB R .all rfl Z.n_all (q_cons (q_comp R [("sign", 6)] (q_it R (q_var (i := 2) rfl (by first | exact .inl rfl | exact .inr (.inl rfl) | exact .inr (.inr rfl)))) rfl (by decide) (fun _ _ _ _ _ => (q_gname (i := 6) (rm_blk R _ _ _ _ _).nd rfl (by first | exact .inl rfl | exact .inr rfl))) (fun _ _ _ _ _ => q_pts0) (fun _ _ _ _ _ => (q_chn (rm_blk R _ _ _ _ _) q_str (q_var (i := 6) rfl (by first | exact .inl rfl | exact .inr (.inl rfl) | exact .inr (.inr rfl))) q_str))) q_nil)))))))) (q_one (q_ret q_non)) q_snil) (q_seq (q_set (i := 3) R rfl (by first | exact .inl rfl | exact .inr rfl) (q_slice R (q_var (i := 0) rfl (by first | exact .inl rfl | exact .inr (.inl rfl) | exact .inr (.inr rfl))) (q_part (q_bin R (q_var (i := 1) rfl (by first | exact .inl rfl | exact .inr (.inl rfl) | exact .inr (.inr rfl))) q_int)) (q_part (q_bin R (q_bin R (q_var (i := 1) rfl (by first | exact .inl rfl | exact .inr (.inl rfl) | exact .inr (.inr rfl))) q_int) (q_callT R .int rfl Z.n_int (q_cons (q_var (i := 2) rfl (by first | exact .inl rfl | exact .inr (.inl rfl) | exact .inr (.inr rfl))) q_nil)))))) (q_seq (q_set (i := 4) R rfl (by first | exact .inl rfl | exact .inr rfl) (q_mth R .split (q_var (i := 3) rfl (by first | exact .inl rfl | exact .inr (.inl rfl) | exact .inr (.inr rfl))) (q_cons q_str q_nil))) (q_seq (q_set (i := 5) R rfl (by first | exact .inl rfl | exact .inr rfl) (q_if (q_tcmp R (q_callV (i := 4) R .len rfl Z.n_len rfl (by first | exact .inl rfl | exact .inr (.inl rfl) | exact .inr (.inr rfl))) q_int) (q_tup (q_cons (q_idxV (i := 4) R rfl (by first | exact .inl rfl | exact .inr (.inl rfl) | exact .inr (.inr rfl)) q_int) (q_cons (q_idxV (i := 4) R rfl (by first | exact .inl rfl | exact .inr (.inl rfl) | exact .inr (.inr rfl)) q_int) (q_cons (q_mth R .join q_str (q_cons (q_slice R (q_var (i := 4) rfl (by first | exact .inl rfl | exact .inr (.inl rfl) | exact .inr (.inr rfl))) (q_part q_int) q_noPart) q_nil)) q_nil)))) (q_callT R .tuple rfl Z.n_tuple (q_cons (q_var (i := 4) rfl (by first | exact .inl rfl | exact .inr (.inl rfl) | exact .inr (.inr rfl))) q_nil)))) (q_one (q_ret (q_if (PW.pt (q_and (q_tcmp R (q_callV (i := 3) R .len rfl Z.n_len rfl (by first | exact .inl rfl | exact .inr (.inl rfl) | exact .inr (.inr rfl))) (q_callT R .int rfl Z.n_int (q_cons (q_var (i := 2) rfl (by first | exact .inl rfl | exact .inr (.inl rfl) | exact .inr (.inr rfl))) q_nil))) (q_and1 (q_tru R (q_callF R (ok__law_is_entry Z dg) rfl (q_cons (q_var (i := 5) rfl (by first | exact .inl rfl | exact .inr (.inl rfl) | exact .inr (.inr rfl))) q_nil)))))) (q_tup (q_cons (q_var (i := 5) rfl (by first | exact .inl rfl | exact .inr (.inl rfl) | exact .inr (.inr rfl))) (q_cons (q_bin R q_int (q_callT R .int rfl Z.n_int (q_cons (q_var (i := 2) rfl (by first | exact .inl rfl | exact .inr (.inl rfl) | exact .inr (.inr rfl))) q_nil))) q_nil))) q_non))))))))
omit Z dg in theorem sc__law_log : FnScope ["tape", "row", "turn", "entries", "place", "fields", "sign"] ["tape"] (defScope (top 60)) := ⟨rfl, rfl, rfl, by decide +kernel, rfl, by decide +kernel, by decide +kernel⟩
theorem ok__law_log : GF P w C mg base 4 "_law_log" (defArgs (top 60)) (defBody (top 60)) (defScope (top 60)) ["tape"] 1 run__law_log :=
  GF.of (N := ["tape", "row", "turn", "entries", "place", "fields", "sign"]) (pin := []) (code := code__law_log) Z.d__law_log Z.g__law_log sc__law_log (fun _ _ _ _ _ _ us hl => match us, hl with | [_], _ => rfl) rfl dg fun cdv A outer s H E R =>
  (q_seq (q_ifS (PW.pt (q_or (q_tcmp R (q_idxV (i := 0) R rfl (by first | exact .inl rfl | exact .inr (.inl rfl) | exact .inr (.inr rfl)) q_int) q_str) (q_or1 (q_not (q_tru R (q_callB R .all rfl Z.n_all (q_cons (q_comp R [("sign", 6)] (q_it R (q_slice R (q_var (i := 0) rfl (by first | exact .inl rfl | exact .inr (.inl rfl) | exact .inr (.inr rfl))) (q_part q_int) (q_part q_int))) rfl (by decide) (fun _ _ _ _ _ => (q_gname (i := 6) (rm_blk R _ _ _ _ _).nd rfl (by first | exact .inl rfl | exact .inr rfl))) (fun _ _ _ _ _ => q_pts0) (fun _ _ _ _ _ => (q_chn (rm_blk R _ _ _ _ _) q_str (q_var (i := 6) rfl (by first | exact .inl rfl | exact .inr (.inl rfl) | exact .inr (.inr rfl))) q_str))) q_nil))))))) (q_one (q_ret q_non)) q_snil) (q_seq (q_par3 (i := 3) (j := 4) (l := 5) R rfl rfl rfl rfl rfl rfl (q_consO (q_lst q_nil) (q_consO q_int (q_consO q_dnew q_nilO)))) (q_seq (q_set (i := 1) R rfl (by first | exact .inl rfl | exact .inr rfl) (q_callF R (ok__law_row_in Z dg) rfl (q_cons (q_var (i := 0) rfl (by first | exact .inl rfl | exact .inr (.inl rfl) | exact .inr (.inr rfl))) (q_cons (q_var (i := 4) rfl (by first | exact .inl rfl | exact .inr (.inl rfl) | exact .inr (.inr rfl))) q_nil)))) (q_seq (q_for R (q_rng1 rfl Z.n_range (q_cons (q_callV (i := 0) R .len rfl Z.n_len rfl (by first | exact .inl rfl | exact .inr (.inl rfl) | exact .inr (.inr rfl))) q_nil)) (q_gname (i := 2) R.nd rfl (by first | exact .inl rfl | exact .inr rfl)) (q_one (q_ifS (q_tcmp R (q_var (i := 1) rfl (by first | exact .inl rfl | exact .inr (.inl rfl) | exact .inr (.inr rfl))) q_non) (q_seq (q_ifS (q_tcmp R (q_callF R (ok__law_bar Z dg) rfl (q_cons (q_var (i := 5) rfl (by first | exact .inl rfl | exact .inr (.inl rfl) | exact .inr (.inr rfl))) (q_cons (q_idxV (i := 1) R rfl (by first | exact .inl rfl | exact .inr (.inl rfl) | exact .inr (.inr rfl)) q_int) q_nil))) q_non) (q_one (q_ret q_non)) q_snil) (q_seq (q_par3 (i := 3) (j := 4) (l := 5) R rfl rfl rfl rfl rfl rfl (q_consO (q_bin R (q_var (i := 3) rfl (by first | exact .inl rfl | exact .inr (.inl rfl) | exact .inr (.inr rfl))) (q_lst (q_cons (q_idxV (i := 1) R rfl (by first | exact .inl rfl | exact .inr (.inl rfl) | exact .inr (.inr rfl)) q_int) q_nil))) (q_consO (q_bin R (q_var (i := 4) rfl (by first | exact .inl rfl | exact .inr (.inl rfl) | exact .inr (.inr rfl))) (q_idxV (i := 1) R rfl (by first | exact .inl rfl | exact .inr (.inl rfl) | exact .inr (.inr rfl)) q_int)) (q_consO (q_callF R (ok__law_behind Z dg) rfl (q_cons (q_var (i := 5) rfl (by first | exact .inl rfl | exact .inr (.inl rfl) | exact .inr (.inr rfl))) (q_cons (q_idxV (i := 1) R rfl (by first | exact .inl rfl | exact .inr (.inl rfl) | exact .inr (.inr rfl)) q_int) q_nil))) q_nilO)))) (q_one (q_set (i := 1) R rfl (by first | exact .inl rfl | exact .inr rfl) (q_callF R (ok__law_row_in Z dg) rfl (q_cons (q_var (i := 0) rfl (by first | exact .inl rfl | exact .inr (.inl rfl) | exact .inr (.inr rfl))) (q_cons (q_var (i := 4) rfl (by first | exact .inl rfl | exact .inr (.inl rfl) | exact .inr (.inr rfl))) q_nil))))))) q_snil))) (q_one (q_ret (q_dsp [("turn", (evCallB .int (evCons (evSlc (evVar 0) (evPart (evC (.int 1))) (evPart (evC (.int 10)))) evNil))), ("entries", (evVar 3)), ("end", (evVar 4)), ("fields", (evVar 5))] (pps_cons pe_str (q_D (q_callT R .int rfl Z.n_int (q_cons (q_slice R (q_var (i := 0) rfl (by first | exact .inl rfl | exact .inr (.inl rfl) | exact .inr (.inr rfl))) (q_part q_int) (q_part q_int)) q_nil))) (pps_cons pe_str (q_D (q_var (i := 3) rfl (by first | exact .inl rfl | exact .inr (.inl rfl) | exact .inr (.inr rfl)))) (pps_cons pe_str (q_D (q_var (i := 4) rfl (by first | exact .inl rfl | exact .inr (.inl rfl) | exact .inr (.inr rfl)))) (pps_cons pe_str (q_D (q_var (i := 5) rfl (by first | exact .inl rfl | exact .inr (.inl rfl) | exact .inr (.inr rfl)))) pps_nil)))))))))))
omit Z dg in theorem sc__law_store : FnScope ["device", "near", "far"] ["device"] (defScope (top 61)) := ⟨rfl, rfl, rfl, by decide +kernel, rfl, by decide +kernel, by decide +kernel⟩
theorem ok__law_store : GF P w C mg base 5 "_law_store" (defArgs (top 61)) (defBody (top 61)) (defScope (top 61)) ["device"] 1 run__law_store :=
  GF.of (N := ["device", "near", "far"]) (pin := []) (code := code__law_store) Z.d__law_store Z.g__law_store sc__law_store (fun _ _ _ _ _ _ us hl => match us, hl with | [_], _ => rfl) rfl dg fun cdv A outer s H E R =>
  (q_seq (q_par2 (i := 1) (j := 2) R rfl rfl rfl rfl (q_consO (q_callF R (ok__law_log Z dg) rfl (q_cons (q_idxV (i := 0) R rfl (by first | exact .inl rfl | exact .inr (.inl rfl) | exact .inr (.inr rfl)) q_int) q_nil)) (q_consO (q_callF R (ok__law_log Z dg) rfl (q_cons (q_idxV (i := 0) R rfl (by first | exact .inl rfl | exact .inr (.inl rfl) | exact .inr (.inr rfl)) q_int) q_nil)) q_nilO))) (q_seq (q_ifS (PW.pt (q_and (q_tcmp R (q_var (i := 2) rfl (by first | exact .inl rfl | exact .inr (.inl rfl) | exact .inr (.inr rfl))) q_non) (q_and1 (PW.pt (q_or (q_tcmp R (q_var (i := 1) rfl (by first | exact .inl rfl | exact .inr (.inl rfl) | exact .inr (.inr rfl))) q_non) (q_or1 (q_tcmp R (q_idxV (i := 2) R rfl (by first | exact .inl rfl | exact .inr (.inl rfl) | exact .inr (.inr rfl)) q_str) (q_idxV (i := 1) R rfl (by first | exact .inl rfl | exact .inr (.inl rfl) | exact .inr (.inr rfl)) q_str)))))))) (q_one (q_ret (q_var (i := 2) rfl (by first | exact .inl rfl | exact .inr (.inl rfl) | exact .inr (.inr rfl))))) q_snil) (q_one (q_ret (q_var (i := 1) rfl (by first | exact .inl rfl | exact .inr (.inl rfl) | exact .inr (.inr rfl)))))))
omit Z dg in theorem sc__law_kept : FnScope ["device", "found"] ["device"] (defScope (top 62)) := ⟨rfl, rfl, rfl, by decide +kernel, rfl, by decide +kernel, by decide +kernel⟩
theorem ok__law_kept : GF P w C mg base 6 "_law_kept" (defArgs (top 62)) (defBody (top 62)) (defScope (top 62)) ["device"] 1 run__law_kept :=
  GF.of (N := ["device", "found"]) (pin := []) (code := code__law_kept) Z.d__law_kept Z.g__law_kept sc__law_kept (fun _ _ _ _ _ _ us hl => match us, hl with | [_], _ => rfl) rfl dg fun cdv A outer s H E R =>
  (q_seq (q_set (i := 1) R rfl (by first | exact .inl rfl | exact .inr rfl) (q_callF R (ok__law_store Z dg) rfl (q_cons (q_var (i := 0) rfl (by first | exact .inl rfl | exact .inr (.inl rfl) | exact .inr (.inr rfl))) q_nil))) (q_one (q_ret (q_if (q_tcmp R (q_var (i := 1) rfl (by first | exact .inl rfl | exact .inr (.inl rfl) | exact .inr (.inr rfl))) q_non) q_non (q_callF R (ok__law_listed Z dg) rfl (q_cons (q_idxV (i := 1) R rfl (by first | exact .inl rfl | exact .inr (.inl rfl) | exact .inr (.inr rfl)) q_str) q_nil))))))
omit Z dg in theorem sc__law_text : FnScope ["pot"] ["pot"] (defScope (top 63)) := ⟨rfl, rfl, rfl, by decide +kernel, rfl, by decide +kernel, by decide +kernel⟩
theorem ok__law_text : GF P w C mg base 3 "_law_text" (defArgs (top 63)) (defBody (top 63)) (defScope (top 63)) ["pot"] 1 run__law_text :=
  GF.of (N := ["pot"]) (pin := [0]) (code := code__law_text) Z.d__law_text Z.g__law_text sc__law_text (fun _ _ _ _ _ _ us hl => match us, hl with | [_], _ => rfl) rfl dg fun cdv A outer s H E R =>
  (q_one (q_ret (q_callGF R (ok__law_pick Z dg) rfl (q_agV (i := 0) rfl (by first | exact .inl rfl | exact .inr (.inl rfl) | exact .inr (.inr rfl)) (q_agD (q_lst (q_cons q_str (q_cons q_str (q_cons q_str (q_cons q_str (q_cons q_str (q_cons q_str (q_cons q_str (q_cons q_str (q_cons (q_bin R q_str q_int) (q_cons q_str q_nil))))))))))) q_agN)))))
omit Z dg in theorem sc__law_entry : FnScope ["pot", "fields", "names", "name", "free", "there", "way"] ["pot", "fields"] (defScope (top 64)) := ⟨rfl, rfl, rfl, by decide +kernel, rfl, by decide +kernel, by decide +kernel⟩
theorem ok__law_entry : GF P w C mg base 4 "_law_entry" (defArgs (top 64)) (defBody (top 64)) (defScope (top 64)) ["pot", "fields"] 2 run__law_entry :=
  GF.of (N := ["pot", "fields", "names", "name", "free", "there", "way"]) (pin := [0]) (code := code__law_entry) Z.d__law_entry Z.g__law_entry sc__law_entry (fun _ _ _ _ _ _ us hl => match us, hl with | [_, _], _ => rfl) rfl dg fun cdv A outer s H E R =>
  (q_seq (q_set (i := 2) R rfl (by first | exact .inl rfl | exact .inr rfl) (q_lst (q_cons q_str (q_cons q_str (q_cons q_str q_nil))))) (q_seq (q_par3 (i := 4) (j := 5) (l := 6) R rfl rfl rfl rfl rfl rfl (q_consO (q_comp R [("name", 3)] (q_it R (q_var (i := 2) rfl (by first | exact .inl rfl | exact .inr (.inl rfl) | exact .inr (.inr rfl)))) rfl (by decide) (fun _ _ _ _ _ => (q_gname (i := 3) (rm_blk R _ _ _ _ _).nd rfl (by first | exact .inl rfl | exact .inr rfl))) (fun _ _ _ _ _ => (q_pts1 (q_tcmpB (rm_blk R _ _ _ _ _) (q_var (i := 3) rfl (by first | exact .inl rfl | exact .inr (.inl rfl) | exact .inr (.inr rfl))) (q_bor (i := 1) rfl (by first | exact .inl rfl | exact .inr (.inl rfl) | exact .inr (.inr rfl)))))) (fun _ _ _ _ _ => (q_var (i := 3) rfl (by first | exact .inl rfl | exact .inr (.inl rfl) | exact .inr (.inr rfl))))) (q_consO (q_callB R .sorted rfl Z.n_sorted (q_cons (q_var (i := 1) rfl (by first | exact .inl rfl | exact .inr (.inl rfl) | exact .inr (.inr rfl))) q_nil)) (q_consO (q_callGF R (ok__law_draw Z dg) rfl (q_agV (i := 0) rfl (by first | exact .inl rfl | exact .inr (.inl rfl) | exact .inr (.inr rfl)) (q_agD q_int q_agN))) q_nilO)))) (q_seq (q_ifS (PW.pt (q_or (q_tcmp R (q_var (i := 5) rfl (by first | exact .inl rfl | exact .inr (.inl rfl) | exact .inr (.inr rfl))) (q_lst q_nil)) (q_or1 (PW.pt (q_and (q_tcmp R (q_var (i := 4) rfl (by first | exact .inl rfl | exact .inr (.inl rfl) | exact .inr (.inr rfl))) (q_lst q_nil)) (q_and1 (q_tcmp R (q_var (i := 6) rfl (by first | exact .inl rfl | exact .inr (.inl rfl) | exact .inr (.inr rfl))) q_int))))))) (q_one (q_ret (q_tup (q_cons q_str (q_cons (q_callGF R (ok__law_pick Z dg) rfl (q_agV (i := 0) rfl (by first | exact .inl rfl | exact .inr (.inl rfl) | exact .inr (.inr rfl)) (q_agD (q_var (i := 4) rfl (by first | exact .inl rfl | exact .inr (.inl rfl) | exact .inr (.inr rfl))) q_agN))) (q_cons (q_callGF R (ok__law_pick Z dg) rfl (q_agV (i := 0) rfl (by first | exact .inl rfl | exact .inr (.inl rfl) | exact .inr (.inr rfl)) (q_agD (q_lst (q_cons q_str (q_cons q_str q_nil))) q_agN))) q_nil)))))) q_snil) (q_seq (q_set (i := 3) R rfl (by first | exact .inl rfl | exact .inr rfl) (q_callGF R (ok__law_pick Z dg) rfl (q_agV (i := 0) rfl (by first | exact .inl rfl | exact .inr (.inl rfl) | exact .inr (.inr rfl)) (q_agD (q_var (i := 5) rfl (by first | exact .inl rfl | exact .inr (.inl rfl) | exact .inr (.inr rfl))) q_agN)))) (q_one (q_ret (q_if (q_tcmp R (q_var (i := 6) rfl (by first | exact .inl rfl | exact .inr (.inl rfl) | exact .inr (.inr rfl))) q_int) (q_tup (q_cons q_str (q_cons (q_var (i := 3) rfl (by first | exact .inl rfl | exact .inr (.inl rfl) | exact .inr (.inr rfl))) q_nil))) (q_tup (q_cons q_str (q_cons (q_var (i := 3) rfl (by first | exact .inl rfl | exact .inr (.inl rfl) | exact .inr (.inr rfl))) (q_cons (q_callGF R (ok__law_text Z dg) rfl (q_agV (i := 0) rfl (by first | exact .inl rfl | exact .inr (.inl rfl) | exact .inr (.inr rfl)) q_agN)) q_nil)))))))))))
omit Z dg in theorem sc__law_hurt : FnScope ["pot", "row", "at", "sign"] ["pot", "row"] (defScope (top 65)) := ⟨rfl, rfl, rfl, by decide +kernel, rfl, by decide +kernel, by decide +kernel⟩
theorem ok__law_hurt : GF P w C mg base 3 "_law_hurt" (defArgs (top 65)) (defBody (top 65)) (defScope (top 65)) ["pot", "row"] 2 run__law_hurt :=
  GF.of (N := ["pot", "row", "at", "sign"]) (pin := [0]) (code := code__law_hurt) Z.d__law_hurt Z.g__law_hurt sc__law_hurt (fun _ _ _ _ _ _ us hl => match us, hl with | [_, _], _ => rfl) rfl dg fun cdv A outer s H E R =>
  (q_seq (q_par2 (i := 2) (j := 3) R rfl rfl rfl rfl (q_consO (q_callGF R (ok__law_draw Z dg) rfl (q_agV (i := 0) rfl (by first | exact .inl rfl | exact .inr (.inl rfl) | exact .inr (.inr rfl)) (q_agD (q_callV (i := 1) R .len rfl Z.n_len rfl (by first | exact .inl rfl | exact .inr (.inl rfl) | exact .inr (.inr rfl))) q_agN))) (q_consO (q_callGF R (ok__law_pick Z dg) rfl (q_agV (i := 0) rfl (by first | exact .inl rfl | exact .inr (.inl rfl) | exact .inr (.inr rfl)) (q_agD (q_lst (q_cons q_str (q_cons q_str (q_cons q_str (q_cons q_str (q_cons q_str (q_cons q_str q_nil))))))) q_agN))) q_nilO))) (q_one (q_ret (q_callGF R (ok__law_pick Z dg) rfl (q_agV (i := 0) rfl (by first | exact .inl rfl | exact .inr (.inl rfl) | exact .inr (.inr rfl)) (q_agD (q_lst (q_cons (q_var (i := 1) rfl (by first | exact .inl rfl | exact .inr (.inl rfl) | exact .inr (.inr rfl))) (q_cons (q_var (i := 1) rfl (by first | exact .inl rfl | exact .inr (.inl rfl) | exact .inr (.inr rfl))) (q_cons (q_var (i := 1) rfl (by first | exact .inl rfl | exact .inr (.inl rfl) | exact .inr (.inr rfl))) (q_cons (q_var (i := 1) rfl (by first | exact .inl rfl | exact .inr (.inl rfl) | exact .inr (.inr rfl))) (q_cons (q_bin R (q_bin R (q_slice R (q_var (i := 1) rfl (by first | exact .inl rfl | exact .inr (.inl rfl) | exact .inr (.inr rfl))) q_noPart (q_part (q_var (i := 2) rfl (by first | exact .inl rfl | exact .inr (.inl rfl) | exact .inr (.inr rfl))))) (q_var (i := 3) rfl (by first | exact .inl rfl | exact .inr (.inl rfl) | exact .inr (.inr rfl)))) (q_slice R (q_var (i := 1) rfl (by first | exact .inl rfl | exact .inr (.inl rfl) | exact .inr (.inr rfl))) (q_part (q_bin R (q_var (i := 2) rfl (by first | exact .inl rfl | exact .inr (.inl rfl) | exact .inr (.inr rfl))) q_int)) q_noPart)) (q_cons (q_bin R q_str (q_slice R (q_var (i := 1) rfl (by first | exact .inl rfl | exact .inr (.inl rfl) | exact .inr (.inr rfl))) (q_part q_int) q_noPart)) (q_cons (q_slice R (q_var (i := 1) rfl (by first | exact .inl rfl | exact .inr (.inl rfl) | exact .inr (.inr rfl))) q_noPart (q_part (q_var (i := 2) rfl (by first | exact .inl rfl | exact .inr (.inl rfl) | exact .inr (.inr rfl))))) q_nil)))))))) q_agN))))))
omit Z dg in theorem sc__law_tape : FnScope ["pot", "many", "head", "turn", "behind", "fields", "found", "entry"] ["pot", "many"] (defScope (top 66)) := ⟨rfl, rfl, rfl, by decide +kernel, rfl, by decide +kernel, by decide +kernel⟩
theorem ok__law_tape : GF P w C mg base 5 "_law_tape" (defArgs (top 66)) (defBody (top 66)) (defScope (top 66)) ["pot", "many"] 2 run__law_tape :=
  GF.of (N := ["pot", "many", "head", "turn", "behind", "fields", "found", "entry"]) (pin := [0]) (code := code__law_tape) Z.d__law_tape Z.g__law_tape sc__law_tape (fun _ _ _ _ _ _ us hl => match us, hl with | [_, _], _ => rfl) rfl dg fun cdv A outer s H E R =>
  (q_seq (q_set (i := 2) R rfl (by first | exact .inl rfl | exact .inr rfl) (q_bin R (q_callGF R (ok__law_pick Z dg) rfl (q_agV (i := 0) rfl (by first | exact .inl rfl | exact .inr (.inl rfl) | exact .inr (.inr rfl)) (q_agD (q_lst (q_cons q_str (q_cons q_str (q_cons q_str (q_cons q_str (q_cons q_str q_nil)))))) q_agN))) (q_mth R .zfill (q_callT R .str rfl Z.n_str (q_cons (q_callGF R (ok__law_pick Z dg) rfl (q_agV (i := 0) rfl (by first | exact .inl rfl | exact .inr (.inl rfl) | exact .inr (.inr rfl)) (q_agD (q_lst (q_cons q_int (q_cons q_int (q_cons q_int (q_cons q_int (q_cons q_int (q_cons q_int q_nil))))))) q_agN))) q_nil)) (q_cons q_int q_nil)))) (q_seq (q_set (i := 2) R rfl (by first | exact .inl rfl | exact .inr rfl) (q_callGF R (ok__law_pick Z dg) rfl (q_agV (i := 0) rfl (by first | exact .inl rfl | exact .inr (.inl rfl) | exact .inr (.inr rfl)) (q_agD (q_bin R (q_bin R (q_lst (q_cons (q_var (i := 2) rfl (by first | exact .inl rfl | exact .inr (.inl rfl) | exact .inr (.inr rfl))) q_nil)) q_int) (q_lst (q_cons (q_bin R (q_bin R (q_slice R (q_var (i := 2) rfl (by first | exact .inl rfl | exact .inr (.inl rfl) | exact .inr (.inr rfl))) q_noPart (q_part q_int)) q_str) (q_slice R (q_var (i := 2) rfl (by first | exact .inl rfl | exact .inr (.inl rfl) | exact .inr (.inr rfl))) (q_part q_int) q_noPart)) q_nil))) q_agN)))) (q_seq (q_par2 (i := 5) (j := 6) R rfl rfl rfl rfl (q_consO q_dnew (q_consO q_str q_nilO))) (q_seq (q_for R (q_rng1 rfl Z.n_range (q_cons (q_callGF R (ok__law_draw Z dg) rfl (q_agV (i := 0) rfl (by first | exact .inl rfl | exact .inr (.inl rfl) | exact .inr (.inr rfl)) (q_agD q_int q_agN))) q_nil)) (q_gname (i := 3) R.nd rfl (by first | exact .inl rfl | exact .inr rfl)) (q_seq (q_set (i := 7) R rfl (by first | exact .inl rfl | exact .inr rfl) (q_callGF R (ok__law_entry Z dg) rfl (q_agV (i := 0) rfl (by first | exact .inl rfl | exact .inr (.inl rfl) | exact .inr (.inr rfl)) (q_agD (q_var (i := 5) rfl (by first | exact .inl rfl | exact .inr (.inl rfl) | exact .inr (.inr rfl))) q_agN)))) (q_seq (q_ifS (q_tcmp R (q_callGF R (ok__law_draw Z dg) rfl (q_agV (i := 0) rfl (by first | exact .inl rfl | exact .inr (.inl rfl) | exact .inr (.inr rfl)) (q_agD q_int q_agN))) q_int) (q_one (q_set (i := 7) R rfl (by first | exact .inl rfl | exact .inr rfl) (q_callGF R (ok__law_pick Z dg) rfl (q_agV (i := 0) rfl (by first | exact .inl rfl | exact .inr (.inl rfl) | exact .inr (.inr rfl)) (q_agD (q_lst (q_cons (q_tup (q_cons q_str (q_cons q_str q_nil))) (q_cons (q_tup (q_cons q_str (q_cons q_str (q_cons q_str q_nil)))) (q_cons (q_tup (q_cons q_str (q_cons q_str (q_cons q_str q_nil)))) q_nil)))) q_agN))))) q_snil) (q_seq (q_ifS (q_tcmp R (q_callF R (ok__law_bar Z dg) rfl (q_cons (q_var (i := 5) rfl (by first | exact .inl rfl | exact .inr (.inl rfl) | exact .inr (.inr rfl))) (q_cons (q_var (i := 7) rfl (by first | exact .inl rfl | exact .inr (.inl rfl) | exact .inr (.inr rfl))) q_nil))) q_non) (q_one (q_set (i := 5) R rfl (by first | exact .inl rfl | exact .inr rfl) (q_callF R (ok__law_behind Z dg) rfl (q_cons (q_var (i := 5) rfl (by first | exact .inl rfl | exact .inr (.inl rfl) | exact .inr (.inr rfl))) (q_cons (q_var (i := 7) rfl (by first | exact .inl rfl | exact .inr (.inl rfl) | exact .inr (.inr rfl))) q_nil))))) q_snil) (q_one (q_set (i := 6) R rfl (by first | exact .inl rfl | exact .inr rfl) (q_bin R (q_var (i := 6) rfl (by first | exact .inl rfl | exact .inr (.inl rfl) | exact .inr (.inr rfl))) (q_callGF R (ok__law_hurt Z dg) rfl (q_agV (i := 0) rfl (by first | exact .inl rfl | exact .inr (.inl rfl) | exact .inr (.inr rfl)) (q_agD (q_callF R (ok__law_row Z dg) rfl (q_cons (q_var (i := 7) rfl (by first | exact .inl rfl | exact .inr (.inl rfl) | exact .inr (.inr rfl))) q_nil)) q_agN)))))))))) (q_seq (q_set (i := 4) R rfl (by first | exact .inl rfl | exact .inr rfl) (q_callGF R (ok__law_pick Z dg) rfl (q_agV (i := 0) rfl (by first | exact .inl rfl | exact .inr (.inl rfl) | exact .inr (.inr rfl)) (q_agD (q_lst (q_cons q_str (q_cons q_str (q_cons q_str (q_cons q_str (q_cons (q_bin R q_str (q_callF R (ok__law_row Z dg) rfl (q_cons (q_tup (q_cons q_str (q_cons q_str q_nil))) q_nil))) (q_cons (q_callF R (ok__law_row Z dg) rfl (q_cons (q_tup (q_cons q_str (q_cons q_str (q_cons q_str q_nil)))) q_nil)) (q_cons q_str q_nil)))))))) q_agN)))) (q_one (q_ret (q_slice R (q_bin R (q_bin R (q_bin R (q_var (i := 2) rfl (by first | exact .inl rfl | exact .inr (.inl rfl) | exact .inr (.inr rfl))) (q_var (i := 6) rfl (by first | exact .inl rfl | exact .inr (.inl rfl) | exact .inr (.inr rfl)))) (q_var (i := 4) rfl (by first | exact .inl rfl | exact .inr (.inl rfl) | exact .inr (.inr rfl)))) (q_bin R q_str (q_var (i := 1) rfl (by first | exact .inl rfl | exact .inr (.inl rfl) | exact .inr (.inr rfl))))) q_noPart (q_part (q_var (i := 1) rfl (by first | exact .inl rfl | exact .inr (.inl rfl) | exact .inr (.inr rfl))))))))))))
omit Z dg in theorem sc__law_device_right : FnScope ["value", "found", "due", "turn", "told"] ["value"] (defScope (top 67)) := ⟨rfl, rfl, rfl, by decide +kernel, rfl, by decide +kernel, by decide +kernel⟩
theorem ok__law_device_right : GF P w C mg base 9 "_law_device_right" (defArgs (top 67)) (defBody (top 67)) (defScope (top 67)) ["value"] 1 run__law_device_right :=
  GF.of (N := ["value", "found", "due", "turn", "told"]) (pin := []) (code := code__law_device_right) Z.d__law_device_right Z.g__law_device_right sc__law_device_right (fun _ _ _ _ _ _ us hl => match us, hl with | [_], _ => rfl) rfl dg fun cdv A outer s H E R =>
  (q_seq (q_set (i := 1) R rfl (by first | exact .inl rfl | exact .inr rfl) (q_callF R (ok__law_store Z dg) rfl (q_cons (q_var (i := 0) rfl (by first | exact .inl rfl | exact .inr (.inl rfl) | exact .inr (.inr rfl))) q_nil))) (q_seq (q_ifS (q_tcmp R (q_callB R .repr rfl Z.n_repr (q_cons (q_lst (q_cons (q_callF R (ok_is_store Z dg) rfl (q_cons (q_var (i := 0) rfl (by first | exact .inl rfl | exact .inr (.inl rfl) | exact .inr (.inr rfl))) q_nil)) (q_cons (q_callKF (ks := ["value"]) (idx := [0]) R (ok_is_store Z dg) rfl (fun _ _ _ _ _ _ ws hl => match ws, hl with | [_], _ => rfl) (q_kcons (q_var (i := 0) rfl (by first | exact .inl rfl | exact .inr (.inl rfl) | exact .inr (.inr rfl))) q_knil)) q_nil))) q_nil)) (q_callB R .repr rfl Z.n_repr (q_cons (q_bin R (q_lst (q_cons (q_cmp R (q_var (i := 1) rfl (by first | exact .inl rfl | exact .inr (.inl rfl) | exact .inr (.inr rfl))) q_non) q_nil)) q_int) q_nil))) (q_one (q_ret q_bl)) q_snil) (q_seq (q_ifS (q_tcmp R (q_var (i := 1) rfl (by first | exact .inl rfl | exact .inr (.inl rfl) | exact .inr (.inr rfl))) q_non) (q_one (q_ret q_bl)) q_snil) (q_seq (q_set (i := 2) R rfl (by first | exact .inl rfl | exact .inr rfl) (q_lst (q_cons (q_idxV (i := 1) R rfl (by first | exact .inl rfl | exact .inr (.inl rfl) | exact .inr (.inr rfl)) q_str) (q_cons (q_callF R (ok__law_listed Z dg) rfl (q_cons (q_idxV (i := 1) R rfl (by first | exact .inl rfl | exact .inr (.inl rfl) | exact .inr (.inr rfl)) q_str) q_nil)) (q_cons (q_idxV (i := 1) R rfl (by first | exact .inl rfl | exact .inr (.inl rfl) | exact .inr (.inr rfl)) q_str) (q_cons (q_bin R (q_callB R .len rfl Z.n_len (q_cons (q_idxV (i := 0) R rfl (by first | exact .inl rfl | exact .inr (.inl rfl) | exact .inr (.inr rfl)) q_int) q_nil)) (q_idxV (i := 1) R rfl (by first | exact .inl rfl | exact .inr (.inl rfl) | exact .inr (.inr rfl)) q_str)) q_nil)))))) (q_seq (q_for R (q_rng1 rfl Z.n_range (q_cons q_int q_nil)) (q_gname (i := 3) R.nd rfl (by first | exact .inl rfl | exact .inr rfl)) (q_spoil (it := 4) (du := 2) R rfl (by first | exact .inl rfl | exact .inr rfl) rfl (by first | exact .inl rfl | exact .inr (.inl rfl) | exact .inr (.inr rfl)) rfl Z.n_repr (q_consO (q_callN R (ok_turn_of Z dg) rfl (q_cons (q_var (i := 0) rfl (by first | exact .inl rfl | exact .inr (.inl rfl) | exact .inr (.inr rfl))) q_nil)) (q_consO (q_callN R (ok_kept Z dg) rfl (q_cons (q_var (i := 0) rfl (by first | exact .inl rfl | exact .inr (.inl rfl) | exact .inr (.inr rfl))) q_nil)) (q_consO (q_callN R (ok_entries_in Z dg) rfl (q_cons (q_var (i := 0) rfl (by first | exact .inl rfl | exact .inr (.inl rfl) | exact .inr (.inr rfl))) q_nil)) (q_consO (q_callN R (ok_room Z dg) rfl (q_cons (q_var (i := 0) rfl (by first | exact .inl rfl | exact .inr (.inl rfl) | exact .inr (.inr rfl))) q_nil)) q_nilO)))))) (q_one (q_ret (q_cmp R (q_callB R .repr rfl Z.n_repr (q_cons (q_lst (q_cons (q_callKF (ks := ["store"]) (idx := [0]) R (ok_turn_of Z dg) rfl (fun _ _ _ _ _ _ ws hl => match ws, hl with | [_], _ => rfl) (q_kcons (q_var (i := 0) rfl (by first | exact .inl rfl | exact .inr (.inl rfl) | exact .inr (.inr rfl))) q_knil)) (q_cons (q_callKF (ks := ["store"]) (idx := [0]) R (ok_kept Z dg) rfl (fun _ _ _ _ _ _ ws hl => match ws, hl with | [_], _ => rfl) (q_kcons (q_var (i := 0) rfl (by first | exact .inl rfl | exact .inr (.inl rfl) | exact .inr (.inr rfl))) q_knil)) (q_cons (q_callKF (ks := ["store"]) (idx := [0]) R (ok_entries_in Z dg) rfl (fun _ _ _ _ _ _ ws hl => match ws, hl with | [_], _ => rfl) (q_kcons (q_var (i := 0) rfl (by first | exact .inl rfl | exact .inr (.inl rfl) | exact .inr (.inr rfl))) q_knil)) (q_cons (q_callKF (ks := ["store"]) (idx := [0]) R (ok_room Z dg) rfl (fun _ _ _ _ _ _ ws hl => match ws, hl with | [_], _ => rfl) (q_kcons (q_var (i := 0) rfl (by first | exact .inl rfl | exact .inr (.inl rfl) | exact .inr (.inr rfl))) q_knil)) q_nil))))) q_nil)) (q_callV (i := 2) R .repr rfl Z.n_repr rfl (by first | exact .inl rfl | exact .inr (.inl rfl) | exact .inr (.inr rfl)))))))))))
omit Z dg in theorem sc__law_right : FnScope ["pot", "turn", "many", "store", "device"] ["pot"] (defScope (top 68)) := ⟨rfl, rfl, rfl, by decide +kernel, rfl, by decide +kernel, by decide +kernel⟩
theorem ok__law_right : GF P w C mg base 10 "_law_right" (defArgs (top 68)) (defBody (top 68)) (defScope (top 68)) ["pot"] 1 run__law_right :=
  GF.of (N := ["pot", "turn", "many", "store", "device"]) (pin := [0]) (code := code__law_right) Z.d__law_right Z.g__law_right sc__law_right (fun _ _ _ _ _ _ us hl => match us, hl with | [_], _ => rfl) rfl dg fun cdv A outer s H E R =>
  (q_seq (q_for R (q_rng1 rfl Z.n_range (q_cons q_int q_nil)) (q_gname (i := 1) R.nd rfl (by first | exact .inl rfl | exact .inr rfl)) (q_seq (q_set (i := 2) R rfl (by first | exact .inl rfl | exact .inr rfl) (q_bin R q_int (q_callGF R (ok__law_draw Z dg) rfl (q_agV (i := 0) rfl (by first | exact .inl rfl | exact .inr (.inl rfl) | exact .inr (.inr rfl)) (q_agD q_int q_agN))))) (q_seq (q_set (i := 4) R rfl (by first | exact .inl rfl | exact .inr rfl) (q_tup (q_cons (q_callGF R (ok__law_tape Z dg) rfl (q_agV (i := 0) rfl (by first | exact .inl rfl | exact .inr (.inl rfl) | exact .inr (.inr rfl)) (q_agD (q_var (i := 2) rfl (by first | exact .inl rfl | exact .inr (.inl rfl) | exact .inr (.inr rfl))) q_agN))) (q_cons (q_callGF R (ok__law_tape Z dg) rfl (q_agV (i := 0) rfl (by first | exact .inl rfl | exact .inr (.inl rfl) | exact .inr (.inr rfl)) (q_agD (q_var (i := 2) rfl (by first | exact .inl rfl | exact .inr (.inl rfl) | exact .inr (.inr rfl))) q_agN))) q_nil)))) (q_one (q_ifS (PW.pt (q_or (q_not (q_tru R (q_callF R (ok__law_device_right Z dg) rfl (q_cons (q_var (i := 4) rfl (by first | exact .inl rfl | exact .inr (.inl rfl) | exact .inr (.inr rfl))) q_nil)))) (q_or (q_not (q_tru R (q_callF R (ok__law_device_right Z dg) rfl (q_cons (q_turn R (q_var (i := 4) rfl (by first | exact .inl rfl | exact .inr (.inl rfl) | exact .inr (.inr rfl))) (q_neg q_int)) q_nil)))) (q_or (q_tru R (q_callF R (ok_is_store Z dg) rfl (q_cons (q_callT R .list rfl Z.n_list (q_cons (q_var (i := 4) rfl (by first | exact .inl rfl | exact .inr (.inl rfl) | exact .inr (.inr rfl))) q_nil)) q_nil))) (q_or1 (q_tru R (q_callF R (ok_is_store Z dg) rfl (q_cons (q_slice R (q_var (i := 4) rfl (by first | exact .inl rfl | exact .inr (.inl rfl) | exact .inr (.inr rfl))) q_noPart (q_part q_int)) q_nil)))))))) (q_one (q_ret q_bl)) q_snil))))) (q_seq (q_set (i := 2) R rfl (by first | exact .inl rfl | exact .inr rfl) (q_bin R q_int (q_callGF R (ok__law_draw Z dg) rfl (q_agV (i := 0) rfl (by first | exact .inl rfl | exact .inr (.inl rfl) | exact .inr (.inr rfl)) (q_agD q_int q_agN))))) (q_seq (q_set (i := 3) R rfl (by first | exact .inl rfl | exact .inr rfl) (q_callF R (ok_new_store Z dg) rfl (q_cons (q_var (i := 2) rfl (by first | exact .inl rfl | exact .inr (.inl rfl) | exact .inr (.inr rfl))) q_nil))) (q_seq (q_ifS (PW.pt (q_or (q_tcmp R (q_var (i := 3) rfl (by first | exact .inl rfl | exact .inr (.inl rfl) | exact .inr (.inr rfl))) (q_tup (q_cons (q_bin R q_str (q_bin R q_str (q_bin R (q_var (i := 2) rfl (by first | exact .inl rfl | exact .inr (.inl rfl) | exact .inr (.inr rfl))) q_int))) (q_cons (q_bin R q_str (q_var (i := 2) rfl (by first | exact .inl rfl | exact .inr (.inl rfl) | exact .inr (.inr rfl)))) q_nil)))) (q_or1 (q_tcmp R (q_callKF (ks := ["many"]) (idx := [0]) R (ok_new_store Z dg) rfl (fun _ _ _ _ _ _ ws hl => match ws, hl with | [_], _ => rfl) (q_kcons (q_var (i := 2) rfl (by first | exact .inl rfl | exact .inr (.inl rfl) | exact .inr (.inr rfl))) q_knil)) (q_var (i := 3) rfl (by first | exact .inl rfl | exact .inr (.inl rfl) | exact .inr (.inr rfl))))))) (q_one (q_ret q_bl)) q_snil) (q_one (q_ret (q_cmp R (q_lst (q_cons (q_callF R (ok_turn_of Z dg) rfl (q_cons (q_var (i := 3) rfl (by first | exact .inl rfl | exact .inr (.inl rfl) | exact .inr (.inr rfl))) q_nil)) (q_cons (q_callF R (ok_kept Z dg) rfl (q_cons (q_var (i := 3) rfl (by first | exact .inl rfl | exact .inr (.inl rfl) | exact .inr (.inr rfl))) q_nil)) (q_cons (q_callF R (ok_entries_in Z dg) rfl (q_cons (q_var (i := 3) rfl (by first | exact .inl rfl | exact .inr (.inl rfl) | exact .inr (.inr rfl))) q_nil)) (q_cons (q_callF R (ok_room Z dg) rfl (q_cons (q_var (i := 3) rfl (by first | exact .inl rfl | exact .inr (.inl rfl) | exact .inr (.inr rfl))) q_nil)) q_nil))))) (q_lst (q_cons q_int (q_cons (q_lst q_nil) (q_cons (q_lst q_nil) (q_cons (q_bin R (q_var (i := 2) rfl (by first | exact .inl rfl | exact .inr (.inl rfl) | exact .inr (.inr rfl))) q_int) q_nil))))))))))))
omit Z dg in theorem sc_law : FnScope ["script", "k"] ["script"] (defScope (top 69)) := ⟨rfl, rfl, rfl, by decide +kernel, rfl, by decide +kernel, by decide +kernel⟩
theorem ok_law : GF P w C mg base 11 "law" (defArgs (top 69)) (defBody (top 69)) (defScope (top 69)) ["script"] 1 run_law :=
  GF.of (N := ["script", "k"]) (pin := [0]) (code := code_law) Z.d_law Z.g_law sc_law (fun _ _ _ _ _ _ us hl => match us, hl with | [_], _ => rfl) rfl dg fun cdv A outer s H E R =>
  (q_one (q_ret (q_callB R .all rfl Z.n_all (q_cons (q_comp R [("k", 1)] (q_rng1 rfl Z.n_range (q_cons (q_callB R .max2 rfl Z.n_max (q_cons q_int (q_cons (q_callB R .min2 rfl Z.n_min (q_cons q_int (q_cons (q_scrLen (i := 0) R rfl Z.n_len rfl (by first | exact .inl rfl | exact .inr (.inl rfl) | exact .inr (.inr rfl))) q_nil))) q_nil))) q_nil)) rfl (by decide) (fun _ _ _ _ _ => (q_gname (i := 1) (rm_blk R _ _ _ _ _).nd rfl (by first | exact .inl rfl | exact .inr rfl))) (fun _ _ _ _ _ => q_pts0) (fun _ _ _ _ _ => (q_callGF (rm_blk R _ _ _ _ _) (ok__law_right Z dg) rfl (q_agO (q_callGF (rm_blk R _ _ _ _ _) (ok__law_pot Z dg) rfl (q_agV (i := 0) rfl (by first | exact .inl rfl | exact .inr (.inl rfl) | exact .inr (.inr rfl)) (q_agD (q_var (i := 1) rfl (by first | exact .inl rfl | exact .inr (.inl rfl) | exact .inr (.inr rfl))) q_agN))) q_agN)))) q_nil))))
end
end K93
set_option Elab.async false
set_option linter.all false
set_option maxRecDepth 100000
set_option maxHeartbeats 4000000
namespace K93
open PySem PySem.Spec PyProof.Rows L2 Pd
theorem facts {K : PySem.W.Frag} {h : Heap} {mg : Str → Option Value} (X : K.In h) (G : h.Ns mainGlobals mg) (c : He.SaysD fa fn K) : Fs K mg where
  d_is_integer := c.def_ 0 (d := d_is_integer) rfl
  g_is_integer := He.glo_ok X G (c.fact 0 (f := .glo "is_integer") rfl)
  d_is_within := c.def_ 1 (d := d_is_within) rfl
  g_is_within := He.glo_ok X G (c.fact 1 (f := .glo "is_within") rfl)
  d_is_tuple := c.def_ 2 (d := d_is_tuple) rfl
  g_is_tuple := He.glo_ok X G (c.fact 2 (f := .glo "is_tuple") rfl)
  d_are_signs := c.def_ 3 (d := d_are_signs) rfl
  g_are_signs := He.glo_ok X G (c.fact 3 (f := .glo "are_signs") rfl)
  d_is_device_any := c.def_ 4 (d := d_is_device_any) rfl
  g_is_device_any := He.glo_ok X G (c.fact 4 (f := .glo "is_device_any") rfl)
  d_is_short_name := c.def_ 5 (d := d_is_short_name) rfl
  g_is_short_name := He.glo_ok X G (c.fact 5 (f := .glo "is_short_name") rfl)
  d_is_entry_any := c.def_ 6 (d := d_is_entry_any) rfl
  g_is_entry_any := He.glo_ok X G (c.fact 6 (f := .glo "is_entry_any") rfl)
  d_row_told := c.def_ 7 (d := d_row_told) rfl
  g_row_told := He.glo_ok X G (c.fact 7 (f := .glo "row_told") rfl)
  d_are_figures := c.def_ 8 (d := d_are_figures) rfl
  g_are_figures := He.glo_ok X G (c.fact 8 (f := .glo "are_figures") rfl)
  d_entry_at := c.def_ 9 (d := d_entry_at) rfl
  g_entry_at := He.glo_ok X G (c.fact 9 (f := .glo "entry_at") rfl)
  d_rows_from := c.def_ 10 (d := d_rows_from) rfl
  g_rows_from := He.glo_ok X G (c.fact 10 (f := .glo "rows_from") rfl)
  d_behind_entry := c.def_ 11 (d := d_behind_entry) rfl
  g_behind_entry := He.glo_ok X G (c.fact 11 (f := .glo "behind_entry") rfl)
  d_behind_all := c.def_ 12 (d := d_behind_all) rfl
  g_behind_all := He.glo_ok X G (c.fact 12 (f := .glo "behind_all") rfl)
  d_listed := c.def_ 13 (d := d_listed) rfl
  g_listed := He.glo_ok X G (c.fact 13 (f := .glo "listed") rfl)
  d_log_on := c.def_ 14 (d := d_log_on) rfl
  g_log_on := He.glo_ok X G (c.fact 14 (f := .glo "log_on") rfl)
  d_read_store := c.def_ 15 (d := d_read_store) rfl
  g_read_store := He.glo_ok X G (c.fact 15 (f := .glo "read_store") rfl)
  d_room_in := c.def_ 16 (d := d_room_in) rfl
  g_room_in := He.glo_ok X G (c.fact 16 (f := .glo "room_in") rfl)
  d_want_store := c.def_ 17 (d := d_want_store) rfl
  g_want_store := He.glo_ok X G (c.fact 17 (f := .glo "want_store") rfl)
  d_new_store := c.def_ 18 (d := d_new_store) rfl
  g_new_store := He.glo_ok X G (c.fact 18 (f := .glo "new_store") rfl)
  d_is_store := c.def_ 19 (d := d_is_store) rfl
  g_is_store := He.glo_ok X G (c.fact 19 (f := .glo "is_store") rfl)
  d_kept := c.def_ 20 (d := d_kept) rfl
  g_kept := He.glo_ok X G (c.fact 20 (f := .glo "kept") rfl)
  d_turn_of := c.def_ 21 (d := d_turn_of) rfl
  g_turn_of := He.glo_ok X G (c.fact 21 (f := .glo "turn_of") rfl)
  d_room := c.def_ 22 (d := d_room) rfl
  g_room := He.glo_ok X G (c.fact 22 (f := .glo "room") rfl)
  d_entries_in := c.def_ 23 (d := d_entries_in) rfl
  g_entries_in := He.glo_ok X G (c.fact 23 (f := .glo "entries_in") rfl)
  d__law_pot := c.def_ 24 (d := d__law_pot) rfl
  g__law_pot := He.glo_ok X G (c.fact 24 (f := .glo "_law_pot") rfl)
  d__law_draw := c.def_ 25 (d := d__law_draw) rfl
  g__law_draw := He.glo_ok X G (c.fact 25 (f := .glo "_law_draw") rfl)
  d__law_pick := c.def_ 26 (d := d__law_pick) rfl
  g__law_pick := He.glo_ok X G (c.fact 26 (f := .glo "_law_pick") rfl)
  d__law_is_name := c.def_ 27 (d := d__law_is_name) rfl
  g__law_is_name := He.glo_ok X G (c.fact 27 (f := .glo "_law_is_name") rfl)
  d__law_is_signs := c.def_ 28 (d := d__law_is_signs) rfl
  g__law_is_signs := He.glo_ok X G (c.fact 28 (f := .glo "_law_is_signs") rfl)
  d__law_is_entry := c.def_ 29 (d := d__law_is_entry) rfl
  g__law_is_entry := He.glo_ok X G (c.fact 29 (f := .glo "_law_is_entry") rfl)
  d__law_row := c.def_ 30 (d := d__law_row) rfl
  g__law_row := He.glo_ok X G (c.fact 30 (f := .glo "_law_row") rfl)
  d__law_bar := c.def_ 31 (d := d__law_bar) rfl
  g__law_bar := He.glo_ok X G (c.fact 31 (f := .glo "_law_bar") rfl)
  d__law_behind := c.def_ 32 (d := d__law_behind) rfl
  g__law_behind := He.glo_ok X G (c.fact 32 (f := .glo "_law_behind") rfl)
  d__law_listed := c.def_ 33 (d := d__law_listed) rfl
  g__law_listed := He.glo_ok X G (c.fact 33 (f := .glo "_law_listed") rfl)
  d__law_row_in := c.def_ 34 (d := d__law_row_in) rfl
  g__law_row_in := He.glo_ok X G (c.fact 34 (f := .glo "_law_row_in") rfl)
  d__law_log := c.def_ 35 (d := d__law_log) rfl
  g__law_log := He.glo_ok X G (c.fact 35 (f := .glo "_law_log") rfl)
  d__law_store := c.def_ 36 (d := d__law_store) rfl
  g__law_store := He.glo_ok X G (c.fact 36 (f := .glo "_law_store") rfl)
  d__law_kept := c.def_ 37 (d := d__law_kept) rfl
  g__law_kept := He.glo_ok X G (c.fact 37 (f := .glo "_law_kept") rfl)
  d__law_text := c.def_ 38 (d := d__law_text) rfl
  g__law_text := He.glo_ok X G (c.fact 38 (f := .glo "_law_text") rfl)
  d__law_entry := c.def_ 39 (d := d__law_entry) rfl
  g__law_entry := He.glo_ok X G (c.fact 39 (f := .glo "_law_entry") rfl)
  d__law_hurt := c.def_ 40 (d := d__law_hurt) rfl
  g__law_hurt := He.glo_ok X G (c.fact 40 (f := .glo "_law_hurt") rfl)
  d__law_tape := c.def_ 41 (d := d__law_tape) rfl
  g__law_tape := He.glo_ok X G (c.fact 41 (f := .glo "_law_tape") rfl)
  d__law_device_right := c.def_ 42 (d := d__law_device_right) rfl
  g__law_device_right := He.glo_ok X G (c.fact 42 (f := .glo "_law_device_right") rfl)
  d__law_right := c.def_ 43 (d := d__law_right) rfl
  g__law_right := He.glo_ok X G (c.fact 43 (f := .glo "_law_right") rfl)
  d_law := c.def_ 44 (d := d_law) rfl
  g_law := He.glo_ok X G (c.fact 44 (f := .glo "law") rfl)
  c_LEAST_SIGNS := He.int_ok X G (c.fact 45 (f := .int "LEAST_SIGNS" 60) rfl)
  c_MOST_SIGNS := He.int_ok X G (c.fact 46 (f := .int "MOST_SIGNS" 2000) rfl)
  c_MARK := He.str_ok X G (c.fact 47 (f := .str "MARK" "+") rfl)
  c_FIGURES := He.str_ok X G (c.fact 48 (f := .str "FIGURES" "0123456789") rfl)
  c_LETTERS := He.str_ok X G (c.fact 49 (f := .str "LETTERS" "abcdefghijklmnopqrstuvwxyz") rfl)
  c_MOST_LETTERS := He.int_ok X G (c.fact 50 (f := .int "MOST_LETTERS" 12) rfl)
  c_MOST_TEXT := He.int_ok X G (c.fact 51 (f := .int "MOST_TEXT" 40) rfl)
  c_HEAD := He.int_ok X G (c.fact 52 (f := .int "HEAD" 10) rfl)
  c_OPEN := He.str_ok X G (c.fact 53 (f := .str "OPEN" "open") rfl)
  c_CALL := He.str_ok X G (c.fact 54 (f := .str "CALL" "call") rfl)
  c_CLOSE := He.str_ok X G (c.fact 55 (f := .str "CLOSE" "close") rfl)
  c_TILDE := He.str_ok X G (c.fact 56 (f := .str "TILDE" "~") rfl)
  n_LookupError := He.free_ok X G (c.fact 57 (f := .free "LookupError") rfl)
  n_RuntimeError := He.free_ok X G (c.fact 58 (f := .free "RuntimeError") rfl)
  n_ValueError := He.free_ok X G (c.fact 59 (f := .free "ValueError") rfl)
  n_abs := He.free_ok X G (c.fact 60 (f := .free "abs") rfl)
  n_all := He.free_ok X G (c.fact 61 (f := .free "all") rfl)
  n_bool := He.free_ok X G (c.fact 62 (f := .free "bool") rfl)
  n_dict := He.free_ok X G (c.fact 63 (f := .free "dict") rfl)
  n_divmod := He.free_ok X G (c.fact 64 (f := .free "divmod") rfl)
  n_int := He.free_ok X G (c.fact 65 (f := .free "int") rfl)
  n_isinstance := He.free_ok X G (c.fact 66 (f := .free "isinstance") rfl)
  n_len := He.free_ok X G (c.fact 67 (f := .free "len") rfl)
  n_list := He.free_ok X G (c.fact 68 (f := .free "list") rfl)
  n_max := He.free_ok X G (c.fact 69 (f := .free "max") rfl)
  n_min := He.free_ok X G (c.fact 70 (f := .free "min") rfl)
  n_range := He.free_ok X G (c.fact 71 (f := .free "range") rfl)
  n_repr := He.free_ok X G (c.fact 72 (f := .free "repr") rfl)
  n_sorted := He.free_ok X G (c.fact 73 (f := .free "sorted") rfl)
  n_str := He.free_ok X G (c.fact 74 (f := .free "str") rfl)
  n_sum := He.free_ok X G (c.fact 75 (f := .free "sum") rfl)
  n_tuple := He.free_ok X G (c.fact 76 (f := .free "tuple") rfl)
end K93
open PySem PySem.W PySem.Calls PyProof.Rows
theorem PySem.Challenge.cw_marchhouse_k93_any_device_as_a_store_holds : PySem.Challenge.rw_marchhouse_k93_any_device_as_a_store.Holds := by
  w_on; o_law
  refine HandSHeadRun.head_any (r := OpenLaw.row PySem.Challenge.rw_marchhouse_k93_any_device_as_a_store) (q := view (OpenLaw.row PySem.Challenge.rw_marchhouse_k93_any_device_as_a_store).prog [69]) (H := K93.hk) (ob := K93.ob) (M := 6000) (loose := K93.names) (d := HandSHeadRun.topDef (OpenLaw.row PySem.Challenge.rw_marchhouse_k93_any_device_as_a_store).prog 69) (kwd := []) K93.ob_eq
    (by kernel_rfl) (fun s => by kernel_rfl) K93.run (by kernel_rfl) (by kernel_rfl) (by kernel_rfl) (by rfl) (by first | assumption | decide +kernel) (by decide +kernel) ⟨rfl, rfl, rfl, rfl, rfl, by decide +kernel⟩ ?hw ?hc
  case hw => w_witness2
  case hc =>
    refine Pd.walk_go (l := PySem.Challenge.rw_marchhouse_k93_any_device_as_a_store) (n := 63) (k := 11) (x := "script") rfl (by decide) (by kernel_rfl) ⟨rfl, by decide, by decide⟩ ?F
    intro w mg fa h Y G hmg0
    obtain ⟨K, KX, c⟩ := Y
    have hmg : mg ("law" : PySem.Str) = some (.ref fa) := by
      have e : (HandSHeadRun.topDef (OpenLaw.row PySem.Challenge.rw_marchhouse_k93_any_device_as_a_store).prog 69).name = ("law" : PySem.Str) := by kernel_rfl
      rw [← e]
      exact hmg0
    have Z := K93.facts KX G c
    have e := hmg.symm.trans Z.g_law
    cases e
    obtain ⟨fd, F⟩ := Z.d_law
    have b := L2.FunD.bindsA (ps := ["script"]) F fun _ _ _ _ _ _ us hl => match us, hl with | [_], _ => rfl
    exact ⟨⟨K, fun _ => .none⟩, fd, K93.run_law, KX, fun s u => b s [u] rfl, K93.law_true, fun base hK hG hD => ((K93.ok_law (C := ⟨K, fun _ => .none⟩) (K93.facts hK hG c) hD).2.1 fd F).1⟩
