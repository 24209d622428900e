import PyProof.Rows.All
import Wide.All
import OpenK.AllK
import Wide.FinOn
import HandS.ForMost
import HandS.Evl
import HandS.HeadHook1
import HandS.HeadHook2
import HandS.AnyAll
import HandS.TupAny
import HandS.IsInst
import HandS.SortInts
import HandS.Flow
import HandS.Flt
import HandS.Wide
import HandS.Deep
import HandS.Zip
import HandS.Conv
import HandS.Walk
import HandS.Exc
import HandS.ExcOwn
import HandS.WordsExc
import HandS.Comp
import HandS.Defaults
import HandS.HeadEnd
import HandS.Head2
import HandS.GenOver
import HandS.HeadHook4
import HandS.HeadWalk
import HandS.GenYield
import HandS.Iter
import PyProof.Draws
import HandS.SortRule
import HandS.SortKw
import HandS.Base
import HandS.Call
import HandS.Ends
import HandS.More
import HandS.Words
import HandS.Head0
import HandS.Head1
import PySem.Challenge.RW_pledgedwatts_k82_bills_tick_by_tick
set_option Elab.async false
set_option linter.all false
set_option maxRecDepth 100000
set_option maxHeartbeats 0
/-! Values without the heap: a def's body as a plain function over data (D), owned lists and objects by value. -/
namespace DV
open PySem L2

inductive D where
  | non | bl (b : Bool) | int (i : Int) | str (x : Str)
  | tup (xs : List D)
  | lst (m : Bool) (xs : List D)
  | obj (m : Bool) (C : Str) (ns : List Str) (xs : List D)

/-- an exception as data: its class, its fields -/
structure Xc where
  cls : Str
  ns : List Str
  xs : List D
abbrev Env := List (Option D)
inductive Rs (α : Type) where
  | ok (a : α)
  | exc (x : Xc) (E : Env)
  | stuck
@[simp] def Rs.bind {α β : Type} (r : Rs α) (k : α → Rs β) : Rs β := match r with
  | .ok a => k a
  | .exc x E => .exc x E
  | .stuck => .stuck

mutual
/-- nothing in it may be changed -/
@[simp] def D.fzd : D → Bool
  | .non => true
  | .bl _ => true
  | .int _ => true
  | .str _ => true
  | .tup xs => fzdL xs
  | .lst m xs => !m && fzdL xs
  | .obj m _ _ xs => !m && fzdL xs
@[simp] def fzdL : List D → Bool
  | [] => true
  | d :: ds => d.fzd && fzdL ds
end
mutual
/-- frozen -/
@[simp] def D.fz : D → D
  | .non => .non
  | .bl b => .bl b
  | .int i => .int i
  | .str x => .str x
  | .tup xs => .tup (fzL xs)
  | .lst _ xs => .lst false (fzL xs)
  | .obj _ C ns xs => .obj false C ns (fzL xs)
@[simp] def fzL : List D → List D
  | [] => []
  | d :: ds => d.fz :: fzL ds
end
mutual
/-- no frozen list or object in it -/
@[simp] def D.nofz : D → Bool
  | .non => true
  | .bl _ => true
  | .int _ => true
  | .str _ => true
  | .tup xs => nofzL xs
  | .lst m xs => m && nofzL xs
  | .obj m _ _ xs => m && nofzL xs
@[simp] def nofzL : List D → Bool
  | [] => true
  | d :: ds => d.nofz && nofzL ds
end

/-! ### how data lies in a heap -/
section
variable (K : PySem.W.Frag) (G H : Hp)
mutual
/-- v is the data d: what is frozen lies in G, what is owned lies in H at the addresses fp and not in G -/
def Rp : D → V → List Addr → Prop
  | .non, v, fp => v = .non ∧ fp = []
  | .bl b, v, fp => v = .bl b ∧ fp = []
  | .int i, v, fp => v = .int i ∧ fp = []
  | .str x, v, fp => v = .str x ∧ fp = []
  | .tup ds, v, fp => ∃ a xs, v = .ref a ∧ SqT K G a xs ∧ RpL ds xs fp
  | .lst m ds, v, fp => ∃ a xs, v = .ref a ∧ (if m = true then ∃ f, fp = a :: f ∧ G a = none ∧ H a = some (.lst xs) ∧ RpL ds xs f else fp = [] ∧ SqL K G a xs ∧ RpL ds xs [])
  | .obj m C ns ds, v, fp => ∃ a dx xs, v = .ref a ∧ ns.length = xs.length ∧ (if m = true then ∃ f, fp = a :: f ∧ G a = none ∧ H a = some (.ins (He.ga K C) dx (ns.zip xs)) ∧ RpL ds xs f else fp = [] ∧ G a = some (.ins (He.ga K C) dx (ns.zip xs)) ∧ RpL ds xs [])
def RpL : List D → List V → List Addr → Prop
  | [], xs, fp => xs = [] ∧ fp = []
  | d :: ds, xs, fp => ∃ x r f1 f2, xs = x :: r ∧ fp = f1 ++ f2 ∧ Rp d x f1 ∧ RpL ds r f2
end
end

section
variable {K : PySem.W.Frag} {G G' H H' : Hp}
theorem sqt_same {a : Addr} {xs : List V} (e : Same G G') (h : SqT K G a xs) : SqT K G' a xs := Evl.ex_t e h
theorem rd_same {a : Addr} {u : HO} (e : Same G G') (h : Rd G a u) : Rd G' a u := Evl.ex_rd e h
theorem sql_same {a : Addr} {xs : List V} (e : Same G G') (h : SqL K G a xs) : SqL K G' a xs := Evl.ex_l e h
mutual
theorem Rp.mono (e : Same G G') : ∀ (d : D) (v : V) (fp : List Addr), Rp K G H d v fp → (∀ p ∈ fp, G' p = none ∧ H' p = H p) → Rp K G' H' d v fp
  | .non, _, _, h, _ => by unfold Rp at h ⊢; exact h
  | .bl _, _, _, h, _ => by unfold Rp at h ⊢; exact h
  | .int _, _, _, h, _ => by unfold Rp at h ⊢; exact h
  | .str _, _, _, h, _ => by unfold Rp at h ⊢; exact h
  | .tup ds, _, _, h, k => by
    unfold Rp at h ⊢
    obtain ⟨a, xs, e1, hs, hl⟩ := h
    exact ⟨a, xs, e1, sqt_same e hs, RpL.mono e ds xs _ hl k⟩
  | .lst m ds, _, _, h, k => by
    unfold Rp at h ⊢
    obtain ⟨a, xs, e1, h⟩ := h
    refine ⟨a, xs, e1, ?_⟩
    cases m with
    | true =>
      simp only [if_true] at h ⊢
      obtain ⟨f, e2, g, hh, hl⟩ := h
      subst e2
      have ka := k a (List.mem_cons_self)
      exact ⟨f, rfl, ka.1, ka.2.trans hh, RpL.mono e ds xs f hl fun p hp => k p (List.mem_cons_of_mem _ hp)⟩
    | false =>
      simp only [Bool.false_eq_true, if_false] at h ⊢
      obtain ⟨e2, hs, hl⟩ := h
      exact ⟨e2, sql_same e hs, RpL.mono e ds xs [] hl fun p hp => nomatch hp⟩
  | .obj m C ns ds, _, _, h, k => by
    unfold Rp at h ⊢
    obtain ⟨a, dx, xs, e1, en, h⟩ := h
    refine ⟨a, dx, xs, e1, en, ?_⟩
    cases m with
    | true =>
      simp only [if_true] at h ⊢
      obtain ⟨f, e2, g, hh, hl⟩ := h
      subst e2
      have ka := k a (List.mem_cons_self)
      exact ⟨f, rfl, ka.1, ka.2.trans hh, RpL.mono e ds xs f hl fun p hp => k p (List.mem_cons_of_mem _ hp)⟩
    | false =>
      simp only [Bool.false_eq_true, if_false] at h ⊢
      obtain ⟨e2, hs, hl⟩ := h
      exact ⟨e2, e a _ hs, RpL.mono e ds xs [] hl fun p hp => nomatch hp⟩
theorem RpL.mono (e : Same G G') : ∀ (ds : List D) (xs : List V) (fp : List Addr), RpL K G H ds xs fp → (∀ p ∈ fp, G' p = none ∧ H' p = H p) → RpL K G' H' ds xs fp
  | [], _, _, h, _ => by unfold RpL at h ⊢; exact h
  | d :: ds, _, _, h, k => by
    unfold RpL at h ⊢
    obtain ⟨x, r, f1, f2, e1, e2, h1, h2⟩ := h
    subst e2
    exact ⟨x, r, f1, f2, e1, rfl, Rp.mono e d x f1 h1 fun p hp => k p (List.mem_append_left _ hp), RpL.mono e ds r f2 h2 fun p hp => k p (List.mem_append_right _ hp)⟩
end
/-- what stands at an owned address: a list or an instance -/
def Own1 : HO → Prop
  | .lst _ => True
  | .ins _ _ _ => True
  | _ => False
mutual
theorem Rp.at (d : D) (v : V) (fp : List Addr) (h : Rp K G H d v fp) : ∀ p ∈ fp, G p = none ∧ ∃ o, H p = some o ∧ Own1 o := by
  cases d with
  | tup ds =>
    unfold Rp at h
    obtain ⟨a, xs, e1, hs, hl⟩ := h
    exact RpL.at ds xs fp hl
  | lst m ds =>
    unfold Rp at h
    obtain ⟨a, xs, e1, h⟩ := h
    cases m with
    | true =>
      simp only [if_true] at h
      obtain ⟨f, e2, g, hh, hl⟩ := h
      subst e2
      intro p hp
      rcases List.mem_cons.mp hp with rfl | hp
      · exact ⟨g, _, hh, trivial⟩
      · exact RpL.at ds xs f hl p hp
    | false =>
      simp only [Bool.false_eq_true, if_false] at h
      rw [h.1]
      exact fun p hp => nomatch hp
  | obj m C ns ds =>
    unfold Rp at h
    obtain ⟨a, dx, xs, e1, en, h⟩ := h
    cases m with
    | true =>
      simp only [if_true] at h
      obtain ⟨f, e2, g, hh, hl⟩ := h
      subst e2
      intro p hp
      rcases List.mem_cons.mp hp with rfl | hp
      · exact ⟨g, _, hh, trivial⟩
      · exact RpL.at ds xs f hl p hp
    | false =>
      simp only [Bool.false_eq_true, if_false] at h
      rw [h.1]
      exact fun p hp => nomatch hp
  | _ =>
    unfold Rp at h
    rw [h.2]
    exact fun p hp => nomatch hp
theorem RpL.at (ds : List D) (xs : List V) (fp : List Addr) (h : RpL K G H ds xs fp) : ∀ p ∈ fp, G p = none ∧ ∃ o, H p = some o ∧ Own1 o := by
  cases ds with
  | nil =>
    unfold RpL at h
    rw [h.2]
    exact fun p hp => nomatch hp
  | cons d ds =>
    unfold RpL at h
    obtain ⟨x, r, f1, f2, e1, e2, h1, h2⟩ := h
    subst e2
    intro p hp
    rcases List.mem_append.mp hp with hp | hp
    · exact Rp.at d x f1 h1 p hp
    · exact RpL.at ds r f2 h2 p hp
end
mutual
/-- frozen data owns nothing -/
theorem Rp.nil_of (d : D) (v : V) (fp : List Addr) (f : d.fzd = true) (h : Rp K G H d v fp) : fp = [] := by
  cases d with
  | tup ds =>
    unfold Rp at h
    obtain ⟨a, xs, e1, hs, hl⟩ := h
    exact RpL.nil_of ds xs fp (by simpa [D.fzd] using f) hl
  | lst m ds =>
    unfold Rp at h
    obtain ⟨a, xs, e1, h⟩ := h
    cases m with
    | true => simp [D.fzd] at f
    | false =>
      simp only [Bool.false_eq_true, if_false] at h
      exact h.1
  | obj m C ns ds =>
    unfold Rp at h
    obtain ⟨a, dx, xs, e1, en, h⟩ := h
    cases m with
    | true => simp [D.fzd] at f
    | false =>
      simp only [Bool.false_eq_true, if_false] at h
      exact h.1
  | _ =>
    unfold Rp at h
    exact h.2
theorem RpL.nil_of (ds : List D) (xs : List V) (fp : List Addr) (f : fzdL ds = true) (h : RpL K G H ds xs fp) : fp = [] := by
  cases ds with
  | nil =>
    unfold RpL at h
    exact h.2
  | cons d ds =>
    unfold RpL at h
    obtain ⟨x, r, f1, f2, e1, e2, h1, h2⟩ := h
    have f' : d.fzd = true ∧ fzdL ds = true := by simpa [fzdL] using f
    rw [e2, Rp.nil_of d x f1 f'.1 h1, RpL.nil_of ds r f2 f'.2 h2]
    rfl
end
/-- the owned addresses fp of H, frozen -/
noncomputable def frz (G H : Hp) (fp : Addr → Prop) : Hp := fun a => open Classical in if fp a then H a else G a
theorem frz_same (s : Same G H) (fp : Addr → Prop) : Same G (frz G H fp) := fun a o h => by
  unfold frz
  split
  · exact s a o h
  · exact h
theorem frz_same2 (s : Same G H) (fp : Addr → Prop) : Same (frz G H fp) H := fun a o h => by
  unfold frz at h
  split at h
  · exact h
  · exact s a o h
theorem frz_in {fp : Addr → Prop} {a : Addr} (h : fp a) : frz G H fp a = H a := by unfold frz; rw [if_pos h]
theorem frz_out {fp : Addr → Prop} {a : Addr} (h : ¬ fp a) : frz G H fp a = G a := by unfold frz; rw [if_neg h]
mutual
theorem Rp.frz (s : Same G H) (P : Addr → Prop) : ∀ (d : D) (v : V) (fp : List Addr), Rp K G H d v fp → (∀ p ∈ fp, P p) → Rp K (frz G H P) H' d.fz v []
  | .non, _, _, h, _ => by unfold Rp at h; unfold D.fz Rp; exact ⟨h.1, rfl⟩
  | .bl _, _, _, h, _ => by unfold Rp at h; unfold D.fz Rp; exact ⟨h.1, rfl⟩
  | .int _, _, _, h, _ => by unfold Rp at h; unfold D.fz Rp; exact ⟨h.1, rfl⟩
  | .str _, _, _, h, _ => by unfold Rp at h; unfold D.fz Rp; exact ⟨h.1, rfl⟩
  | .tup ds, _, _, h, k => by
    unfold Rp at h; unfold D.fz Rp
    obtain ⟨a, xs, e1, hs, hl⟩ := h
    exact ⟨a, xs, e1, sqt_same (frz_same s P) hs, RpL.frz s P ds xs _ hl k⟩
  | .lst m ds, _, _, h, k => by
    unfold Rp at h; unfold D.fz Rp
    obtain ⟨a, xs, e1, h⟩ := h
    refine ⟨a, xs, e1, ?_⟩
    simp only [Bool.false_eq_true, if_false]
    cases m with
    | true =>
      simp only [if_true] at h
      obtain ⟨f, e2, g, hh, hl⟩ := h
      subst e2
      exact ⟨trivial, SqL.of ((frz_in (k a (List.mem_cons_self))).trans hh), RpL.frz s P ds xs f hl fun p hp => k p (List.mem_cons_of_mem _ hp)⟩
    | false =>
      simp only [Bool.false_eq_true, if_false] at h
      obtain ⟨e2, hs, hl⟩ := h
      exact ⟨trivial, sql_same (frz_same s P) hs, RpL.frz s P ds xs [] hl fun p hp => nomatch hp⟩
  | .obj m C ns ds, _, _, h, k => by
    unfold Rp at h; unfold D.fz Rp
    obtain ⟨a, dx, xs, e1, en, h⟩ := h
    refine ⟨a, dx, xs, e1, en, ?_⟩
    simp only [Bool.false_eq_true, if_false]
    cases m with
    | true =>
      simp only [if_true] at h
      obtain ⟨f, e2, g, hh, hl⟩ := h
      subst e2
      exact ⟨trivial, (frz_in (k a (List.mem_cons_self))).trans hh, RpL.frz s P ds xs f hl fun p hp => k p (List.mem_cons_of_mem _ hp)⟩
    | false =>
      simp only [Bool.false_eq_true, if_false] at h
      obtain ⟨e2, hs, hl⟩ := h
      exact ⟨trivial, frz_same s P a _ hs, RpL.frz s P ds xs [] hl fun p hp => nomatch hp⟩
theorem RpL.frz (s : Same G H) (P : Addr → Prop) : ∀ (ds : List D) (xs : List V) (fp : List Addr), RpL K G H ds xs fp → (∀ p ∈ fp, P p) → RpL K (frz G H P) H' (fzL ds) xs []
  | [], _, _, h, _ => by unfold RpL at h; unfold fzL RpL; exact ⟨h.1, rfl⟩
  | d :: ds, _, _, h, k => by
    unfold RpL at h; unfold fzL RpL
    obtain ⟨x, r, f1, f2, e1, e2, h1, h2⟩ := h
    subst e2
    exact ⟨x, r, [], [], e1, rfl, Rp.frz s P d x f1 h1 fun p hp => k p (List.mem_append_left _ hp), RpL.frz s P ds r f2 h2 fun p hp => k p (List.mem_append_right _ hp)⟩
end
mutual
/-- frozen data is its own frozen form -/
theorem D.fz_of (d : D) (f : d.fzd = true) : d.fz = d := by
  cases d with
  | tup ds => unfold D.fz; rw [fzL_of ds (by simpa [D.fzd] using f)]
  | lst m ds =>
    have f' : m = false ∧ fzdL ds = true := by simpa [D.fzd] using f
    unfold D.fz; rw [fzL_of ds f'.2, f'.1]
  | obj m C ns ds =>
    have f' : m = false ∧ fzdL ds = true := by simpa [D.fzd] using f
    unfold D.fz; rw [fzL_of ds f'.2, f'.1]
  | _ => rfl
theorem fzL_of (ds : List D) (f : fzdL ds = true) : fzL ds = ds := by
  cases ds with
  | nil => rfl
  | cons d ds =>
    have f' : d.fzd = true ∧ fzdL ds = true := by simpa [fzdL] using f
    unfold fzL; rw [D.fz_of d f'.1, fzL_of ds f'.2]
end
theorem fzL_map (ds : List D) : fzL ds = ds.map D.fz := by
  induction ds with
  | nil => rfl
  | cons d ds ih => unfold fzL; rw [ih]; rfl
mutual
theorem D.fzd_fz (d : D) : d.fz.fzd = true := by
  cases d with
  | tup ds => unfold D.fz D.fzd; exact fzdL_fzL ds
  | lst m ds => unfold D.fz D.fzd; simp [fzdL_fzL ds]
  | obj m C ns ds => unfold D.fz D.fzd; simp [fzdL_fzL ds]
  | _ => rfl
theorem fzdL_fzL (ds : List D) : fzdL (fzL ds) = true := by
  cases ds with
  | nil => rfl
  | cons d ds => unfold fzL fzdL; rw [D.fzd_fz d, fzdL_fzL ds]; rfl
end
/-- what stays for ever: tuples, and what is locked -/
def Stb : HO → Prop
  | .tup _ => True
  | .frz _ _ => True
  | _ => False
theorem sqt_stb {a : Addr} {xs : List V} (k : ∀ a o, G a = some o → Stb o → G' a = some o) (h : SqT K G a xs) : SqT K G' a xs := by
  rcases h with (h | ⟨o, h⟩) | h
  · exact .inl (.inl (k _ _ h trivial))
  · exact .inl (.inr ⟨o, k _ _ h trivial⟩)
  · exact .inr h
mutual
/-- without frozen lists: over another frozen heap -/
theorem Rp.rebase (k : ∀ a o, G a = some o → Stb o → G' a = some o) : ∀ (d : D) (v : V) (fp : List Addr), d.nofz = true → Rp K G H d v fp → (∀ p ∈ fp, G' p = none) → Rp K G' H d v fp
  | .non, _, _, _, h, _ => by unfold Rp at h ⊢; exact h
  | .bl _, _, _, _, h, _ => by unfold Rp at h ⊢; exact h
  | .int _, _, _, _, h, _ => by unfold Rp at h ⊢; exact h
  | .str _, _, _, _, h, _ => by unfold Rp at h ⊢; exact h
  | .tup ds, _, _, n, h, q => by
    unfold Rp at h ⊢
    obtain ⟨a, xs, e1, hs, hl⟩ := h
    exact ⟨a, xs, e1, sqt_stb k hs, RpL.rebase k ds xs _ (by simpa [D.nofz] using n) hl q⟩
  | .lst m ds, _, _, n, h, q => by
    have n' : m = true ∧ nofzL ds = true := by simpa [D.nofz] using n
    unfold Rp at h ⊢
    obtain ⟨a, xs, e1, h⟩ := h
    refine ⟨a, xs, e1, ?_⟩
    obtain ⟨rfl, n2⟩ := n'
    simp only [if_true] at h ⊢
    obtain ⟨f, e2, g, hh, hl⟩ := h
    subst e2
    exact ⟨f, rfl, q a List.mem_cons_self, hh, RpL.rebase k ds xs f n2 hl fun p hp => q p (List.mem_cons_of_mem _ hp)⟩
  | .obj m C ns ds, _, _, n, h, q => by
    have n' : m = true ∧ nofzL ds = true := by simpa [D.nofz] using n
    unfold Rp at h ⊢
    obtain ⟨a, dx, xs, e1, en, h⟩ := h
    refine ⟨a, dx, xs, e1, en, ?_⟩
    obtain ⟨rfl, n2⟩ := n'
    simp only [if_true] at h ⊢
    obtain ⟨f, e2, g, hh, hl⟩ := h
    subst e2
    exact ⟨f, rfl, q a List.mem_cons_self, hh, RpL.rebase k ds xs f n2 hl fun p hp => q p (List.mem_cons_of_mem _ hp)⟩
theorem RpL.rebase (k : ∀ a o, G a = some o → Stb o → G' a = some o) : ∀ (ds : List D) (xs : List V) (fp : List Addr), nofzL ds = true → RpL K G H ds xs fp → (∀ p ∈ fp, G' p = none) → RpL K G' H ds xs fp
  | [], _, _, _, h, _ => by unfold RpL at h ⊢; exact h
  | d :: ds, _, _, n, h, q => by
    have n' : d.nofz = true ∧ nofzL ds = true := by simpa [nofzL] using n
    unfold RpL at h ⊢
    obtain ⟨x, r, f1, f2, e1, e2, h1, h2⟩ := h
    subst e2
    exact ⟨x, r, f1, f2, e1, rfl, Rp.rebase k d x f1 n'.1 h1 fun p hp => q p (List.mem_append_left _ hp), RpL.rebase k ds r f2 n'.2 h2 fun p hp => q p (List.mem_append_right _ hp)⟩
end
theorem RpL.len : ∀ (ds : List D) (xs : List V) (fp : List Addr), RpL K G H ds xs fp → xs.length = ds.length
  | [], _, _, h => by unfold RpL at h; rw [h.1]; rfl
  | d :: ds, _, _, h => by
    unfold RpL at h
    obtain ⟨x, r, f1, f2, e1, e2, h1, h2⟩ := h
    rw [e1, List.length_cons, List.length_cons, RpL.len ds r f2 h2]
/-- one of them -/
theorem RpL.get : ∀ (ds : List D) (xs : List V) (fp : List Addr) (i : Nat) (d : D), RpL K G H ds xs fp → ds[i]? = some d → ∃ x f, xs[i]? = some x ∧ Rp K G H d x f ∧ (∀ p ∈ f, p ∈ fp) ∧ (fp.Nodup → f.Nodup)
  | [], _, _, _, _, _, e => by simp at e
  | d :: ds, _, _, 0, d', h, e => by
    unfold RpL at h
    obtain ⟨x, r, f1, f2, e1, e2, h1, h2⟩ := h
    have e' : d = d' := by simpa using e
    subst e' e1 e2
    exact ⟨x, f1, rfl, h1, fun p hp => List.mem_append_left _ hp, fun n => (List.nodup_append.mp n).1⟩
  | d :: ds, _, _, i + 1, d', h, e => by
    unfold RpL at h
    obtain ⟨x, r, f1, f2, e1, e2, h1, h2⟩ := h
    subst e1 e2
    obtain ⟨y, f, ey, hy, hs, hn⟩ := RpL.get ds r f2 i d' h2 (by simpa using e)
    exact ⟨y, f, by simpa using ey, hy, fun p hp => List.mem_append_right _ (hs p hp), fun n => hn (List.nodup_append.mp n).2.1⟩
theorem fzdL_iff : ∀ ds : List D, fzdL ds = true ↔ ∀ d ∈ ds, d.fzd = true
  | [] => by simp [fzdL]
  | d :: ds => by simp [fzdL, fzdL_iff ds]
theorem RpL.append : ∀ (ds : List D) {es : List D} {xs ys : List V} {f g : List Addr}, RpL K G H ds xs f → RpL K G H es ys g → RpL K G H (ds ++ es) (xs ++ ys) (f ++ g)
  | [], es, xs, ys, f, g, h, h2 => by unfold RpL at h; obtain ⟨rfl, rfl⟩ := h; exact h2
  | d :: ds, es, xs, ys, f, g, h, h2 => by
    unfold RpL at h
    obtain ⟨x, r, f1, f2, e1, e2, h1, h3⟩ := h
    subst e1 e2
    show RpL K G H (d :: (ds ++ es)) (x :: (r ++ ys)) _
    unfold RpL
    exact ⟨x, r ++ ys, f1, f2 ++ g, rfl, by rw [List.append_assoc], h1, RpL.append ds h3 h2⟩
end
end DV

namespace DV
open PySem L2

/-- what is fixed while a body (or a part of it) runs: F, the addresses of others -/
structure Fr where
  K : PySem.W.Frag
  G0 : Hp
  H0 : Hp
  F : Addr → Prop
  pn : Nat → Prop
  σ0 : St

/-- the tables of code objects: they grow when a generator expression or a lambda runs -/
class Tb where
  T : Addr → Prop
def NotT : HO → Prop
  | .tbl _ => False
  | _ => True
theorem Own1.notT {o : HO} (h : Own1 o) : NotT o := by cases o <;> simp [Own1, NotT] at h ⊢
theorem NotT.ne {o : HO} {ps : Array Value} (h : NotT o) : o ≠ .tbl ps := fun z => by rw [z] at h; exact h
structure SR [Tb] (f : Fr) (G H : Hp) (σ : St) (E : Env) (fp : Nat → List Addr) : Prop where
  g0 : Same f.G0 G
  ex : Same G H
  fr : ∀ a, f.F a → H a = f.H0 a ∧ G a = none ∧ ∃ o, H a = some o ∧ NotT o
  stb : ∀ a o, H a = some o → Stb o → G a = some o
  pin : ∀ i, f.pn i → σ[i]? = f.σ0[i]?
  slen : σ.length = f.σ0.length
  len : E.length ≤ σ.length
  slot : ∀ (i : Nat) (d : D), E[i]? = some (some d) → ∃ v, σ[i]? = some (some v) ∧ Rp f.K G H d v (fp i)
  none_ : ∀ (i : Nat), (∀ d, E[i]? ≠ some (some d)) → fp i = []
  nd : ∀ i, (fp i).Nodup
  sep : ∀ i j a, a ∈ fp i → a ∈ fp j → i = j
  out : ∀ i a, a ∈ fp i → ¬ f.F a
  tab : ∀ a, (Tb.T a ∨ (GxR.TabG f.H0 a ∧ f.G0 a = none)) → GxR.TabG H a ∧ G a = none

/-- only new things have come -/
structure Step (G H G' H' : Hp) : Prop where
  eg : Same G G'
  eh : ∀ a o, H a = some o → NotT o → H' a = some o
  old : ∀ a o, H a = some o → NotT o → G' a = G a
  ex : Same G' H'
  stb : ∀ a o, H' a = some o → Stb o → G' a = some o
  tab : ∀ a, GxR.TabG H a → G a = none → GxR.TabG H' a ∧ G' a = none
theorem Step.refl {G H : Hp} (e : Same G H) (s : ∀ a o, H a = some o → Stb o → G a = some o) : Step G H G H := ⟨Same.refl _, fun _ _ h _ => h, fun _ _ _ _ => rfl, e, s, fun _ h g => ⟨h, g⟩⟩
theorem Step.trans {G H G1 H1 G2 H2 : Hp} (a : Step G H G1 H1) (b : Step G1 H1 G2 H2) : Step G H G2 H2 :=
  ⟨a.eg.trans b.eg, fun p o h n => b.eh p o (a.eh p o h n) n, fun p o h n => (b.old p o (a.eh p o h n) n).trans (a.old p o h n), b.ex, b.stb, fun p h g => let z := a.tab p h g; b.tab p z.1 z.2⟩
section
variable [Tb] {f : Fr} {G G' H H' : Hp} {σ : St} {E E' : Env} {fp fp' : Nat → List Addr} {d : D} {v : V}
omit [Tb] in
theorem Rp.step (s : Step G H G' H') {K : PySem.W.Frag} {q : List Addr} (h : Rp K G H d v q) : Rp K G' H' d v q :=
  Rp.mono s.eg d v q h fun p hp => by
    obtain ⟨g, o, ho, hw⟩ := Rp.at d v q h p hp
    exact ⟨(s.old p o ho hw.notT).trans g, (s.eh p o ho hw.notT).trans ho.symm⟩
omit [Tb] in
theorem RpL.step (s : Step G H G' H') {K : PySem.W.Frag} {ds : List D} {vs : List V} {q : List Addr} (h : RpL K G H ds vs q) : RpL K G' H' ds vs q :=
  RpL.mono s.eg ds vs q h fun p hp => by
    obtain ⟨g, o, ho, hw⟩ := RpL.at ds vs q h p hp
    exact ⟨(s.old p o ho hw.notT).trans g, (s.eh p o ho hw.notT).trans ho.symm⟩
theorem SR.step (S : SR f G H σ E fp) (s : Step G H G' H') : SR f G' H' σ E fp where
  g0 := S.g0.trans s.eg
  ex := s.ex
  fr := fun a ha => by
    obtain ⟨h1, h2, o, e, n⟩ := S.fr a ha
    have e' := s.eh a o e n
    exact ⟨e'.trans (e.symm.trans h1), (s.old a o e n).trans h2, o, e', n⟩
  stb := s.stb
  pin := S.pin
  slen := S.slen
  len := S.len
  slot := fun i d e => let ⟨v, e1, r⟩ := S.slot i d e; ⟨v, e1, r.step s⟩
  none_ := S.none_
  nd := S.nd
  sep := S.sep
  out := S.out
  tab := fun a h => s.tab a (S.tab a h).1 (S.tab a h).2
theorem SR.refl (S : SR f G H σ E fp) : Step G H G H := .refl S.ex S.stb
/-- where it stands: owned things are known to the heap -/
theorem SR.at (S : SR f G H σ E fp) (i : Nat) : ∀ p ∈ fp i, G p = none ∧ ∃ o, H p = some o ∧ Own1 o := fun p hp => by
  cases e : E[i]? with
  | none =>
    rw [S.none_ i fun d q => by rw [e] at q; cases q] at hp
    cases hp
  | some o =>
    cases o with
    | none =>
      rw [S.none_ i fun d q => by rw [e] at q; cases q] at hp
      cases hp
    | some d =>
      obtain ⟨v, _, r⟩ := S.slot i d e
      exact Rp.at d v _ r p hp
theorem SR.tabF (S : SR f G H σ E fp) {q : List Addr} (hq : ∀ a ∈ q, ∃ o, H a = some o ∧ Own1 o) : ∀ a, (Tb.T a ∨ (GxR.TabG f.H0 a ∧ f.G0 a = none)) → GxR.TabG H a ∧ frz G H (· ∈ q) a = none := fun a h => by
  obtain ⟨t, g⟩ := S.tab a h
  refine ⟨t, ?_⟩
  rw [frz_out fun z => by
    obtain ⟨o, ho, hw⟩ := hq a z
    obtain ⟨ps, e, _⟩ := t
    rw [ho] at e
    cases e
    exact hw]
  exact g
theorem SR.tabU (S : SR f G H σ E fp) {p : Addr} {o o' : HO} (hp : H p = some o) (hw : NotT o) : ∀ a, (Tb.T a ∨ (GxR.TabG f.H0 a ∧ f.G0 a = none)) → GxR.TabG (upd H p o') a ∧ G a = none := fun a h => by
  obtain ⟨⟨ps, e, r⟩, g⟩ := S.tab a h
  refine ⟨⟨ps, ?_, r⟩, g⟩
  rw [upd_ne fun z => by
    rw [z, hp] at e
    cases e
    exact hw]
  exact e
/-- what is owned besides: fit for a value -/
structure Ow (f : Fr) (fp : Nat → List Addr) (q : List Addr) : Prop where
  nd : q.Nodup
  out : ∀ a ∈ q, ¬ f.F a
  sep : ∀ a ∈ q, ∀ i, a ∉ fp i
omit [Tb] in
theorem Ow.nil : Ow f fp [] := ⟨List.nodup_nil, fun _ h => (nomatch h), fun _ h => (nomatch h)⟩
/-- the frame with more addresses of others -/
def Fr.push (f : Fr) (G H : Hp) (q : List Addr) : Fr := { f with G0 := G, H0 := H, F := fun a => f.F a ∨ a ∈ q }
theorem SR.push (S : SR f G H σ E fp) {q : List Addr} (hq : ∀ p ∈ q, G p = none ∧ ∃ o, H p = some o ∧ NotT o) (o : Ow f fp q) : SR (f.push G H q) G H σ E fp where
  g0 := Same.refl _
  ex := S.ex
  fr := fun a ha => by
    rcases ha with ha | ha
    · exact ⟨rfl, (S.fr a ha).2.1, (S.fr a ha).2.2⟩
    · exact ⟨rfl, (hq a ha).1, (hq a ha).2⟩
  stb := S.stb
  pin := S.pin
  slen := S.slen
  len := S.len
  slot := S.slot
  none_ := S.none_
  nd := S.nd
  sep := S.sep
  out := fun i a ha h => by
    rcases h with h | h
    · exact S.out i a ha h
    · exact o.sep a h i ha
  tab := fun a h => h.elim (fun z => S.tab a (.inl z)) id
theorem SR.pop {q : List Addr} {σ' : St} (S : SR f G H σ E fp) (S' : SR (f.push G H q) G' H' σ' E' fp') : SR f G' H' σ' E' fp' where
  g0 := S.g0.trans S'.g0
  ex := S'.ex
  fr := fun a ha => by
    obtain ⟨h1, h2, h3⟩ := S'.fr a (.inl ha)
    exact ⟨h1.trans (S.fr a ha).1, h2, h3⟩
  stb := S'.stb
  pin := S'.pin
  slen := S'.slen
  len := S'.len
  slot := S'.slot
  none_ := S'.none_
  nd := S'.nd
  sep := S'.sep
  out := fun i a ha h => S'.out i a ha (.inl h)
  tab := fun a h => h.elim (fun z => S'.tab a (.inl z)) fun z => S'.tab a (.inr (S.tab a (.inr z)))
/-- what was pushed still stands, apart -/
theorem SR.pushed {q : List Addr} {σ' : St} (o : Ow f fp q) (S' : SR (f.push G H q) G' H' σ' E' fp') : Ow f fp' q ∧ (∀ p ∈ q, G' p = none ∧ H' p = H p) ∧ Same G G' :=
  ⟨⟨o.nd, o.out, fun a ha i hi => S'.out i a hi (.inr ha)⟩, fun p hp => ⟨(S'.fr p (.inr hp)).2.1, (S'.fr p (.inr hp)).1⟩, S'.g0⟩
end

/-! ### paths into owned data -/
def D.kids : D → List D
  | .lst true xs => xs
  | .obj true _ _ xs => xs
  | _ => []
@[simp] def D.atP : D → List Nat → Option D
  | d, [] => some d
  | d, k :: ks => match d.kids[k]? with
    | some e => e.atP ks
    | none => none
/-- what stands at p has the parts xs -/
def NodeIs (K : PySem.W.Frag) (H : Hp) (d : D) (p : Addr) (xs : List V) : Prop := match d with
  | .lst true _ => H p = some (.lst xs)
  | .obj true C ns _ => ns.length = xs.length ∧ ∃ dx, H p = some (.ins (He.ga K C) dx (ns.zip xs))
  | _ => False
/-- the value at the end of a path -/
def At (K : PySem.W.Frag) (H : Hp) : D → V → List Nat → V → Prop
  | _, v, [], v' => v' = v
  | d, v, k :: ks, v' => ∃ p xs x e, v = .ref p ∧ d.kids[k]? = some e ∧ xs[k]? = some x ∧ NodeIs K H d p xs ∧ At K H e x ks v'
section
variable {K : PySem.W.Frag} {G H H' : Hp}
theorem At.same (s : ∀ a o, H a = some o → NotT o → H' a = some o) : ∀ (ks : List Nat) (d : D) (v v' : V), At K H d v ks v' → At K H' d v ks v'
  | [], _, _, _, h => h
  | k :: ks, d, v, v', h => by
    obtain ⟨p, xs, x, e, e1, e2, e3, e4, h⟩ := h
    refine ⟨p, xs, x, e, e1, e2, e3, ?_, At.same s ks e x v' h⟩
    cases d with
    | lst m ds =>
      cases m with
      | true => exact s _ _ e4 trivial
      | false => exact e4
    | obj m C ns ds =>
      cases m with
      | true => exact ⟨e4.1, e4.2.choose, s _ _ e4.2.choose_spec trivial⟩
      | false => exact e4
    | _ => exact e4
theorem At.snoc : ∀ (ks : List Nat) (d : D) (v v' v'' : V) (d' : D) (k : Nat), At K H d v ks v' → d.atP ks = some d' → At K H d' v' [k] v'' → At K H d v (ks ++ [k]) v''
  | [], d, v, v', v'', d', k, h, e, h2 => by
    have e1 : d = d' := Option.some.inj e
    have e2 : v' = v := h
    subst e1 e2
    exact h2
  | j :: ks, d, v, v', v'', d', k, h, e, h2 => by
    obtain ⟨p, xs, x, c, e1, e2, e3, e4, h⟩ := h
    have e : (match d.kids[j]? with
      | some e => e.atP ks
      | none => none) = some d' := e
    rw [e2] at e
    exact ⟨p, xs, x, c, e1, e2, e3, e4, At.snoc ks c x v' v'' d' k h e h2⟩
theorem Rp.kid {d : D} {v : V} {q : List Addr} {k : Nat} {e : D} {p : Addr} {xs : List V} {x : V} (r : Rp K G H d v q) (e1 : v = .ref p) (e2 : d.kids[k]? = some e) (e3 : xs[k]? = some x) (e4 : NodeIs K H d p xs) : ∃ q', Rp K G H e x q' ∧ (∀ a ∈ q', a ∈ q) ∧ (q.Nodup → q'.Nodup) := by
  cases d with
  | lst m ds =>
    cases m with
    | false => exact e4.elim
    | true =>
      unfold Rp at r
      obtain ⟨a, ys, e5, r⟩ := r
      simp only [if_true] at r
      obtain ⟨f, e6, g, hh, hl⟩ := r
      rw [e1] at e5
      cases e5
      have e4 : H p = some (.lst xs) := e4
      rw [hh] at e4
      obtain rfl : ys = xs := by injection e4 with e4; injection e4
      obtain ⟨y, q', ey, ry, s, n⟩ := RpL.get ds ys f k e hl e2
      rw [e3] at ey
      cases ey
      subst e6
      exact ⟨q', ry, fun a ha => List.mem_cons_of_mem _ (s a ha), fun hn => n (List.nodup_cons.mp hn).2⟩
  | obj m C ns ds =>
    cases m with
    | false => exact e4.elim
    | true =>
      unfold Rp at r
      obtain ⟨a, dx, ys, e5, en, r⟩ := r
      simp only [if_true] at r
      obtain ⟨f, e6, g, hh, hl⟩ := r
      rw [e1] at e5
      cases e5
      obtain ⟨en', dx', e4⟩ := e4
      rw [hh] at e4
      have e7 : ns.zip ys = ns.zip xs := by
        injection e4 with e4
        injection e4
      have e8 : ys = xs := by
        have h1 := congrArg (List.map Prod.snd) e7
        rwa [List.map_snd_zip (by omega), List.map_snd_zip (by omega)] at h1
      subst e8
      obtain ⟨y, q', ey, ry, s, n⟩ := RpL.get ds ys f k e hl e2
      rw [e3] at ey
      cases ey
      subst e6
      exact ⟨q', ry, fun a ha => List.mem_cons_of_mem _ (s a ha), fun hn => n (List.nodup_cons.mp hn).2⟩
  | _ => exact e4.elim
theorem At.rep : ∀ (ks : List Nat) (d : D) (v v' : V) (q : List Addr) (d' : D), Rp K G H d v q → At K H d v ks v' → d.atP ks = some d' → ∃ q', Rp K G H d' v' q' ∧ ∀ a ∈ q', a ∈ q
  | [], d, v, v', q, d', r, h, e => by
    have e1 : d = d' := Option.some.inj e
    have e2 : v' = v := h
    subst e1 e2
    exact ⟨q, r, fun a ha => ha⟩
  | k :: ks, d, v, v', q, d', r, h, e => by
    obtain ⟨p, xs, x, c, e1, e2, e3, e4, h⟩ := h
    have e : (match d.kids[k]? with
      | some e => e.atP ks
      | none => none) = some d' := e
    rw [e2] at e
    obtain ⟨q1, r1, s1, _⟩ := r.kid e1 e2 e3 e4
    obtain ⟨q2, r2, s2⟩ := At.rep ks c x v' q1 d' r1 h e
    exact ⟨q2, r2, fun a ha => s1 a (s2 a ha)⟩
end

/-! ### operands -/
/-- what an expression has given: a value that nobody else owns, or a place within a slot's data -/
inductive Opd where
  | val (d : D)
  | path (i : Nat) (ks : List Nat)
@[simp] def Opd.res : Opd → Env → Option D
  | .val d, _ => some d
  | .path i ks, E => match E[i]? with
    | some (some d) => d.atP ks
    | _ => none
@[simp] def Opd.isBor : Opd → Bool
  | .path _ (_ :: _) => true
  | _ => false
def OpF (K : PySem.W.Frag) (G H : Hp) (σ : St) (E : Env) : Opd → V → List Addr → Prop
  | .val d, v, q => Rp K G H d v q
  | .path i ks, v, q => q = [] ∧ ∃ v0, σ[i]? = some (some v0) ∧ (match ks with
    | [] => v = v0
    | k :: r => ∃ d0, E[i]? = some (some d0) ∧ At K H d0 v0 (k :: r) v)
abbrev EvR := Env → Rs (Opd × Env × Bool)
/-- a wish about exceptions -/
def XRep (K : PySem.W.Frag) (G H : Hp) (x : Xc) (dx : Addr) : Prop := ∃ vs, x.ns.length = vs.length ∧ H dx = some (.xd (x.ns.zip vs)) ∧ RpL K G H x.xs vs []
/-- nothing but new things: the slots as they were -/
structure Quiet (G H G' H' : Hp) (E E' : Env) (fp fp' : Nat → List Addr) : Prop where
  st : Step G H G' H'
  env : E' = E
  fps : fp' = fp
def PostX [Tb] (f : Fr) (W : WX) (σ : St) (x : Xc) (E' : Env) : Prop := ∀ G' H' fp' dx, SR f G' H' σ E' fp' → XRep f.K G' H' x dx → W (.ref (He.ga f.K x.cls)) (some dx) σ H'
def PostE [Tb] (f : Fr) (W : WX) (σ : St) (Q : VK) (G H : Hp) (E : Env) (fp : Nat → List Addr) : Rs (Opd × Env × Bool) → Prop
  | .ok (o, E', c) => ∀ v G' H' fp' q, SR f G' H' σ E' fp' → OpF f.K G' H' σ E' o v q → Ow f fp' q → (c = false → Quiet G H G' H' E E' fp fp') → Q v H'
  | .exc x E' => PostX f W σ x E'
  | .stuck => False
/-- an expression's reading by a function over data -/
def tE [Tb] (K : PySem.W.Frag) (W : WX) (r : EvR) : TE := fun σ H Q => ∃ f G E fp, f.K = K ∧ SR f G H σ E fp ∧ PostE f W σ Q G H E fp (r E)
theorem _root_.L2.PE.weak {X : Cx} {e : Expr} {t t' : TE} (h : PE X e t) (k : ∀ σ H Q, t' σ H Q → t σ H Q) : PE X e t' := ⟨fun pins s σ H Q I w => h.run pins s σ H Q I (k σ H Q w)⟩
theorem _root_.L2.PT.weak {X : Cx} {e : Expr} {t t' : TT} (h : PT X e t) (k : ∀ σ H Q, t' σ H Q → t σ H Q) : PT X e t' := ⟨fun pins s σ H Q I w => h.run pins s σ H Q I (k σ H Q w)⟩
theorem _root_.L2.PA.weak {X : Cx} {e : List Expr} {t t' : TA} (h : PA X e t) (k : ∀ σ H Q, t' σ H Q → t σ H Q) : PA X e t' := ⟨fun pos pins s σ H Q I w => h.run pos pins s σ H Q I (k σ H Q w)⟩
theorem _root_.L2.PS.weak {X : Cx} {e : Stmt} {t t' : TS} (h : PS X e t) (k : ∀ D σ H, t' D σ H → t D σ H) : PS X e t' := ⟨fun pins s σ H D I w => h.run pins s σ H D I (k D σ H w)⟩
theorem _root_.L2.PSs.weak {X : Cx} {e : List Stmt} {t t' : TS} (h : PSs X e t) (k : ∀ D σ H, t' D σ H → t D σ H) : PSs X e t' := ⟨fun pins s σ H D I w => h.run pins s σ H D I (k D σ H w)⟩
abbrev DE [Tb] (X : Cx) (W : WX) (e : Expr) (r : EvR) : Prop := PE X e (tE X.K W r)
section
variable [Tb] {f : Fr} {G G' H H' : Hp} {σ : St} {E E' : Env} {fp fp' : Nat → List Addr} {d : D} {v : V} {o : Opd} {q : List Addr}
omit [Tb] in
theorem OpF.at (h : OpF f.K G H σ E o v q) : ∀ p ∈ q, G p = none ∧ ∃ o, H p = some o ∧ NotT o := fun p hp => by
  cases o with
  | val d =>
    obtain ⟨g, u, hu, hw⟩ := Rp.at d v q h p hp
    exact ⟨g, u, hu, hw.notT⟩
  | path i ks => rw [h.1] at hp; cases hp
/-- the data of an operand -/
theorem OpF.rep (S : SR f G H σ E fp) (h : OpF f.K G H σ E o v q) (e : o.res E = some d) : ∃ q', Rp f.K G H d v q' ∧ (∀ p ∈ q', p ∈ q ∨ (∃ i, p ∈ fp i)) ∧ (∀ d', o = .val d' → q' = q) ∧ (∀ i ks, o = .path i ks → ∀ p ∈ q', p ∈ fp i) := by
  cases o with
  | val d' =>
    have : d' = d := Option.some.inj e
    subst this
    exact ⟨q, h, fun p hp => .inl hp, fun _ _ => rfl, fun _ _ z => nomatch z⟩
  | path i ks =>
    obtain ⟨_, v0, e1, h⟩ := h
    have e3 : (match E[i]? with | some (some d) => d.atP ks | _ => none) = some d := e
    cases q : E[i]? with
    | none => rw [q] at e3; cases e3
    | some o =>
      cases o with
      | none => rw [q] at e3; cases e3
      | some d0 =>
        rw [q] at e3
        have e3 : d0.atP ks = some d := e3
        obtain ⟨v', e4, r⟩ := S.slot i d0 q
        rw [e1] at e4
        have : v0 = v' := Option.some.inj (Option.some.inj e4)
        subst this
        have ha : At f.K H d0 v0 ks v := by
          cases ks with
          | nil => exact h
          | cons k r =>
            obtain ⟨d1, e5, h⟩ := h
            rw [q] at e5
            cases e5
            exact h
        obtain ⟨q', r', s⟩ := At.rep ks d0 v0 v (fp i) d r ha e3
        exact ⟨q', r', fun p hp => .inr ⟨i, s p hp⟩, (fun _ z => nomatch z), fun i' ks' z p hp => by cases z; exact s p hp⟩
/-- an operand that waits while another expression runs -/
theorem OpF.wait {G2 H2 : Hp} {E2 : Env} {fp2 : Nat → List Addr} {c : Bool} (hb : (o.isBor && c) = false) (h : OpF f.K G H σ E o v q) (S2 : SR (f.push G H q) G2 H2 σ E2 fp2)
    (hq : c = false → Quiet G H G2 H2 E E2 fp fp2) : OpF f.K G2 H2 σ E2 o v q := by
  cases o with
  | val d =>
    refine Rp.mono S2.g0 d v q h fun p hp => ?_
    have := S2.fr p (.inr hp)
    exact ⟨this.2.1, this.1⟩
  | path i ks =>
    obtain ⟨e1, v0, e2, h⟩ := h
    refine ⟨e1, v0, e2, ?_⟩
    cases ks with
    | nil => exact h
    | cons k r =>
      have hc : c = false := by simpa [Opd.isBor] using hb
      obtain ⟨d0, e3, h⟩ := h
      have := hq hc
      exact ⟨d0, by rw [this.env]; exact e3, At.same this.st.eh _ _ _ _ h⟩
end

section
variable [Tb] {f : Fr} {G G' H H' G1 H1 G2 H2 : Hp} {σ : St} {E E' E1 E2 : Env} {fp fp' fp1 fp2 : Nat → List Addr} {d : D} {v : V} {o : Opd} {q : List Addr}
theorem Quiet.refl (S : SR f G H σ E fp) : Quiet G H G H E E fp fp := ⟨S.refl, rfl, rfl⟩
theorem Quiet.trans (a : Quiet G H G1 H1 E E1 fp fp1) (b : Quiet G1 H1 G2 H2 E1 E2 fp1 fp2) : Quiet G H G2 H2 E E2 fp fp2 := ⟨a.st.trans b.st, b.env.trans a.env, b.fps.trans a.fps⟩
theorem Quiet.step (a : Quiet G H G1 H1 E E1 fp fp1) (b : Step G1 H1 G2 H2) : Quiet G H G2 H2 E E1 fp fp1 := ⟨a.st.trans b, a.env, a.fps⟩
/-- new things are nobody's -/
theorem SR.fresh (S : SR f G H σ E fp) (hn : q.Nodup) (h : ∀ p ∈ q, H p = none) : Ow f fp q :=
  ⟨hn, fun a ha z => (by obtain ⟨_, _, o, ho, _⟩ := S.fr a z; rw [h a ha] at ho; cases ho), fun a ha i hi => by
    obtain ⟨_, o, ho, _⟩ := S.at i a hi
    rw [h a ha] at ho
    cases ho⟩
theorem PostX.pop {W : WX} {x : Xc} (S : SR f G H σ E fp) (h : PostX f W σ x E') : PostX (f.push G H q) W σ x E' := fun G' H' fp' dx S' r => h G' H' fp' dx (S.pop S') r
omit [Tb] in
theorem Ow.append {q1 q2 : List Addr} (a : Ow f fp q1) (b : Ow f fp q2) (d : ∀ p ∈ q1, p ∉ q2) : Ow f fp (q1 ++ q2) :=
  ⟨List.nodup_append.mpr ⟨a.nd, b.nd, fun p hp r hr e => d p hp (e ▸ hr)⟩, fun p hp => (List.mem_append.mp hp).elim (a.out p) (b.out p), fun p hp => (List.mem_append.mp hp).elim (a.sep p) (b.sep p)⟩
omit [Tb] in
theorem Ow.left {q1 q2 : List Addr} (a : Ow f fp (q1 ++ q2)) : Ow f fp q1 := ⟨(List.nodup_append.mp a.nd).1, fun p hp => a.out p (List.mem_append_left _ hp), fun p hp => a.sep p (List.mem_append_left _ hp)⟩
omit [Tb] in
theorem Ow.right {q1 q2 : List Addr} (a : Ow f fp (q1 ++ q2)) : Ow f fp q2 := ⟨(List.nodup_append.mp a.nd).2.1, fun p hp => a.out p (List.mem_append_right _ hp), fun p hp => a.sep p (List.mem_append_right _ hp)⟩
omit [Tb] in
theorem Ow.unpush {q1 q2 : List Addr} (a : Ow (f.push G H q1) fp q2) : Ow f fp q2 := ⟨a.nd, fun p hp z => a.out p hp (.inl z), a.sep⟩
omit [Tb] in
theorem Ow.apart {q1 q2 : List Addr} (a : Ow (f.push G H q1) fp q2) : ∀ p ∈ q1, p ∉ q2 := fun p hp hr => a.out p hr (.inr hp)
end
/-- two operands, an operation on their data -/
@[simp] def r2 (op : D → D → Option D) (ra rb : EvR) : EvR := fun E =>
  (ra E).bind fun a => (rb a.2.1).bind fun b =>
    match a.1.isBor && b.2.2 with
    | true => .stuck
    | false => match a.1.res b.2.1, b.1.res b.2.1 with
      | some x, some y => (match op x y with
        | some d => .ok (.val d, b.2.1, a.2.2 || b.2.2)
        | none => .stuck)
      | _, _ => .stuck
/-- an operation on values does what op says on data -/
def RP2 (K : PySem.W.Frag) (r : R2) (op : D → D → Option D) : Prop := ∀ (G H : Hp) (x y : V) (a b d : D) (qa qb : List Addr) (Q : VK), Same G H → (∀ p o, H p = some o → Stb o → G p = some o) → Rp K G H a x qa → Rp K G H b y qb → op a b = some d →
  (∀ v G' H' q, Step G H G' H' → Rp K G' H' d v q → q.Nodup → (∀ p ∈ q, H p = none) → Q v H') → r x y H Q
@[simp] def r1 (op : D → Option D) (ra : EvR) : EvR := fun E =>
  (ra E).bind fun a => match a.1.res a.2.1 with
    | some x => (match op x with
      | some d => .ok (.val d, a.2.1, a.2.2)
      | none => .stuck)
    | none => .stuck
def RP1 (K : PySem.W.Frag) (r : V → Hp → VK → Prop) (op : D → Option D) : Prop := ∀ (G H : Hp) (x : V) (a d : D) (qa : List Addr) (Q : VK), Same G H → (∀ p o, H p = some o → Stb o → G p = some o) → Rp K G H a x qa → op a = some d →
  (∀ v G' H' q, Step G H G' H' → Rp K G' H' d v q → q.Nodup → (∀ p ∈ q, H p = none) → Q v H') → r x H Q
section
variable [Tb] {K : PySem.W.Frag} {W : WX} {ra rb : EvR}
/-- the end of an operation: its operands' things are dropped -/
theorem fin2 {f : Fr} {G H G1 H1 G2 H2 : Hp} {σ : St} {E E1 : Env} {fp fp1 : Nat → List Addr} {Q : VK} {d : D} {c : Bool} {v : V} {q : List Addr} (S : SR f G1 H1 σ E1 fp1) (hq : c = false → Quiet G H G1 H1 E E1 fp fp1) (P : PostE f W σ Q G H E fp (.ok (.val d, E1, c)))
    (st : Step G1 H1 G2 H2) (r : Rp f.K G2 H2 d v q) (hn : q.Nodup) (hf : ∀ p ∈ q, H1 p = none) : Q v H2 := by
  exact P v G2 H2 fp1 q (S.step st) r (S.fresh hn hf) fun hc => (hq hc).step st
theorem tE2 {r : R2} {op : D → D → Option D} (rp : RP2 K r op) (σ : St) (H : Hp) (Q : VK) (h : tE K W (r2 op ra rb) σ H Q) : tOp r (tE K W ra) (tE K W rb) σ H Q := by
  obtain ⟨f, G, E, fp, ek, S, P⟩ := h
  refine ⟨f, G, E, fp, ek, S, ?_⟩
  unfold r2 at P
  cases ea : ra E with
  | stuck => rw [ea] at P; exact P
  | exc x E' => rw [ea] at P; exact P
  | ok a =>
    obtain ⟨oa, E1, c1⟩ := a
    rw [ea] at P
    intro v1 G1 H1 fp1 q1 S1 O1 W1 k1
    have hq1 := O1.at
    have S1' := S1.push hq1 W1
    refine ⟨f.push G1 H1 q1, G1, E1, fp1, ek, S1', ?_⟩
    have P : PostE f W σ Q G H E fp ((rb E1).bind fun b =>
      match oa.isBor && b.2.2 with
      | true => .stuck
      | false => match oa.res b.2.1, b.1.res b.2.1 with
        | some x, some y => (match op x y with
          | some d => .ok (.val d, b.2.1, c1 || b.2.2)
          | none => .stuck)
        | _, _ => .stuck) := P
    cases eb : rb E1 with
    | stuck => rw [eb] at P; exact P
    | exc x E' => rw [eb] at P; exact PostX.pop S1 P
    | ok b =>
      obtain ⟨ob, E2, c2⟩ := b
      rw [eb] at P
      intro v2 G2 H2 fp2 q2 S2' O2 W2 k2
      have S2 := S1.pop S2'
      have P : PostE f W σ Q G H E fp (match oa.isBor && c2 with
        | true => .stuck
        | false => match oa.res E2, ob.res E2 with
          | some x, some y => (match op x y with
            | some d => .ok (.val d, E2, c1 || c2)
            | none => .stuck)
          | _, _ => .stuck) := P
      cases hb : oa.isBor && c2 with
      | true => rw [hb] at P; exact P.elim
      | false =>
        rw [hb] at P
        have O1' : OpF f.K G2 H2 σ E2 oa v1 q1 := O1.wait hb S2' k2
        cases er : oa.res E2 with
        | none => rw [er] at P; exact P.elim
        | some x =>
          cases es : ob.res E2 with
          | none => rw [er, es] at P; exact P.elim
          | some y =>
            rw [er, es] at P
            have P : PostE f W σ Q G H E fp (match op x y with
              | some d => .ok (.val d, E2, c1 || c2)
              | none => .stuck) := P
            cases eo : op x y with
            | none => rw [eo] at P; exact P.elim
            | some d =>
              rw [eo] at P
              obtain ⟨qa, Ra, _⟩ := O1'.rep S2 er
              obtain ⟨qb, Rb, _⟩ := OpF.rep S2 (show OpF f.K G2 H2 σ E2 ob v2 q2 from O2) es
              subst ek
              refine rp G2 H2 v1 v2 x y d qa qb Q S2.ex S2.stb Ra Rb eo fun v G3 H3 q st r hn hf => ?_
              refine fin2 (c := c1 || c2) S2 (fun hc => ?_) P st r hn hf
              have hc' : c1 = false ∧ c2 = false := by simpa using hc
              exact (k1 hc'.1).trans (k2 hc'.2)
theorem tE1 {r : V → Hp → VK → Prop} {op : D → Option D} (rp : RP1 K r op) (σ : St) (H : Hp) (Q : VK) (h : tE K W (r1 op ra) σ H Q) : tUn r (tE K W ra) σ H Q := by
  obtain ⟨f, G, E, fp, ek, S, P⟩ := h
  refine ⟨f, G, E, fp, ek, S, ?_⟩
  unfold r1 at P
  cases ea : ra E with
  | stuck => rw [ea] at P; exact P
  | exc x E' => rw [ea] at P; exact P
  | ok a =>
    obtain ⟨oa, E1, c1⟩ := a
    rw [ea] at P
    intro v1 G1 H1 fp1 q1 S1 O1 W1 k1
    have P : PostE f W σ Q G H E fp (match oa.res E1 with
      | some x => (match op x with
        | some d => .ok (.val d, E1, c1)
        | none => .stuck)
      | none => .stuck) := P
    cases er : oa.res E1 with
    | none => rw [er] at P; exact P.elim
    | some x =>
      rw [er] at P
      have P : PostE f W σ Q G H E fp (match op x with
        | some d => .ok (.val d, E1, c1)
        | none => .stuck) := P
      cases eo : op x with
      | none => rw [eo] at P; exact P.elim
      | some d =>
        rw [eo] at P
        obtain ⟨qa, Ra, _⟩ := O1.rep S1 er
        subst ek
        exact rp G1 H1 v1 x d qa Q S1.ex S1.stb Ra eo fun v G3 H3 q st r hn hf => fin2 (c := c1) S1 k1 P st r hn hf
end
end DV

namespace DV
open PySem L2
section
variable {K : PySem.W.Frag} {G H G' H' : Hp}
theorem Rp.non : Rp K G H .non .non [] := by unfold Rp; exact ⟨rfl, rfl⟩
theorem Rp.bl (b : Bool) : Rp K G H (.bl b) (.bl b) [] := by unfold Rp; exact ⟨rfl, rfl⟩
theorem Rp.int (i : Int) : Rp K G H (.int i) (.int i) [] := by unfold Rp; exact ⟨rfl, rfl⟩
theorem Rp.str (x : Str) : Rp K G H (.str x) (.str x) [] := by unfold Rp; exact ⟨rfl, rfl⟩
theorem Rp.int_inv {i : Int} {v : V} {q : List Addr} (h : Rp K G H (.int i) v q) : v = .int i := by unfold Rp at h; exact h.1
theorem Rp.bl_inv {i : Bool} {v : V} {q : List Addr} (h : Rp K G H (.bl i) v q) : v = .bl i := by unfold Rp at h; exact h.1
theorem Rp.str_inv {i : Str} {v : V} {q : List Addr} (h : Rp K G H (.str i) v q) : v = .str i := by unfold Rp at h; exact h.1
theorem Rp.non_inv {v : V} {q : List Addr} (h : Rp K G H .non v q) : v = .non := by unfold Rp at h; exact h.1
/-- a list, whoever owns it -/
theorem Rp.lst_inv {m : Bool} {ds : List D} {v : V} {q : List Addr} (ex : Same G H) (h : Rp K G H (.lst m ds) v q) : ∃ a xs f, v = .ref a ∧ SqL K H a xs ∧ RpL K G H ds xs f ∧ (∀ p ∈ f, p ∈ q) := by
  unfold Rp at h
  obtain ⟨a, xs, e, h⟩ := h
  cases m with
  | true =>
    simp only [if_true] at h
    obtain ⟨f, e2, g, hh, hl⟩ := h
    exact ⟨a, xs, f, e, SqL.of hh, hl, fun p hp => by rw [e2]; exact List.mem_cons_of_mem _ hp⟩
  | false =>
    simp only [Bool.false_eq_true, if_false] at h
    exact ⟨a, xs, [], e, sql_same ex h.2.1, h.2.2, fun p hp => nomatch hp⟩
theorem Rp.tup_inv {ds : List D} {v : V} {q : List Addr} (ex : Same G H) (h : Rp K G H (.tup ds) v q) : ∃ a xs, v = .ref a ∧ SqT K H a xs ∧ SqT K G a xs ∧ RpL K G H ds xs q := by
  unfold Rp at h
  obtain ⟨a, xs, e, hs, hl⟩ := h
  exact ⟨a, xs, e, sqt_same ex hs, hs, hl⟩
theorem upd_get {a b : Addr} {o u : HO} {H : Hp} (h : H b = some u) (n : H a = none) : upd H a o b = some u := by rw [upd_ne (ne_of_none h n)]; exact h
/-- a new tuple -/
theorem tab_new {a p : Addr} {o : HO} (h : GxR.TabG H a) (n : H p = none) : GxR.TabG (upd H p o) a := by
  obtain ⟨ps, e, r⟩ := h
  exact ⟨ps, upd_get e n, r⟩
theorem step_tup (ex : Same G H) (stb : ∀ p o, H p = some o → Stb o → G p = some o) {p : Addr} {o : HO} (n : H p = none) : Step G H (upd G p o) (upd H p o) where
  eg := fun a u h => upd_get h (by
    cases e : G p with
    | none => rfl
    | some w => have := ex p w e; rw [n] at this; cases this)
  eh := fun a u h _ => upd_get h n
  old := fun a u h _ => upd_ne (ne_of_none h n)
  ex := fun a u h => by
    by_cases e : a = p
    · subst e; rw [upd_same] at h ⊢; exact h
    · rw [upd_ne e] at h ⊢; exact ex a u h
  stb := fun a u h s => by
    by_cases e : a = p
    · subst e; rw [upd_same] at h ⊢; exact h
    · rw [upd_ne e] at h ⊢; exact stb a u h s
  tab := fun a h g => ⟨tab_new h n, by rw [upd_ne (fun z => by obtain ⟨ps, e, _⟩ := h; rw [z, n] at e; cases e)]; exact g⟩
/-- a new list or instance, owned -/
theorem step_lst (ex : Same G H) (stb : ∀ p o, H p = some o → Stb o → G p = some o) {p : Addr} {o : HO} (ho : ¬ Stb o) (n : H p = none) : Step G H G (upd H p o) where
  eg := Same.refl _
  eh := fun a u h _ => upd_get h n
  old := fun a u h _ => rfl
  ex := fun a u h => by
    have := ex a u h
    exact upd_get this n
  stb := fun a u h s => by
    by_cases e : a = p
    · subst e; rw [upd_same] at h; cases h; exact absurd s ho
    · rw [upd_ne e] at h; exact stb a u h s
  tab := fun a h g => ⟨tab_new h n, g⟩
theorem same_none (ex : Same G H) {p : Addr} (n : H p = none) : G p = none := ex.free n
theorem Rp.newLst {ds : List D} {xs : List V} {p : Addr} {f : List Addr} (ex : Same G H) (n : H p = none) (h : RpL K G H ds xs f) : Rp K G (upd H p (.lst xs)) (.lst true ds) (.ref p) (p :: f) := by
  unfold Rp
  refine ⟨p, xs, rfl, ?_⟩
  simp only [if_true]
  refine ⟨f, rfl, same_none ex n, upd_same, RpL.mono (Same.refl _) ds xs f h fun a ha => ?_⟩
  obtain ⟨g, o, ho, _⟩ := RpL.at ds xs f h a ha
  exact ⟨g, upd_ne (ne_of_none ho n)⟩
theorem Rp.newTup {ds : List D} {xs : List V} {p : Addr} {f : List Addr} (ex : Same G H) (stb : ∀ p o, H p = some o → Stb o → G p = some o) (n : H p = none) (h : RpL K G H ds xs f) : Rp K (upd G p (.tup xs)) (upd H p (.tup xs)) (.tup ds) (.ref p) f := by
  unfold Rp
  exact ⟨p, xs, rfl, SqT.of upd_same, h.step (step_tup ex stb n)⟩
theorem RpL.nd {ds : List D} {xs : List V} {f : List Addr} (h : RpL K G H ds xs f) (z : fzdL ds = true) : f = [] := RpL.nil_of ds xs f z h
theorem RpL.fz0 {ds : List D} {xs : List V} {f : List Addr} (h : RpL K G H ds xs f) (z : fzdL ds = true) : RpL K G H ds xs [] := by
  have := h.nd z
  subst this
  exact h
end

/-! ### operators -/
/-- a list + a list, whoever holds them -/
def rCatR (K : PySem.W.Frag) : R2 := fun x y H Q => ∃ l b xs zs, x = .ref l ∧ y = .ref b ∧ SqL K H l xs ∧ SqL K H b zs ∧ xs.length + zs.length ≤ sizeLine ∧ ∀ p, H p = none → Q (.ref p) (upd H p (.lst (xs ++ zs)))
theorem op_catR {X : Cx} : OpR X (binaryOp .Add) (rCatR X.K) := by
  intro pins s σ H x y v u Q I rx ry h
  obtain ⟨l, b, xs, zs, rfl, rfl, hH, hB, hz, q⟩ := h
  cases rx
  cases ry
  obtain ⟨its, r, pl, z⟩ := I.list hH
  obtain ⟨its2, r2, pl2, z2⟩ := I.list hB
  have hl := r.length
  have hl2 := r2.length
  obtain ⟨⟨cls, dd, data, sl⟩, ho, hc, n, hd⟩ := pl.isList
  obtain ⟨⟨cls2, dd2, data2, sl2⟩, ho2, hc2, n2, hd2⟩ := pl2.isList
  simp only at hc hd hc2 hd2
  subst hc hd hc2 hd2
  have ea : its.toArray ++ its2.toArray = (its ++ its2).toArray := by simp
  refine concat_meets ⟨_, ho, rfl⟩ ⟨_, ho2, rfl⟩ noFill_list_add seq_list_add PySem.F.slot_list_add PySem.F.entry_list_add (PySem.F.args_list_add_2 _ _) (PyProof.Rows.list_addW l b its.toArray its2.toArray n n2 dd dd2 sl sl2 (by rw [List.size_toArray, List.size_toArray]; omega)) ⟨ho, ho2, ?_⟩
  rw [ea]
  exact ⟨.ref _, _, I.lnew (t' := s.toks) (r.append r2) (by rw [List.length_append]; omega), rfl, q _ I.fresh⟩
@[simp] def opAdd : D → D → Option D
  | .int i, .int j => some (.int (i + j))
  | .str x, .str y => if x.length + y.length ≤ sizeLine then some (.str (x ++ y)) else none
  | .lst _ xs, .lst _ ys => if (fzdL xs && fzdL ys) = true then (if xs.length + ys.length ≤ sizeLine then some (.lst true (xs ++ ys)) else none) else none
  | .tup xs, .tup ys => if (fzdL xs && fzdL ys) = true then (if xs.length + ys.length ≤ sizeLine then some (.tup (xs ++ ys)) else none) else none
  | _, _ => none
def rAddP (K : PySem.W.Frag) : R2 := fun x y H Q => rI0 (fun i j => .int (i + j)) x y H Q ∨ (∃ i j, x = .str i ∧ y = .str j ∧ i.length + j.length ≤ sizeLine ∧ Q (.str (i ++ j)) H) ∨ rCatR K x y H Q ∨ rCatA K x y H Q
theorem op_addP {X : Cx} : OpR X (binaryOp .Add) (rAddP X.K) := op_add.or (op_add_str.or (op_catR.or op_catA))
theorem rp_add {K : PySem.W.Frag} : RP2 K (rAddP K) opAdd := by
  intro G H x y a b d qa qb Q ex stb ha hb eo q
  cases a with
  | int i =>
    cases b with
    | int j =>
      cases eo
      exact .inl ⟨i, j, ha.int_inv, hb.int_inv, q _ G H [] (.refl ex stb) (.int _) List.nodup_nil fun _ h => nomatch h⟩
    | _ => cases eo
  | str i =>
    cases b with
    | str j =>
      have eo : (if i.length + j.length ≤ sizeLine then some (D.str (i ++ j)) else none) = some d := eo
      split at eo
      · cases eo
        exact .inr (.inl ⟨i, j, ha.str_inv, hb.str_inv, by assumption, q _ G H [] (.refl ex stb) (.str _) List.nodup_nil fun _ h => nomatch h⟩)
      · cases eo
    | _ => cases eo
  | lst m xs =>
    cases b with
    | lst m' ys =>
      have eo : (if (fzdL xs && fzdL ys) = true then (if xs.length + ys.length ≤ sizeLine then some (D.lst true (xs ++ ys)) else none) else none) = some d := eo
      split at eo
      · rename_i hz
        split at eo
        · rename_i hl
          cases eo
          have hz' : fzdL xs = true ∧ fzdL ys = true := by simpa using hz
          obtain ⟨a, vs, f, e1, hs, hl1, _⟩ := ha.lst_inv ex
          obtain ⟨b, ws, g, e2, hs2, hl2, _⟩ := hb.lst_inv ex
          refine .inr (.inr (.inl ⟨a, b, vs, ws, e1, e2, hs, hs2, by rw [RpL.len _ _ _ hl1, RpL.len _ _ _ hl2]; exact hl, fun p hp => ?_⟩))
          exact q _ G _ [p] (step_lst ex stb (fun z => z) hp) (Rp.newLst ex hp (RpL.append xs (hl1.fz0 hz'.1) (hl2.fz0 hz'.2))) (by simp) fun r hr => by
            have : r = p := by simpa using hr
            rw [this]; exact hp
        · cases eo
      · cases eo
    | _ => cases eo
  | tup xs =>
    cases b with
    | tup ys =>
      have eo : (if (fzdL xs && fzdL ys) = true then (if xs.length + ys.length ≤ sizeLine then some (D.tup (xs ++ ys)) else none) else none) = some d := eo
      split at eo
      · rename_i hz
        split at eo
        · rename_i hl
          cases eo
          have hz' : fzdL xs = true ∧ fzdL ys = true := by simpa using hz
          obtain ⟨a, vs, e1, hs, hsg, hl1⟩ := ha.tup_inv ex
          obtain ⟨b, ws, e2, hs2, hsg2, hl2⟩ := hb.tup_inv ex
          have l1 := RpL.len _ _ _ hl1
          have l2 := RpL.len _ _ _ hl2
          have r1 := hl1.fz0 hz'.1
          have r2 := hl2.fz0 hz'.2
          refine .inr (.inr (.inr ⟨a, b, vs, ws, e1, e2, hs, hs2, by rw [l1, l2]; exact hl, fun z => ?_, fun z z2 => ?_, fun z z2 p hp => ?_⟩))
          · subst z
            have : xs = [] := List.length_eq_zero_iff.mp l1.symm
            subst this
            refine q _ G H [] (.refl ex stb) ?_ List.nodup_nil fun _ h => nomatch h
            unfold Rp
            exact ⟨b, ws, rfl, hsg2, r2⟩
          · subst z2
            have : ys = [] := List.length_eq_zero_iff.mp l2.symm
            subst this
            rw [List.append_nil] at q
            refine q _ G H [] (.refl ex stb) ?_ List.nodup_nil fun _ h => nomatch h
            unfold Rp
            exact ⟨a, vs, rfl, hsg, r1⟩
          · exact q _ _ _ [] (step_tup ex stb hp) (Rp.newTup ex stb hp (RpL.append xs r1 r2)) List.nodup_nil fun _ h => nomatch h
        · cases eo
      · cases eo
    | _ => cases eo
  | _ => cases eo
/-- ints to an atom -/
@[simp] def opII (g : Int → Int → D) : D → D → Option D
  | .int i, .int j => some (g i j)
  | _, _ => none
@[simp] def opIC (C : Int → Int → Bool) (g : Int → Int → D) : D → D → Option D
  | .int i, .int j => if C i j = true then some (g i j) else none
  | _, _ => none
theorem rp_II {K : PySem.W.Frag} {gv : Int → Int → V} {g : Int → Int → D} (hg : ∀ G H i j, Rp K G H (g i j) (gv i j) []) : RP2 K (rI0 gv) (opII g) := by
  intro G H x y a b d qa qb Q ex stb ha hb eo q
  cases a with
  | int i =>
    cases b with
    | int j =>
      cases eo
      exact ⟨i, j, ha.int_inv, hb.int_inv, q _ G H [] (.refl ex stb) (hg G H i j) List.nodup_nil fun _ h => nomatch h⟩
    | _ => cases eo
  | _ => cases eo
theorem rp_IC {K : PySem.W.Frag} {C : Int → Int → Prop} {Cb : Int → Int → Bool} {gv : Int → Int → V} {g : Int → Int → D} (hC : ∀ i j, Cb i j = true → C i j) (hg : ∀ G H i j, Rp K G H (g i j) (gv i j) []) : RP2 K (rI C gv) (opIC Cb g) := by
  intro G H x y a b d qa qb Q ex stb ha hb eo q
  cases a with
  | int i =>
    cases b with
    | int j =>
      have eo : (if Cb i j = true then some (g i j) else none) = some d := eo
      split at eo
      · rename_i h
        cases eo
        exact ⟨i, j, ha.int_inv, hb.int_inv, hC i j h, q _ G H [] (.refl ex stb) (hg G H i j) List.nodup_nil fun _ h => nomatch h⟩
      · cases eo
    | _ => cases eo
  | _ => cases eo
abbrev opSub : D → D → Option D := opII fun i j => .int (i - j)
theorem rp_sub {K : PySem.W.Frag} : RP2 K (rI0 fun i j => .int (i - j)) opSub := rp_II fun _ _ _ _ => .int _
abbrev opMod : D → D → Option D := opIC (fun _ j => decide (0 < j)) fun i j => .int (i % j)
theorem rp_mod {K : PySem.W.Frag} : RP2 K (rI (fun _ j => 0 < j) fun i j => .int (i % j)) opMod := rp_IC (fun _ _ h => of_decide_eq_true h) fun _ _ _ _ => .int _
abbrev opAnd : D → D → Option D := opII fun i j => .int (Builtin.bitAnd i j)
theorem rp_and {K : PySem.W.Frag} : RP2 K (rI0 fun i j => .int (Builtin.bitAnd i j)) opAnd := rp_II fun _ _ _ _ => .int _
abbrev opOr : D → D → Option D := opII fun i j => .int (Builtin.bitOr i j)
theorem rp_or {K : PySem.W.Frag} : RP2 K (rI0 fun i j => .int (Builtin.bitOr i j)) opOr := rp_II fun _ _ _ _ => .int _
abbrev opLtI : D → D → Option D := opII fun i j => .bl (decide (i < j))
theorem rp_ltI {K : PySem.W.Frag} : RP2 K (rI0 fun i j => .bl (decide (i < j))) opLtI := rp_II fun _ _ _ _ => .bl _
abbrev opLeI : D → D → Option D := opII fun i j => .bl (decide (i ≤ j))
theorem rp_leI {K : PySem.W.Frag} : RP2 K (rI0 fun i j => .bl (decide (i ≤ j))) opLeI := rp_II fun _ _ _ _ => .bl _
abbrev opGtI : D → D → Option D := opII fun i j => .bl (decide (j < i))
theorem rp_gtI {K : PySem.W.Frag} : RP2 K (rI0 fun i j => .bl (decide (j < i))) opGtI := rp_II fun _ _ _ _ => .bl _
abbrev opGeI : D → D → Option D := opII fun i j => .bl (decide (j ≤ i))
theorem rp_geI {K : PySem.W.Frag} : RP2 K (rI0 fun i j => .bl (decide (j ≤ i))) opGeI := rp_II fun _ _ _ _ => .bl _
end DV

namespace DV
open PySem L2

/-! ### names and constants -/
@[simp] def rVar (i : Nat) : EvR := fun E => match E[i]? with
  | some (some _) => .ok (.path i [], E, false)
  | _ => .stuck
/-- the last use of a name: what stands there is handed on -/
@[simp] def rMove (i : Nat) : EvR := fun E => match E[i]? with
  | some (some d) => .ok (.val d, E.set i none, true)
  | _ => .stuck
@[simp] def rC (d : D) : EvR := fun E => .ok (.val d, E, false)
section
variable [Tb] {X : Cx} {W : WX} {K : PySem.W.Frag}
theorem tVar_of {i : Nat} (σ : St) (H : Hp) (Q : VK) (h : tE K W (rVar i) σ H Q) : tVar i σ H Q := by
  obtain ⟨f, G, E, fp, ek, S, P⟩ := h
  unfold rVar at P
  cases e : E[i]? with
  | none => rw [e] at P; exact P.elim
  | some o =>
    cases o with
    | none => rw [e] at P; exact P.elim
    | some d =>
      rw [e] at P
      obtain ⟨v, e1, r⟩ := S.slot i d e
      exact ⟨v, e1, P v G H fp [] S ⟨rfl, v, e1, rfl⟩ .nil fun _ => .refl S⟩
theorem SR.drop {f : Fr} {G H : Hp} {σ : St} {E : Env} {fp : Nat → List Addr} (S : SR f G H σ E fp) (i : Nat) : SR f G H σ (E.set i none) (fun j => if j = i then [] else fp j) where
  tab := S.tab
  g0 := S.g0
  ex := S.ex
  fr := S.fr
  stb := S.stb
  pin := S.pin
  slen := S.slen
  len := by rw [List.length_set]; exact S.len
  slot := fun j d e => by
    by_cases h : i = j
    · subst h
      by_cases hl : i < E.length
      · rw [List.getElem?_set_self hl] at e; cases e
      · rw [List.getElem?_eq_none (by simpa using hl)] at e; cases e
    · rw [List.getElem?_set_ne h] at e
      rw [if_neg (Ne.symm h)]
      exact S.slot j d e
  none_ := fun j n => by
    by_cases h : i = j
    · rw [if_pos h.symm]
    · rw [if_neg (Ne.symm h)]
      exact S.none_ j fun d => by rw [← List.getElem?_set_ne h]; exact n d
  nd := fun j => by
    show (if j = i then [] else fp j).Nodup
    split
    · exact List.nodup_nil
    · exact S.nd j
  sep := fun j k a h1 h2 => by
    have h1 : a ∈ (if j = i then [] else fp j) := h1
    have h2 : a ∈ (if k = i then [] else fp k) := h2
    split at h1
    · cases h1
    · split at h2
      · cases h2
      · exact S.sep j k a h1 h2
  out := fun j a h => by
    have h : a ∈ (if j = i then [] else fp j) := h
    split at h
    · cases h
    · exact S.out j a h
theorem tMove_of {i : Nat} (σ : St) (H : Hp) (Q : VK) (h : tE K W (rMove i) σ H Q) : tVar i σ H Q := by
  obtain ⟨f, G, E, fp, ek, S, P⟩ := h
  unfold rMove at P
  cases e : E[i]? with
  | none => rw [e] at P; exact P.elim
  | some o =>
    cases o with
    | none => rw [e] at P; exact P.elim
    | some d =>
      rw [e] at P
      obtain ⟨v, e1, r⟩ := S.slot i d e
      refine ⟨v, e1, P v G H _ (fp i) (S.drop i) r ⟨S.nd i, S.out i, fun a ha j hj => ?_⟩ fun hc => nomatch hc⟩
      have hj : a ∈ (if j = i then [] else fp j) := hj
      split at hj
      · cases hj
      · rename_i n
        exact n (S.sep j i a hj ha)
theorem de_var {i : Nat} {x : Str} {pos : Pos} (h : PE X (.Name x pos) (tVar i)) : DE X W (.Name x pos) (rVar i) := h.weak tVar_of
theorem de_move {i : Nat} {x : Str} {pos : Pos} (h : PE X (.Name x pos) (tVar i)) : DE X W (.Name x pos) (rMove i) := h.weak tMove_of
/-- a constant -/
theorem tC_of {d : D} {v : V} (hd : ∀ G H : Hp, Rp K G H d v []) (σ : St) (H : Hp) (Q : VK) (h : tE K W (rC d) σ H Q) : tC v σ H Q := by
  obtain ⟨f, G, E, fp, ek, S, P⟩ := h
  subst ek
  exact P v G H fp [] S (hd G H) .nil fun _ => .refl S
theorem de_int {i : Int} {j : Nat} {pos : Pos} : DE X W (.Constant (.int i) j pos) (rC (.int i)) := pe_int.weak (tC_of fun _ _ => .int i)
theorem de_bl {b : Bool} {j : Nat} {pos : Pos} : DE X W (.Constant (.bool b) j pos) (rC (.bl b)) := pe_bl.weak (tC_of fun _ _ => .bl b)
theorem de_non {j : Nat} {pos : Pos} : DE X W (.Constant .none j pos) (rC .non) := pe_non.weak (tC_of fun _ _ => .non)
theorem de_str {x : Str} {j : Nat} {pos : Pos} : DE X W (.Constant (.str x) j pos) (rC (.str x)) := pe_str.weak (tC_of fun _ _ => .str x)
/-- a module's constant: an int, a text -/
theorem de_gint {x : Str} {i : Int} {pos : Pos} (hg : Gl X x) (hm : ∃ t, X.mg x = some (.int i t)) (hd : (x == ("__debug__" : Str)) = false := by decide) : DE X W (.Name x pos) (rC (.int i)) := by
  obtain ⟨t, ht⟩ := hm
  exact (pe_glob (v := .int i) hg ht ⟨_, rfl⟩ hd).weak (tC_of fun _ _ => .int i)
theorem de_gstr {x z : Str} {pos : Pos} (hg : Gl X x) (hm : ∃ t, X.mg x = some (.str z t)) (hd : (x == ("__debug__" : Str)) = false := by decide) : DE X W (.Name x pos) (rC (.str z)) := by
  obtain ⟨t, ht⟩ := hm
  exact (pe_glob (v := .str z) hg ht ⟨_, rfl⟩ hd).weak (tC_of fun _ _ => .str z)
/-! ### operators -/
theorem de_op {op : Operator} {r : R2} {od : D → D → Option D} {a b : Expr} {ra rb : EvR} {pos : Pos} (ho : OpR X (binaryOp op) r) (rp : RP2 X.K r od) (ha : DE X W a ra) (hb : DE X W b rb) : DE X W (.BinOp a op b pos) (r2 od ra rb) :=
  (pe_op ho ha hb).weak (tE2 rp)
theorem de_un {op : UnaryOp} {r : V → Hp → VK → Prop} {od : D → Option D} {a : Expr} {ra : EvR} {pos : Pos} (ho : UnR X (unaryOp op) r) (rp : RP1 X.K r od) (ha : DE X W a ra) : DE X W (.UnaryOp op a pos) (r1 od ra) :=
  (pe_un ho ha).weak (tE1 rp)
theorem de_cmp {op : CmpOp} {r : R2} {od : D → D → Option D} {a b : Expr} {ra rb : EvR} {pos : Pos} (ho : OpR X (compareOp op) r) (rp : RP2 X.K r od) (ha : DE X W a ra) (hb : DE X W b rb) (hm : behindInMarks op b = false) : DE X W (.Compare a [op] [b] pos) (r2 od ra rb) :=
  (pe_cmpR ho ha hb hm).weak (tE2 rp)
end

/-! ### tests -/
abbrev TvR := Env → Rs (Bool × Env × Bool)
def PostT [Tb] (f : Fr) (W : WX) (σ : St) (Q : Bool → Hp → Prop) (G H : Hp) (E : Env) (fp : Nat → List Addr) : Rs (Bool × Env × Bool) → Prop
  | .ok (b, E', c) => ∀ G' H' fp', SR f G' H' σ E' fp' → (c = false → Quiet G H G' H' E E' fp fp') → Q b H'
  | .exc x E' => PostX f W σ x E'
  | .stuck => False
def tT [Tb] (K : PySem.W.Frag) (W : WX) (r : TvR) : TT := fun σ H Q => ∃ f G E fp, f.K = K ∧ SR f G H σ E fp ∧ PostT f W σ Q G H E fp (r E)
abbrev DT [Tb] (X : Cx) (W : WX) (e : Expr) (r : TvR) : Prop := PT X e (tT X.K W r)
/-- the truth of data -/
@[simp] def D.truth : D → Option Bool
  | .non => some false
  | .bl b => some b
  | .int i => some (i != 0)
  | .str x => if x.length ≤ sizeLine then some ((x.length : Int) != 0) else none
  | .lst _ xs => some (!xs.isEmpty)
  | .tup xs => some (!xs.isEmpty)
  | .obj _ _ _ _ => none
@[simp] def rTest (ra : EvR) : TvR := fun E => (ra E).bind fun a => match a.1.res a.2.1 with
  | some (.bl b) => .ok (b, a.2.1, a.2.2)
  | _ => .stuck
@[simp] def rTruth (ra : EvR) : TvR := fun E => (ra E).bind fun a => match a.1.res a.2.1 with
  | some d => (match d.truth with
    | some b => .ok (b, a.2.1, a.2.2)
    | none => .stuck)
  | none => .stuck
section
variable [Tb] {X : Cx} {W : WX} {K : PySem.W.Frag}
theorem tTest_of {ra : EvR} (σ : St) (H : Hp) (Q : Bool → Hp → Prop) (h : tT K W (rTest ra) σ H Q) : tE K W ra σ H (fun x H1 => ∃ c, x = .bl c ∧ Q c H1) := by
  obtain ⟨f, G, E, fp, ek, S, P⟩ := h
  refine ⟨f, G, E, fp, ek, S, ?_⟩
  unfold rTest at P
  cases ea : ra E with
  | stuck => rw [ea] at P; exact P
  | exc x E' => rw [ea] at P; exact P
  | ok a =>
    obtain ⟨oa, E1, c1⟩ := a
    rw [ea] at P
    intro v G1 H1 fp1 q S1 O1 W1 k1
    have P : PostT f W σ Q G H E fp (match oa.res E1 with
      | some (.bl b) => .ok (b, E1, c1)
      | _ => .stuck) := P
    cases er : oa.res E1 with
    | none => rw [er] at P; exact P.elim
    | some d =>
      rw [er] at P
      obtain ⟨q', r, _⟩ := O1.rep S1 er
      cases d with
      | bl b => exact ⟨b, r.bl_inv, P G1 H1 fp1 S1 k1⟩
      | _ => exact P.elim
/-- any expression whose value is a bool, as a test (its isTrue is the plain one) -/
theorem dt_val {e : Expr} {r : EvR} (h : DE X W e r) (he : ∀ whole, isTrue e X.env whole = (do let v ← whole; standAt e.pos; holding [v] (truthy v)) := by intro _; rfl) : DT X W e (rTest r) :=
  (pt_val h he).weak tTest_of
theorem dt_cmp {op : CmpOp} {r : R2} {od : D → D → Option D} {a b : Expr} {ra rb : EvR} {pos : Pos} (ho : OpR X (compareOp op) r) (rp : RP2 X.K r od) (ha : DE X W a ra) (hb : DE X W b rb) (hm : behindInMarks op b = false) : DT X W (.Compare a [op] [b] pos) (rTest (r2 od ra rb)) :=
  (pt_cmpR ho ha hb hm).weak fun σ H Q h => tE2 rp σ H _ (tTest_of σ H Q h)
theorem truV_of {G H : Hp} {d : D} {v : V} {q : List Addr} {b : Bool} (ex : Same G H) (r : Rp K G H d v q) (e : d.truth = some b) : TruV K v H b := by
  cases d with
  | non => cases e; rw [r.non_inv]; exact rfl
  | bl y => cases e; rw [r.bl_inv]; exact rfl
  | int i => cases e; rw [r.int_inv]; exact rfl
  | str x =>
    have e : (if x.length ≤ sizeLine then some ((x.length : Int) != 0) else none) = some b := e
    split at e
    · cases e; rw [r.str_inv]; exact ⟨by assumption, rfl⟩
    · cases e
  | lst m xs =>
    cases e
    obtain ⟨a, vs, f, e1, hr, hl, _⟩ := r.lst_inv ex
    rw [e1]
    refine .inl ⟨vs, hr, ?_⟩
    have := RpL.len _ _ _ hl
    cases xs <;> cases vs <;> first | rfl | simp at this
  | tup xs =>
    cases e
    obtain ⟨a, vs, e1, hr, _, hl⟩ := r.tup_inv ex
    rw [e1]
    refine .inr (.inl ⟨vs, hr, ?_⟩)
    have := RpL.len _ _ _ hl
    cases xs <;> cases vs <;> first | rfl | simp at this
  | obj m C ns xs => cases e
theorem dt_truth {e : Expr} {r : EvR} (h : DE X W e r) (he : ∀ whole, isTrue e X.env whole = (do let v ← whole; standAt e.pos; holding [v] (truthy v)) := by intro _; rfl) : DT X W e (rTruth r) := by
  refine (pt_truth h he).weak fun σ H Q h => ?_
  obtain ⟨f, G, E, fp, ek, S, P⟩ := h
  refine ⟨f, G, E, fp, ek, S, ?_⟩
  unfold rTruth at P
  cases ea : r E with
  | stuck => rw [ea] at P; exact P
  | exc x E' => rw [ea] at P; exact P
  | ok a =>
    obtain ⟨oa, E1, c1⟩ := a
    rw [ea] at P
    intro v G1 H1 fp1 q S1 O1 W1 k1
    have P : PostT f W σ Q G H E fp (match oa.res E1 with
      | some d => (match d.truth with
        | some b => .ok (b, E1, c1)
        | none => .stuck)
      | none => .stuck) := P
    cases er : oa.res E1 with
    | none => rw [er] at P; exact P.elim
    | some d =>
      rw [er] at P
      obtain ⟨q', r, _⟩ := O1.rep S1 er
      have P : PostT f W σ Q G H E fp (match d.truth with
        | some b => .ok (b, E1, c1)
        | none => .stuck) := P
      cases et : d.truth with
      | none => rw [et] at P; exact P.elim
      | some b =>
        rw [et] at P
        exact ⟨b, ek ▸ truV_of S1.ex r et, P G1 H1 fp1 S1 k1⟩
/-! and, or, not -/
@[simp] def rAnd (ra rb : TvR) : TvR := fun E => (ra E).bind fun a => if a.1 = true then (rb a.2.1).bind fun b => .ok (b.1, b.2.1, a.2.2 || b.2.2) else .ok (false, a.2.1, a.2.2)
@[simp] def rOr (ra rb : TvR) : TvR := fun E => (ra E).bind fun a => if a.1 = true then .ok (true, a.2.1, a.2.2) else (rb a.2.1).bind fun b => .ok (b.1, b.2.1, a.2.2 || b.2.2)
@[simp] def rNot (ra : TvR) : TvR := fun E => (ra E).bind fun a => .ok (!a.1, a.2.1, a.2.2)
theorem PostT.mono {f : Fr} {σ : St} {Q : Bool → Hp → Prop} {G H G1 H1 : Hp} {E E1 : Env} {fp fp1 : Nat → List Addr} {r : Rs (Bool × Env × Bool)} {c1 : Bool} (k1 : c1 = false → Quiet G H G1 H1 E E1 fp fp1)
    (P : PostT f W σ Q G H E fp (r.bind fun b => .ok (b.1, b.2.1, c1 || b.2.2))) : PostT f W σ Q G1 H1 E1 fp1 r := by
  cases r with
  | stuck => exact P
  | exc x E' => exact P
  | ok b =>
    obtain ⟨b, E2, c2⟩ := b
    intro G2 H2 fp2 S2 k2
    refine P G2 H2 fp2 S2 fun hc => ?_
    have hc' : c1 = false ∧ c2 = false := by simpa using hc
    exact (k1 hc'.1).trans (k2 hc'.2)
theorem tAnd_of {ra rb : TvR} (σ : St) (H : Hp) (Q : Bool → Hp → Prop) (h : tT K W (rAnd ra rb) σ H Q) : tAnd (tT K W ra) (tT K W rb) σ H Q := by
  obtain ⟨f, G, E, fp, ek, S, P⟩ := h
  refine ⟨f, G, E, fp, ek, S, ?_⟩
  unfold rAnd at P
  cases ea : ra E with
  | stuck => rw [ea] at P; exact P
  | exc x E' => rw [ea] at P; exact P
  | ok a =>
    obtain ⟨b1, E1, c1⟩ := a
    rw [ea] at P
    intro G1 H1 fp1 S1 k1
    cases b1 with
    | true => exact ⟨f, G1, E1, fp1, ek, S1, PostT.mono k1 P⟩
    | false => exact P G1 H1 fp1 S1 k1
theorem tOr_of {ra rb : TvR} (σ : St) (H : Hp) (Q : Bool → Hp → Prop) (h : tT K W (rOr ra rb) σ H Q) : tOr (tT K W ra) (tT K W rb) σ H Q := by
  obtain ⟨f, G, E, fp, ek, S, P⟩ := h
  refine ⟨f, G, E, fp, ek, S, ?_⟩
  unfold rOr at P
  cases ea : ra E with
  | stuck => rw [ea] at P; exact P
  | exc x E' => rw [ea] at P; exact P
  | ok a =>
    obtain ⟨b1, E1, c1⟩ := a
    rw [ea] at P
    intro G1 H1 fp1 S1 k1
    cases b1 with
    | false => exact ⟨f, G1, E1, fp1, ek, S1, PostT.mono k1 P⟩
    | true => exact P G1 H1 fp1 S1 k1
theorem tNot_of {ra : TvR} (σ : St) (H : Hp) (Q : Bool → Hp → Prop) (h : tT K W (rNot ra) σ H Q) : tNot (tT K W ra) σ H Q := by
  obtain ⟨f, G, E, fp, ek, S, P⟩ := h
  refine ⟨f, G, E, fp, ek, S, ?_⟩
  unfold rNot at P
  cases ea : ra E with
  | stuck => rw [ea] at P; exact P
  | exc x E' => rw [ea] at P; exact P
  | ok a => rw [ea] at P; exact P
abbrev DW [Tb] (X : Cx) (W : WX) (e : Expr) (r : TvR) : Prop := PW X e (tT X.K W r)
theorem _root_.L2.PW.weak {X : Cx} {e : Expr} {t t' : TT} (h : PW X e t) (k : ∀ σ H Q, t' σ H Q → t σ H Q) : PW X e t' := ⟨fun wh pins s σ H Q I w => h.run wh pins s σ H Q I (k σ H Q w)⟩
variable {a b : Expr} {ra rb : TvR} {rest : List Expr} {pos : Pos}
theorem dw_and1 (h : DT X W a ra) : DW X W (.BoolOp .And [a] pos) ra := pw_and1 h
theorem dw_or1 (h : DT X W a ra) : DW X W (.BoolOp .Or [a] pos) ra := pw_or1 h
theorem dw_and (h : DT X W a ra) (h2 : DW X W (.BoolOp .And (b :: rest) pos) rb) : DW X W (.BoolOp .And (a :: b :: rest) pos) (rAnd ra rb) := PW.weak (pw_and h h2) tAnd_of
theorem dw_or (h : DT X W a ra) (h2 : DW X W (.BoolOp .Or (b :: rest) pos) rb) : DW X W (.BoolOp .Or (a :: b :: rest) pos) (rOr ra rb) := PW.weak (pw_or h h2) tOr_of
theorem dt_of (h : DW X W a ra) : DT X W a ra := h.pt
theorem dt_not (h : DT X W a ra) : DT X W (.UnaryOp .Not a pos) (rNot ra) := (pt_not h).weak tNot_of
end
end DV

namespace DV
open PySem L2

/-! ### argument lists -/
def OpsF (K : PySem.W.Frag) (G H : Hp) (σ : St) (E : Env) : List Opd → List V → List Addr → Prop
  | [], vs, q => vs = [] ∧ q = []
  | o :: os, vs, q => ∃ v r q1 q2, vs = v :: r ∧ q = q1 ++ q2 ∧ OpF K G H σ E o v q1 ∧ OpsF K G H σ E os r q2
abbrev AvR := Env → Rs (List Opd × Env × Bool)
def PostA [Tb] (f : Fr) (W : WX) (σ : St) (Q : List V → Hp → Prop) (G H : Hp) (E : Env) (fp : Nat → List Addr) : Rs (List Opd × Env × Bool) → Prop
  | .ok (os, E', c) => ∀ vs G' H' fp' q, SR f G' H' σ E' fp' → OpsF f.K G' H' σ E' os vs q → Ow f fp' q → (c = false → Quiet G H G' H' E E' fp fp') → Q vs H'
  | .exc x E' => PostX f W σ x E'
  | .stuck => False
def tA [Tb] (K : PySem.W.Frag) (W : WX) (r : AvR) : TA := fun σ H Q => ∃ f G E fp, f.K = K ∧ SR f G H σ E fp ∧ PostA f W σ Q G H E fp (r E)
abbrev DA [Tb] (X : Cx) (W : WX) (es : List Expr) (r : AvR) : Prop := PA X es (tA X.K W r)
@[simp] def rNil : AvR := fun E => .ok ([], E, false)
@[simp] def rCons (ra : EvR) (rb : AvR) : AvR := fun E => (ra E).bind fun a => (rb a.2.1).bind fun b => match a.1.isBor && b.2.2 with
  | true => .stuck
  | false => .ok (a.1 :: b.1, b.2.1, a.2.2 || b.2.2)
section
variable [Tb] {X : Cx} {W : WX} {K : PySem.W.Frag}
theorem da_nil : DA X W [] rNil := pa_nil.weak fun σ H Q h => by
  obtain ⟨f, G, E, fp, ek, S, P⟩ := h
  exact P [] G H fp [] S ⟨rfl, rfl⟩ .nil fun _ => .refl S
theorem tCons_of {ra : EvR} {rb : AvR} (σ : St) (H : Hp) (Q : List V → Hp → Prop) (h : tA K W (rCons ra rb) σ H Q) : tCons (tE K W ra) (tA K W rb) σ H Q := by
  obtain ⟨f, G, E, fp, ek, S, P⟩ := h
  refine ⟨f, G, E, fp, ek, S, ?_⟩
  unfold rCons at P
  cases ea : ra E with
  | stuck => rw [ea] at P; exact P
  | exc x E' => rw [ea] at P; exact P
  | ok a =>
    obtain ⟨oa, E1, c1⟩ := a
    rw [ea] at P
    intro v1 G1 H1 fp1 q1 S1 O1 W1 k1
    have S1' := S1.push O1.at W1
    refine ⟨f.push G1 H1 q1, G1, E1, fp1, ek, S1', ?_⟩
    have P : PostA f W σ Q G H E fp ((rb E1).bind fun b => match oa.isBor && b.2.2 with
      | true => .stuck
      | false => .ok (oa :: b.1, b.2.1, c1 || b.2.2)) := P
    cases eb : rb E1 with
    | stuck => rw [eb] at P; exact P
    | exc x E' => rw [eb] at P; exact PostX.pop S1 P
    | ok b =>
      obtain ⟨os, E2, c2⟩ := b
      rw [eb] at P
      intro vs G2 H2 fp2 q2 S2' O2 W2 k2
      have S2 := S1.pop S2'
      have P : PostA f W σ Q G H E fp (match oa.isBor && c2 with
        | true => .stuck
        | false => .ok (oa :: os, E2, c1 || c2)) := P
      cases hb : oa.isBor && c2 with
      | true => rw [hb] at P; exact P.elim
      | false =>
        rw [hb] at P
        have O1' : OpF f.K G2 H2 σ E2 oa v1 q1 := O1.wait hb S2' k2
        have O2' : OpsF f.K G2 H2 σ E2 os vs q2 := O2
        have W1' := (SR.pushed W1 S2').1
        refine P (v1 :: vs) G2 H2 fp2 (q1 ++ q2) S2 ⟨v1, vs, q1, q2, rfl, rfl, O1', O2'⟩ (W1'.append W2.unpush W2.apart) fun hc => ?_
        have hc' : c1 = false ∧ c2 = false := by simpa using hc
        exact (k1 hc'.1).trans (k2 hc'.2)
theorem da_cons {e : Expr} {es : List Expr} {ra : EvR} {rb : AvR} (h : DE X W e ra) (h2 : DA X W es rb) (hs : starEach (e :: es) X.env = (false, eval e X.env) :: starEach es X.env := by rfl) : DA X W (e :: es) (rCons ra rb) :=
  (pa_cons h h2 hs).weak tCons_of
end
/-! ### values of operands -/
@[simp] def resL : List Opd → Env → Option (List D)
  | [], _ => some []
  | o :: os, E => match o.res E with
    | some d => (match resL os E with
      | some ds => some (d :: ds)
      | none => none)
    | none => none
/-- each is its data -/
def RpA (K : PySem.W.Frag) (G H : Hp) : List D → List V → Prop
  | [], vs => vs = []
  | d :: ds, vs => ∃ v r, vs = v :: r ∧ (∃ q, Rp K G H d v q) ∧ RpA K G H ds r
theorem OpsF.reps [Tb] {f : Fr} {G H : Hp} {σ : St} {E : Env} {fp : Nat → List Addr} (S : SR f G H σ E fp) : ∀ (os : List Opd) (vs : List V) (q : List Addr) (ds : List D), OpsF f.K G H σ E os vs q → resL os E = some ds → RpA f.K G H ds vs
  | [], vs, q, ds, h, e => by
    cases e
    exact h.1
  | o :: os, vs, q, ds, h, e => by
    obtain ⟨v, r, q1, q2, e1, e2, h1, h2⟩ := h
    have e : (match o.res E with
      | some d => (match resL os E with
        | some ds => some (d :: ds)
        | none => none)
      | none => none) = some ds := e
    cases eo : o.res E with
    | none => rw [eo] at e; cases e
    | some d =>
      rw [eo] at e
      cases er : resL os E with
      | none => rw [er] at e; cases e
      | some ds' =>
        rw [er] at e
        cases e
        obtain ⟨q', r', _⟩ := h1.rep S eo
        exact ⟨v, r, e1, ⟨q', r'⟩, OpsF.reps S os r q2 ds' h2 er⟩
/-! ### built-ins by values -/
def RPn (K : PySem.W.Frag) (r : List V → Hp → VK → Prop) (op : List D → Option D) : Prop := ∀ (G H : Hp) (vs : List V) (ds : List D) (d : D) (Q : VK), Same G H → (∀ p o, H p = some o → Stb o → G p = some o) → RpA K G H ds vs → op ds = some d →
  (∀ v G' H' q, Step G H G' H' → Rp K G' H' d v q → q.Nodup → (∀ p ∈ q, H p = none) → Q v H') → r vs H Q
@[simp] def rn (op : List D → Option D) (ra : AvR) : EvR := fun E =>
  (ra E).bind fun a => match resL a.1 a.2.1 with
    | some ds => (match op ds with
      | some d => .ok (.val d, a.2.1, a.2.2)
      | none => .stuck)
    | none => .stuck
section
variable [Tb] {X : Cx} {W : WX} {K : PySem.W.Frag}
theorem tEn {r : List V → Hp → VK → Prop} {op : List D → Option D} {ra : AvR} (rp : RPn K r op) (σ : St) (H : Hp) (Q : VK) (h : tE K W (rn op ra) σ H Q) : tCB r (tA K W ra) σ H Q := by
  obtain ⟨f, G, E, fp, ek, S, P⟩ := h
  refine ⟨f, G, E, fp, ek, S, ?_⟩
  unfold rn at P
  cases ea : ra E with
  | stuck => rw [ea] at P; exact P
  | exc x E' => rw [ea] at P; exact P
  | ok a =>
    obtain ⟨os, E1, c1⟩ := a
    rw [ea] at P
    intro vs G1 H1 fp1 q1 S1 O1 W1 k1
    have P : PostE f W σ Q G H E fp (match resL os E1 with
      | some ds => (match op ds with
        | some d => .ok (.val d, E1, c1)
        | none => .stuck)
      | none => .stuck) := P
    cases er : resL os E1 with
    | none => rw [er] at P; exact P.elim
    | some ds =>
      rw [er] at P
      have P : PostE f W σ Q G H E fp (match op ds with
        | some d => .ok (.val d, E1, c1)
        | none => .stuck) := P
      cases eo : op ds with
      | none => rw [eo] at P; exact P.elim
      | some d =>
        rw [eo] at P
        have Ra := OpsF.reps S1 os vs q1 ds O1 er
        subst ek
        exact rp G1 H1 vs ds d Q S1.ex S1.stb Ra eo fun v G3 H3 q st r hn hf => fin2 (c := c1) S1 k1 P st r hn hf
theorem de_callB {id : String} {x : Str} {r : List V → Hp → VK → Prop} {op : List D → Option D} {e : Expr} {es : List Expr} {ra : AvR} {p pos : Pos} (hc : CallR X (.builtin id) r) (rp : RPn X.K r op) (hg : Gl X x) (hm : X.mg x = none) (hv : bootBuiltins x = some (.builtin id)) (ha : DA X W (e :: es) ra)
    (hn : x ≠ "__name__" := by decide) (hdb : (x == ("__debug__" : Str)) = false := by decide) (he : starEach (e :: es) X.env = (false, eval e X.env) :: starEach es X.env := by rfl) (hpl : (backTo pos (starEach es X.env)).any (·.1) = false := by rfl) : DE X W (.Call (.Name x p) (e :: es) [] pos) (rn op ra) :=
  (pe_callB hc hg hm hv ha hn hdb he hpl).weak (tEn rp)
theorem de_callTy {T : String} {x : Str} {r : List V → Hp → VK → Prop} {op : List D → Option D} {e : Expr} {es : List Expr} {ra : AvR} {p pos : Pos} (hc : CallR X (.type T) r) (rp : RPn X.K r op) (hg : Gl X x) (hm : X.mg x = none) (hv : bootBuiltins x = some (.type T)) (ha : DA X W (e :: es) ra)
    (hn : x ≠ "__name__" := by decide) (hdb : (x == ("__debug__" : Str)) = false := by decide) (he : starEach (e :: es) X.env = (false, eval e X.env) :: starEach es X.env := by rfl) (hpl : (backTo pos (starEach es X.env)).any (·.1) = false := by rfl) : DE X W (.Call (.Name x p) (e :: es) [] pos) (rn op ra) :=
  (pe_callTy hc hg hm hv ha hn hdb he hpl).weak (tEn rp)
end
/-! ### displays -/
/-- the operand as a value of its own: what stands in a slot is frozen; whether a slot was changed -/
@[simp] def toVal (o : Opd) (E : Env) : Option (D × Env × Bool) := match o with
  | .val d => some (d, E, false)
  | .path i [] => (match E[i]? with
    | some (some d) => if d.fzd = true then some (d, E, false) else some (d.fz, E.set i (some d.fz), true)
    | _ => none)
  | .path _ _ => none
@[simp] def toVals : List Opd → Env → Option (List D × Env × Bool)
  | [], E => some ([], E, false)
  | o :: os, E => match toVal o E with
    | some (d, E1, c1) => (match toVals os E1 with
      | some (ds, E2, c2) => some (d :: ds, E2, c1 || c2)
      | none => none)
    | none => none
section
variable [Tb] {f : Fr} {G H : Hp} {σ : St} {E E1 : Env} {fp : Nat → List Addr}
/-- a slot is frozen -/
theorem SR.freeze (S : SR f G H σ E fp) {i : Nat} {d : D} (e : E[i]? = some (some d)) : SR f (frz G H (· ∈ fp i)) H σ (E.set i (some d.fz)) (fun j => if j = i then [] else fp j) ∧ ∃ v, σ[i]? = some (some v) ∧ Rp f.K (frz G H (· ∈ fp i)) H d.fz v [] := by
  obtain ⟨v, e1, r⟩ := S.slot i d e
  have rf : Rp f.K (frz G H (· ∈ fp i)) H d.fz v [] := Rp.frz S.ex _ d v _ r fun p hp => hp
  have keep : ∀ p, p ∉ fp i → frz G H (· ∈ fp i) p = G p := fun p hp => frz_out hp
  refine ⟨⟨S.g0.trans (frz_same S.ex _), frz_same2 S.ex _, fun a ha => ?_, fun a o ho hs => ?_, S.pin, S.slen, by rw [List.length_set]; exact S.len, fun j d' e' => ?_, fun j n => ?_, fun j => ?_, fun j k a h1 h2 => ?_, fun j a h => ?_, S.tabF fun a h => (S.at i a h).2⟩, v, e1, rf⟩
  · obtain ⟨h1, h2, h3⟩ := S.fr a ha
    refine ⟨h1, ?_, h3⟩
    rw [keep a fun z => S.out i a z ha]
    exact h2
  · by_cases z : a ∈ fp i
    · rw [frz_in z]; exact ho
    · rw [keep a z]; exact S.stb a o ho hs
  · by_cases h : i = j
    · subst h
      have hl : i < E.length := (List.getElem?_eq_some_iff.mp e).1
      rw [List.getElem?_set_self hl] at e'
      cases e'
      rw [if_pos rfl]
      exact ⟨v, e1, rf⟩
    · rw [List.getElem?_set_ne h] at e'
      rw [if_neg (Ne.symm h)]
      obtain ⟨v', e2, r'⟩ := S.slot j d' e'
      refine ⟨v', e2, Rp.mono (frz_same S.ex _) d' v' _ r' fun p hp => ⟨?_, rfl⟩⟩
      rw [keep p fun z => h (S.sep i j p z hp)]
      exact (S.at j p hp).1
  · by_cases h : i = j
    · rw [if_pos h.symm]
    · rw [if_neg (Ne.symm h)]
      exact S.none_ j fun d => by rw [← List.getElem?_set_ne h]; exact n d
  · show (if j = i then [] else fp j).Nodup
    split
    · exact List.nodup_nil
    · exact S.nd j
  · have h1 : a ∈ (if j = i then [] else fp j) := h1
    have h2 : a ∈ (if k = i then [] else fp k) := h2
    split at h1
    · cases h1
    · split at h2
      · cases h2
      · exact S.sep j k a h1 h2
  · have h : a ∈ (if j = i then [] else fp j) := h
    split at h
    · cases h
    · exact S.out j a h
theorem Ow.sub {fp' : Nat → List Addr} {q : List Addr} (w : Ow f fp q) (k : ∀ i a, a ∈ fp' i → a ∈ fp i) : Ow f fp' q := ⟨w.nd, w.out, fun a ha i hi => w.sep a ha i (k i a hi)⟩
theorem toVal_ok {o : Opd} {v : V} {q : List Addr} {d : D} {c : Bool} (S : SR f G H σ E fp) (h : OpF f.K G H σ E o v q) (w : Ow f fp q) (e : toVal o E = some (d, E1, c)) :
    ∃ G1 fp1, SR f G1 H σ E1 fp1 ∧ Same G G1 ∧ (∀ p, (∀ i, p ∉ fp i) → G1 p = G p) ∧ (∀ i a, a ∈ fp1 i → a ∈ fp i) ∧ Rp f.K G1 H d v q ∧ (c = false → E1 = E ∧ G1 = G ∧ fp1 = fp) := by
  cases o with
  | val d' =>
    cases e
    exact ⟨G, fp, S, Same.refl _, fun _ _ => rfl, fun _ _ h => h, h, fun _ => ⟨rfl, rfl, rfl⟩⟩
  | path i ks =>
    cases ks with
    | cons k r => cases e
    | nil =>
      obtain ⟨e2, v0, e1, h0⟩ := h
      subst e2
      have h0 : v = v0 := h0
      subst h0
      have e : (match E[i]? with
        | some (some d') => if d'.fzd = true then some (d', E, false) else some (d'.fz, E.set i (some d'.fz), true)
        | _ => none) = some (d, E1, c) := e
      cases eE : E[i]? with
      | none => rw [eE] at e; cases e
      | some o =>
        cases o with
        | none => rw [eE] at e; cases e
        | some d' =>
          rw [eE] at e
          have e : (if d'.fzd = true then some (d', E, false) else some (d'.fz, E.set i (some d'.fz), true)) = some (d, E1, c) := e
          split at e
          · rename_i hz
            cases e
            obtain ⟨v', e3, r⟩ := S.slot i _ eE
            rw [e1] at e3
            cases e3
            have e4 := Rp.nil_of _ v _ hz r
            rw [e4] at r
            exact ⟨G, fp, S, Same.refl _, fun _ _ => rfl, fun _ _ h => h, r, fun _ => ⟨rfl, rfl, rfl⟩⟩
          · cases e
            obtain ⟨S', v', e3, r⟩ := S.freeze eE
            rw [e1] at e3
            cases e3
            refine ⟨_, _, S', frz_same S.ex _, fun p hp => frz_out (hp i), fun j a h => ?_, r, fun hc => nomatch hc⟩
            have h : a ∈ (if j = i then [] else fp j) := h
            split at h
            · cases h
            · exact h
theorem toVal_nobor {o : Opd} {E : Env} {r : D × Env × Bool} (e : toVal o E = some r) : o.isBor = false := by
  cases o with
  | val d => rfl
  | path i ks => cases ks with
    | nil => rfl
    | cons k r => cases e
theorem toVals_nobor : ∀ (os : List Opd) {E : Env} {r : List D × Env × Bool}, toVals os E = some r → ∀ o ∈ os, o.isBor = false
  | [], _, _, _ => fun _ h => nomatch h
  | o :: os, E, r, e => by
    have e : (match toVal o E with
      | some (d, E1, c1) => (match toVals os E1 with
        | some (ds, E2, c2) => some (d :: ds, E2, c1 || c2)
        | none => none)
      | none => none) = some r := e
    cases eo : toVal o E with
    | none => rw [eo] at e; cases e
    | some p =>
      obtain ⟨d, E2, c1⟩ := p
      rw [eo] at e
      have e : (match toVals os E2 with
        | some (ds, E2, c2) => some (d :: ds, E2, c1 || c2)
        | none => none) = some r := e
      cases er : toVals os E2 with
      | none => rw [er] at e; cases e
      | some p2 =>
        intro o' ho
        rcases List.mem_cons.mp ho with rfl | ho
        · exact toVal_nobor eo
        · exact toVals_nobor os er o' ho
/-- operands without parts of owned things, over a greater frozen heap -/
theorem OpsF.more {K : PySem.W.Frag} {G G2 H : Hp} {σ : St} {E E2 : Env} (s : Same G G2) : ∀ (os : List Opd) (vs : List V) (q : List Addr), (∀ o ∈ os, o.isBor = false) → (∀ a ∈ q, G2 a = G a) → OpsF K G H σ E os vs q → OpsF K G2 H σ E2 os vs q
  | [], vs, q, _, _, h => h
  | o :: os, vs, q, nb, hq, h => by
    obtain ⟨v, r, q1, q2, e1, e2, h1, h2⟩ := h
    subst e2
    refine ⟨v, r, q1, q2, e1, rfl, ?_, OpsF.more s os r q2 (fun o ho => nb o (List.mem_cons_of_mem _ ho)) (fun a ha => hq a (List.mem_append_right _ ha)) h2⟩
    cases o with
    | val d => exact Rp.mono s d v q1 h1 fun p hp => ⟨(hq p (List.mem_append_left _ hp)).trans (Rp.at d v q1 h1 p hp).1, rfl⟩
    | path i ks =>
      cases ks with
      | nil => exact h1
      | cons k r => have := nb _ List.mem_cons_self; cases this
theorem toVals_ok : ∀ (os : List Opd) {E E1 : Env} {G : Hp} {fp : Nat → List Addr} {vs : List V} {q : List Addr} {ds : List D} {c : Bool} (S : SR f G H σ E fp) (h : OpsF f.K G H σ E os vs q) (w : Ow f fp q) (e : toVals os E = some (ds, E1, c)),
    ∃ G1 fp1, SR f G1 H σ E1 fp1 ∧ Same G G1 ∧ (∀ p, (∀ i, p ∉ fp i) → G1 p = G p) ∧ (∀ i a, a ∈ fp1 i → a ∈ fp i) ∧ RpL f.K G1 H ds vs q ∧ (c = false → E1 = E ∧ G1 = G ∧ fp1 = fp)
  | [], E, E1, G, fp, vs, q, ds, c, S, h, w, e => by
    cases e
    refine ⟨G, fp, S, Same.refl _, fun _ _ => rfl, fun _ _ h => h, ?_, fun _ => ⟨rfl, rfl, rfl⟩⟩
    unfold RpL
    exact h
  | o :: os, E, E1, G, fp, vs, q, ds, c, S, h, w, e => by
    obtain ⟨v, r, q1, q2, e1, e2, h1, h2⟩ := h
    subst e1 e2
    have e : (match toVal o E with
      | some (d, E1, c1) => (match toVals os E1 with
        | some (ds, E2, c2) => some (d :: ds, E2, c1 || c2)
        | none => none)
      | none => none) = some (ds, E1, c) := e
    cases eo : toVal o E with
    | none => rw [eo] at e; cases e
    | some p =>
      obtain ⟨d, E2, c1⟩ := p
      rw [eo] at e
      have e : (match toVals os E2 with
        | some (ds, E2, c2) => some (d :: ds, E2, c1 || c2)
        | none => none) = some (ds, E1, c) := e
      cases er : toVals os E2 with
      | none => rw [er] at e; cases e
      | some p2 =>
        obtain ⟨ds', E3, c2⟩ := p2
        rw [er] at e
        cases e
        obtain ⟨G2, fp2, S2, s2, k2, b2, r2, z2⟩ := toVal_ok S h1 w.left eo
        have h2' := OpsF.more (E2 := E2) s2 os r q2 (toVals_nobor os er) (fun a ha => k2 a fun i => w.right.sep a ha i) h2
        obtain ⟨G3, fp3, S3, s3, k3, b3, r3, z3⟩ := toVals_ok os S2 h2' (w.right.sub b2) er
        refine ⟨G3, fp3, S3, s2.trans s3, fun p hp => (k3 p fun i z => hp i (b2 i p z)).trans (k2 p hp), fun i a h => b2 i a (b3 i a h), ?_, fun hc => ?_⟩
        · unfold RpL
          refine ⟨v, r, q1, q2, rfl, rfl, Rp.mono s3 d v q1 r2 fun p hp => ⟨?_, rfl⟩, r3⟩
          have hp' : ∀ i, p ∉ fp i := w.left.sep p hp
          exact (k3 p fun i z => hp' i (b2 i p z)).trans (Rp.at d v q1 r2 p hp).1
        · have hc' : c1 = false ∧ c2 = false := by simpa using hc
          obtain ⟨a1, a2, a3⟩ := z2 hc'.1
          obtain ⟨b1, b2, b3⟩ := z3 hc'.2
          exact ⟨b1.trans a1, b2.trans a2, b3.trans a3⟩
end
@[simp] def rTup (ra : AvR) : EvR := fun E => (ra E).bind fun a => match toVals a.1 a.2.1 with
  | some (ds, E2, c) => if ds.length ≤ sizeLine then .ok (.val (.tup ds), E2, a.2.2 || c) else .stuck
  | none => .stuck
@[simp] def rLst (ra : AvR) : EvR := fun E => (ra E).bind fun a => match toVals a.1 a.2.1 with
  | some (ds, E2, c) => if ds.length ≤ sizeLine then .ok (.val (.lst true ds), E2, a.2.2 || c) else .stuck
  | none => .stuck
theorem quiet_val {G H G1 H1 G2 : Hp} {E E1 E2 : Env} {fp fp1 fp2 : Nat → List Addr} {c1 c : Bool} (k1 : c1 = false → Quiet G H G1 H1 E E1 fp fp1) (z : c = false → E2 = E1 ∧ G2 = G1 ∧ fp2 = fp1) (hc : (c1 || c) = false) : Quiet G H G2 H1 E E2 fp fp2 := by
  have hc' : c1 = false ∧ c = false := by simpa using hc
  obtain ⟨a1, a2, a3⟩ := z hc'.2
  subst a1 a2 a3
  exact k1 hc'.1
section
variable [Tb] {X : Cx} {W : WX} {K : PySem.W.Frag}
theorem tTup_of {ra : AvR} (σ : St) (H : Hp) (Q : VK) (h : tE K W (rTup ra) σ H Q) : tTup (tA K W ra) σ H Q := by
  obtain ⟨f, G, E, fp, ek, S, P⟩ := h
  refine ⟨f, G, E, fp, ek, S, ?_⟩
  unfold rTup at P
  cases ea : ra E with
  | stuck => rw [ea] at P; exact P
  | exc x E' => rw [ea] at P; exact P
  | ok a =>
    obtain ⟨os, E1, c1⟩ := a
    rw [ea] at P
    intro vs G1 H1 fp1 q1 S1 O1 W1 k1
    have P : PostE f W σ Q G H E fp (match toVals os E1 with
      | some (ds, E2, c) => if ds.length ≤ sizeLine then .ok (.val (.tup ds), E2, c1 || c) else .stuck
      | none => .stuck) := P
    cases er : toVals os E1 with
    | none => rw [er] at P; exact P.elim
    | some p =>
      obtain ⟨ds, E2, c⟩ := p
      rw [er] at P
      have P : PostE f W σ Q G H E fp (if ds.length ≤ sizeLine then .ok (.val (.tup ds), E2, c1 || c) else .stuck) := P
      obtain ⟨G2, fp2, S2, s2, k2, b2, r2, z2⟩ := toVals_ok os S1 O1 W1 er
      have hl := RpL.len _ _ _ r2
      by_cases hz : ds.length ≤ sizeLine
      · rw [if_pos hz] at P
        refine ⟨by rw [hl]; exact hz, fun p hp => ?_⟩
        have st := step_tup (o := .tup vs) S2.ex S2.stb hp
        exact P (.ref p) _ _ fp2 q1 (S2.step st) (Rp.newTup S2.ex S2.stb hp r2) (W1.sub b2) fun hc => (quiet_val k1 z2 hc).step st
      · rw [if_neg hz] at P; exact P.elim
theorem tLst_of {ra : AvR} (σ : St) (H : Hp) (Q : VK) (h : tE K W (rLst ra) σ H Q) : tLst (tA K W ra) σ H Q := by
  obtain ⟨f, G, E, fp, ek, S, P⟩ := h
  refine ⟨f, G, E, fp, ek, S, ?_⟩
  unfold rLst at P
  cases ea : ra E with
  | stuck => rw [ea] at P; exact P
  | exc x E' => rw [ea] at P; exact P
  | ok a =>
    obtain ⟨os, E1, c1⟩ := a
    rw [ea] at P
    intro vs G1 H1 fp1 q1 S1 O1 W1 k1
    have P : PostE f W σ Q G H E fp (match toVals os E1 with
      | some (ds, E2, c) => if ds.length ≤ sizeLine then .ok (.val (.lst true ds), E2, c1 || c) else .stuck
      | none => .stuck) := P
    cases er : toVals os E1 with
    | none => rw [er] at P; exact P.elim
    | some p =>
      obtain ⟨ds, E2, c⟩ := p
      rw [er] at P
      have P : PostE f W σ Q G H E fp (if ds.length ≤ sizeLine then .ok (.val (.lst true ds), E2, c1 || c) else .stuck) := P
      obtain ⟨G2, fp2, S2, s2, k2, b2, r2, z2⟩ := toVals_ok os S1 O1 W1 er
      have hl := RpL.len _ _ _ r2
      by_cases hz : ds.length ≤ sizeLine
      · rw [if_pos hz] at P
        refine ⟨by rw [hl]; exact hz, fun p hp => ?_⟩
        have st := step_lst (o := .lst vs) S2.ex S2.stb (fun z => z) hp
        have W2 : Ow f fp2 q1 := W1.sub b2
        have S3 := S2.step st
        refine P (.ref p) _ _ fp2 (p :: q1) S3 (Rp.newLst S2.ex hp r2) ?_ fun hc => (quiet_val k1 z2 hc).step st
        have np : p ∉ q1 := fun z => by
          obtain ⟨_, o, ho, _⟩ := RpL.at _ _ _ r2 p z
          rw [hp] at ho; cases ho
        exact Ow.append (q1 := [p]) (S2.fresh (q := [p]) (by simp) fun a ha => by
          have : a = p := by simpa using ha
          rw [this]; exact hp) W2 fun a ha => by
          have : a = p := by simpa using ha
          rw [this]; exact np
      · rw [if_neg hz] at P; exact P.elim
theorem de_tup {es : List Expr} {ra : AvR} {x1 : Nat} {pos : Pos} (h : DA X W es ra) : DE X W (.Tuple es x1 pos) (rTup ra) := (pe_tup h).weak tTup_of
theorem de_lst {es : List Expr} {ra : AvR} {pos : Pos} (h : DA X W es ra) : DE X W (.List es pos) (rLst ra) := (pe_lst h).weak tLst_of
end
/-! ### a place in a list, a tuple, a text -/
def ixD : D → D → Option D
  | .lst _ xs, .int i => atI xs i
  | .tup xs, .int i => atI xs i
  | .str z, .int i => if z.length ≤ sizeLine then (atI z.cps.toList i).map fun c => .str ⟨#[c]⟩ else none
  | _, _ => none
/-- where the k-th part d of an operand's data x is -/
@[simp] def part (o : Opd) (x : D) (k : Nat) (d : D) : Option Opd := if d.fzd = true then some (.val d) else match o with
  | .val _ => some (.val d)
  | .path i ks => (match x.kids with
    | [] => none
    | _ :: _ => some (.path i (ks ++ [k])))
def ixP : D → D → Option (Nat × D)
  | .lst _ xs, .int i => (ixN xs.length i).bind fun j => (xs[j]?).map fun d => (j, d)
  | .tup xs, .int i => (ixN xs.length i).bind fun j => (xs[j]?).map fun d => (j, d)
  | .str z, .int i => if z.length ≤ sizeLine then (atI z.cps.toList i).map fun c => (0, .str ⟨#[c]⟩) else none
  | _, _ => none
@[simp] def rPart (op : D → D → Option (Nat × D)) (ra rb : EvR) : EvR := fun E =>
  (ra E).bind fun a => (rb a.2.1).bind fun b =>
    match a.1.isBor && b.2.2 with
    | true => .stuck
    | false => match a.1.res b.2.1, b.1.res b.2.1 with
      | some x, some y => (match op x y with
        | some d => (match part a.1 x d.1 d.2 with
          | some o => .ok (o, b.2.1, a.2.2 || b.2.2)
          | none => .stuck)
        | none => .stuck)
      | _, _ => .stuck
abbrev rIx2 : EvR → EvR → EvR := rPart ixP
theorem RpL.len' {K : PySem.W.Frag} {G H : Hp} {ds : List D} {xs : List V} {f : List Addr} (h : RpL K G H ds xs f) : xs.length = ds.length := RpL.len ds xs f h
/-- v is the k-th part x of what stands at the operand -/
def IsPart (K : PySem.W.Frag) (G H : Hp) (x : D) (v : V) (q : List Addr) (k : Nat) (d : D) (u : V) : Prop :=
  (∃ q', Rp K G H d u q' ∧ (∀ a ∈ q', a ∈ q) ∧ (q.Nodup → q'.Nodup)) ∧ (d.fzd = true ∨ (∃ p xs, v = .ref p ∧ x.kids[k]? = some d ∧ xs[k]? = some u ∧ NodeIs K H x p xs) ∨ x.kids = [])
theorem OpF.part [Tb] {f : Fr} {G H : Hp} {σ : St} {E : Env} {fp : Nat → List Addr} {o : Opd} {x d : D} {v u : V} {q qa : List Addr} {k : Nat} (S : SR f G H σ E fp) (h : OpF f.K G H σ E o v q) (W : Ow f fp q) (e : o.res E = some x)
    (hq : ∀ d', o = .val d' → qa = q) (ip : IsPart f.K G H x v qa k d u) {o' : Opd} (eo : part o x k d = some o') : ∃ q', OpF f.K G H σ E o' u q' ∧ Ow f fp q' := by
  obtain ⟨⟨q', r, s, n⟩, hp⟩ := ip
  unfold DV.part at eo
  split at eo
  · rename_i hz
    cases eo
    have := Rp.nil_of d u q' hz r
    subst this
    exact ⟨[], r, .nil⟩
  · rename_i hz
    cases o with
    | val d' =>
      cases eo
      have := hq d' rfl
      subst this
      exact ⟨q', r, n W.nd, fun a ha => W.out a (s a ha), fun a ha => W.sep a (s a ha)⟩
    | path i ks =>
      have eo : (match x.kids with
        | [] => none
        | _ :: _ => some (.path i (ks ++ [k]))) = some o' := eo
      rcases hp with hp | hp | hp
      · exact absurd hp hz
      · obtain ⟨p, xs, e1, e2, e3, e4⟩ := hp
        obtain ⟨eq, v0, e5, h⟩ := h
        have e6 : (match E[i]? with | some (some d) => d.atP ks | _ => none) = some x := e
        cases qE : E[i]? with
        | none => rw [qE] at e6; cases e6
        | some oo =>
          cases oo with
          | none => rw [qE] at e6; cases e6
          | some d0 =>
            rw [qE] at e6
            have e6 : d0.atP ks = some x := e6
            have ha : At f.K H d0 v0 ks v := by
              cases ks with
              | nil => exact h
              | cons k r =>
                obtain ⟨d1, e5, h⟩ := h
                rw [qE] at e5
                cases e5
                exact h
            have h2 : At f.K H d0 v0 (ks ++ [k]) u := At.snoc ks d0 v0 v u x k ha e6 ⟨p, xs, u, d, e1, e2, e3, e4, rfl⟩
            have eo' : o' = .path i (ks ++ [k]) := by
              cases hx : x.kids with
              | nil => rw [hx] at eo; cases eo
              | cons _ _ => rw [hx] at eo; exact (Option.some.inj eo).symm
            subst eo'
            refine ⟨[], ⟨rfl, v0, e5, ?_⟩, .nil⟩
            cases hk : ks ++ [k] with
            | nil => simp at hk
            | cons j r =>
              rw [hk] at h2
              exact ⟨d0, qE, h2⟩
      · rw [hp] at eo; cases eo
theorem isPart_lst {K : PySem.W.Frag} {G H : Hp} {m : Bool} {ds : List D} {v : V} {k : Nat} {d : D} {q : List Addr} (ex : Same G H) (r : Rp K G H (.lst m ds) v q) (ed : ds[k]? = some d) :
    ∃ a xs u, v = .ref a ∧ SqL K H a xs ∧ xs.length = ds.length ∧ xs[k]? = some u ∧ IsPart K G H (.lst m ds) v q k d u := by
  unfold Rp at r
  obtain ⟨a, xs, e', r⟩ := r
  cases m with
  | true =>
    simp only [if_true] at r
    obtain ⟨f, e2, g, hh, hl⟩ := r
    obtain ⟨x, q', ex', rx, s, n⟩ := RpL.get ds xs f k d hl ed
    subst e2
    exact ⟨a, xs, x, e', .of hh, hl.len', ex', ⟨q', rx, fun a ha => List.mem_cons_of_mem _ (s a ha), fun hn => n (List.nodup_cons.mp hn).2⟩, .inr (.inl ⟨a, xs, e', ed, ex', hh⟩)⟩
  | false =>
    simp only [Bool.false_eq_true, if_false] at r
    obtain ⟨e2, hs, hl⟩ := r
    obtain ⟨x, q', ex', rx, s, n⟩ := RpL.get ds xs [] k d hl ed
    subst e2
    exact ⟨a, xs, x, e', sql_same ex hs, hl.len', ex', ⟨q', rx, s, n⟩, .inr (.inr rfl)⟩
theorem isPart_tup {K : PySem.W.Frag} {G H : Hp} {ds : List D} {v : V} {k : Nat} {d : D} {q : List Addr} (ex : Same G H) (r : Rp K G H (.tup ds) v q) (ed : ds[k]? = some d) :
    ∃ a xs u, v = .ref a ∧ SqT K H a xs ∧ xs.length = ds.length ∧ xs[k]? = some u ∧ IsPart K G H (.tup ds) v q k d u := by
  obtain ⟨a, xs, e', hs, _, hl⟩ := r.tup_inv ex
  obtain ⟨x, q', ex', rx, s, n⟩ := RpL.get ds xs q k d hl ed
  exact ⟨a, xs, x, e', hs, hl.len', ex', ⟨q', rx, s, n⟩, .inr (.inr rfl)⟩
section
variable [Tb] {X : Cx} {W : WX} {K : PySem.W.Frag}
/-- an operation on two operands that gives a part of one: R of the values is asked at the end -/
theorem tE2p {r : R2} {op : D → D → Option (Nat × D)} {ra rb : EvR}
    (rp : ∀ (G H : Hp) (x y : V) (a b : D) (d : Nat × D) (qa qb : List Addr) (Q : VK), Same G H → (∀ p o, H p = some o → Stb o → G p = some o) → Rp K G H a x qa → Rp K G H b y qb → op a b = some d →
      (∀ u, IsPart K G H a x qa d.1 d.2 u → Q u H) → r x y H Q)
    (σ : St) (H : Hp) (Q : VK) (h : tE K W (rPart op ra rb) σ H Q) : tOp r (tE K W ra) (tE K W rb) σ H Q := by
  obtain ⟨f, G, E, fp, ek, S, P⟩ := h
  refine ⟨f, G, E, fp, ek, S, ?_⟩
  unfold rPart at P
  cases ea : ra E with
  | stuck => rw [ea] at P; exact P
  | exc x E' => rw [ea] at P; exact P
  | ok a =>
    obtain ⟨oa, E1, c1⟩ := a
    rw [ea] at P
    intro v1 G1 H1 fp1 q1 S1 O1 W1 k1
    have S1' := S1.push O1.at W1
    refine ⟨f.push G1 H1 q1, G1, E1, fp1, ek, S1', ?_⟩
    have P : PostE f W σ Q G H E fp ((rb E1).bind fun b =>
      match oa.isBor && b.2.2 with
      | true => .stuck
      | false => match oa.res b.2.1, b.1.res b.2.1 with
        | some x, some y => (match op x y with
          | some d => (match DV.part oa x d.1 d.2 with
            | some o => .ok (o, b.2.1, c1 || b.2.2)
            | none => .stuck)
          | none => .stuck)
        | _, _ => .stuck) := P
    cases eb : rb E1 with
    | stuck => rw [eb] at P; exact P
    | exc x E' => rw [eb] at P; exact PostX.pop S1 P
    | ok b =>
      obtain ⟨ob, E2, c2⟩ := b
      rw [eb] at P
      intro v2 G2 H2 fp2 q2 S2' O2 W2 k2
      have S2 := S1.pop S2'
      have P : PostE f W σ Q G H E fp (match oa.isBor && c2 with
        | true => .stuck
        | false => match oa.res E2, ob.res E2 with
          | some x, some y => (match op x y with
            | some d => (match DV.part oa x d.1 d.2 with
              | some o => .ok (o, E2, c1 || c2)
              | none => .stuck)
            | none => .stuck)
          | _, _ => .stuck) := P
      cases hb : oa.isBor && c2 with
      | true => rw [hb] at P; exact P.elim
      | false =>
        rw [hb] at P
        have O1' := O1.wait hb S2' k2
        cases er : oa.res E2 with
        | none => rw [er] at P; exact P.elim
        | some x =>
          cases es : ob.res E2 with
          | none => rw [er, es] at P; exact P.elim
          | some y =>
            rw [er, es] at P
            have P : PostE f W σ Q G H E fp (match op x y with
              | some d => (match DV.part oa x d.1 d.2 with
                | some o => .ok (o, E2, c1 || c2)
                | none => .stuck)
              | none => .stuck) := P
            cases eo : op x y with
            | none => rw [eo] at P; exact P.elim
            | some d =>
              rw [eo] at P
              have P : PostE f W σ Q G H E fp (match DV.part oa x d.1 d.2 with
                | some o => .ok (o, E2, c1 || c2)
                | none => .stuck) := P
              cases ep : DV.part oa x d.1 d.2 with
              | none => rw [ep] at P; exact P.elim
              | some o =>
                rw [ep] at P
                obtain ⟨qa, Ra, _, hqa⟩ := OpF.rep S2 O1' er
                obtain ⟨qb, Rb, _⟩ := OpF.rep (f := f) S2 O2 es
                subst ek
                refine rp G2 H2 v1 v2 x y d qa qb Q S2.ex S2.stb Ra Rb eo fun u ip => ?_
                obtain ⟨q', O3, W3⟩ := OpF.part S2 O1' (SR.pushed W1 S2').1 er hqa.1 ip ep
                refine P u G2 H2 fp2 q' S2 O3 W3 fun hc => ?_
                have hc' : c1 = false ∧ c2 = false := by simpa using hc
                exact (k1 hc'.1).trans (k2 hc'.2)
theorem ixP_at {n i : Int} {N k : Nat} {d : D} {ds : List D} (e : ((ixN ds.length i).bind fun j => (ds[j]?).map fun d => (j, d)) = some (k, d)) : ixN ds.length i = some k ∧ ds[k]? = some d := by
  cases h : ixN ds.length i with
  | none => rw [h] at e; cases e
  | some j =>
    rw [h] at e
    have e : (ds[j]?).map (fun d => (j, d)) = some (k, d) := e
    cases h2 : ds[j]? with
    | none => rw [h2] at e; cases e
    | some d' => rw [h2] at e; cases e; exact ⟨rfl, h2⟩
theorem tIx_of {ra rb : EvR} (σ : St) (H : Hp) (Q : VK) (h : tE K W (rIx2 ra rb) σ H Q) : tOp (rIx K) (tE K W ra) (tE K W rb) σ H Q := by
  refine tE2p (op := ixP) (fun G H x y a b d qa qb Q ex stb Ra Rb eo k => ?_) σ H Q h
  obtain ⟨j, d⟩ := d
  cases b with
  | int i =>
    have ey := Rb.int_inv
    subst ey
    cases a with
    | lst m xs =>
      obtain ⟨e1, e2⟩ := ixP_at (n := 0) (N := 0) eo
      obtain ⟨a, vs, u, e3, hr, hl, eu, ip⟩ := isPart_lst ex Ra e2
      exact .inl ⟨a, vs, i, u, e3, rfl, hr, by unfold L2.atI; rw [hl, e1]; exact eu, k u ip⟩
    | tup xs =>
      obtain ⟨e1, e2⟩ := ixP_at (n := 0) (N := 0) eo
      obtain ⟨a, vs, u, e3, hr, hl, eu, ip⟩ := isPart_tup ex Ra e2
      exact .inr (.inl ⟨a, vs, i, u, e3, rfl, hr, by unfold L2.atI; rw [hl, e1]; exact eu, k u ip⟩)
    | str z =>
      have eo : (if z.length ≤ sizeLine then (atI z.cps.toList i).map fun c => (0, D.str ⟨#[c]⟩) else none) = some (j, d) := eo
      split at eo
      · rename_i hz
        cases ec : atI z.cps.toList i with
        | none => rw [ec] at eo; cases eo
        | some c =>
          rw [ec] at eo
          cases eo
          exact .inr (.inr ⟨z, i, c, Ra.str_inv, rfl, hz, ec, k _ ⟨⟨[], .str _, fun _ h => (nomatch h), fun _ => List.nodup_nil⟩, .inl rfl⟩⟩)
      · cases eo
    | _ => cases eo
  | _ => cases a <;> cases eo
theorem de_ix {a b : Expr} {ra rb : EvR} {pos : Pos} (ha : DE X W a ra) (hb : DE X W b rb) (hs : PlainIx b := by intro _ _; rfl) : DE X W (.Subscript a b pos) (rIx2 ra rb) := (pe_ix ix_seq ha hb hs).weak tIx_of
/-! ### a if t else b; values of and, or, not -/
@[simp] def rIf (rt : TvR) (ra rb : EvR) : EvR := fun E => (rt E).bind fun t => if t.1 = true then (ra t.2.1).bind fun a => .ok (a.1, a.2.1, t.2.2 || a.2.2) else (rb t.2.1).bind fun a => .ok (a.1, a.2.1, t.2.2 || a.2.2)
theorem PostE.mono {f : Fr} {σ : St} {Q : VK} {G H G1 H1 : Hp} {E E1 : Env} {fp fp1 : Nat → List Addr} {r : Rs (Opd × Env × Bool)} {c1 : Bool} (k1 : c1 = false → Quiet G H G1 H1 E E1 fp fp1)
    (P : PostE f W σ Q G H E fp (r.bind fun b => .ok (b.1, b.2.1, c1 || b.2.2))) : PostE f W σ Q G1 H1 E1 fp1 r := by
  cases r with
  | stuck => exact P
  | exc x E' => exact P
  | ok b =>
    obtain ⟨b, E2, c2⟩ := b
    intro v G2 H2 fp2 q S2 O2 W2 k2
    refine P v G2 H2 fp2 q S2 O2 W2 fun hc => ?_
    have hc' : c1 = false ∧ c2 = false := by simpa using hc
    exact (k1 hc'.1).trans (k2 hc'.2)
theorem tIf_of {rt : TvR} {ra rb : EvR} (σ : St) (H : Hp) (Q : VK) (h : tE K W (rIf rt ra rb) σ H Q) : tIf (tT K W rt) (tE K W ra) (tE K W rb) σ H Q := by
  obtain ⟨f, G, E, fp, ek, S, P⟩ := h
  refine ⟨f, G, E, fp, ek, S, ?_⟩
  unfold rIf at P
  cases ea : rt E with
  | stuck => rw [ea] at P; exact P
  | exc x E' => rw [ea] at P; exact P
  | ok a =>
    obtain ⟨b1, E1, c1⟩ := a
    rw [ea] at P
    intro G1 H1 fp1 S1 k1
    cases b1 with
    | true => exact ⟨f, G1, E1, fp1, ek, S1, PostE.mono k1 P⟩
    | false => exact ⟨f, G1, E1, fp1, ek, S1, PostE.mono k1 P⟩
theorem de_if {t a b : Expr} {rt : TvR} {ra rb : EvR} {pos : Pos} (ht : DT X W t rt) (ha : DE X W a ra) (hb : DE X W b rb) : DE X W (.IfExp t a b pos) (rIf rt ra rb) := (pe_ifExp ht ha hb).weak tIf_of
/-- a bool for and, or -/
@[simp] def rAndV (ra rb : EvR) : EvR := fun E => (ra E).bind fun a => match a.1.res a.2.1 with
  | some (.bl true) => (rb a.2.1).bind fun b => .ok (b.1, b.2.1, a.2.2 || b.2.2)
  | some (.bl false) => .ok (.val (.bl false), a.2.1, a.2.2)
  | _ => .stuck
@[simp] def rOrV (ra rb : EvR) : EvR := fun E => (ra E).bind fun a => match a.1.res a.2.1 with
  | some (.bl false) => (rb a.2.1).bind fun b => .ok (b.1, b.2.1, a.2.2 || b.2.2)
  | some (.bl true) => .ok (.val (.bl true), a.2.1, a.2.2)
  | _ => .stuck
theorem tAndV_of {ra rb : EvR} (σ : St) (H : Hp) (Q : VK) (h : tE K W (rAndV ra rb) σ H Q) : tAndV (tE K W ra) (tE K W rb) σ H Q := by
  obtain ⟨f, G, E, fp, ek, S, P⟩ := h
  refine ⟨f, G, E, fp, ek, S, ?_⟩
  unfold rAndV at P
  cases ea : ra E with
  | stuck => rw [ea] at P; exact P
  | exc x E' => rw [ea] at P; exact P
  | ok a =>
    obtain ⟨oa, E1, c1⟩ := a
    rw [ea] at P
    intro v G1 H1 fp1 q1 S1 O1 W1 k1
    have P : PostE f W σ Q G H E fp (match oa.res E1 with
      | some (.bl true) => (rb E1).bind fun b => .ok (b.1, b.2.1, c1 || b.2.2)
      | some (.bl false) => .ok (.val (.bl false), E1, c1)
      | _ => .stuck) := P
    cases er : oa.res E1 with
    | none => rw [er] at P; exact P.elim
    | some d =>
      rw [er] at P
      obtain ⟨q', r, _⟩ := O1.rep S1 er
      cases d with
      | bl b =>
        cases b with
        | true => exact ⟨true, r.bl_inv, ⟨f, G1, E1, fp1, ek, S1, PostE.mono k1 P⟩⟩
        | false => exact ⟨false, r.bl_inv, P (.bl false) G1 H1 fp1 [] S1 (show Rp f.K G1 H1 (.bl false) (.bl false) [] from .bl false) .nil k1⟩
      | _ => exact P.elim
theorem tOrV_of {ra rb : EvR} (σ : St) (H : Hp) (Q : VK) (h : tE K W (rOrV ra rb) σ H Q) : tOrV (tE K W ra) (tE K W rb) σ H Q := by
  obtain ⟨f, G, E, fp, ek, S, P⟩ := h
  refine ⟨f, G, E, fp, ek, S, ?_⟩
  unfold rOrV at P
  cases ea : ra E with
  | stuck => rw [ea] at P; exact P
  | exc x E' => rw [ea] at P; exact P
  | ok a =>
    obtain ⟨oa, E1, c1⟩ := a
    rw [ea] at P
    intro v G1 H1 fp1 q1 S1 O1 W1 k1
    have P : PostE f W σ Q G H E fp (match oa.res E1 with
      | some (.bl false) => (rb E1).bind fun b => .ok (b.1, b.2.1, c1 || b.2.2)
      | some (.bl true) => .ok (.val (.bl true), E1, c1)
      | _ => .stuck) := P
    cases er : oa.res E1 with
    | none => rw [er] at P; exact P.elim
    | some d =>
      rw [er] at P
      obtain ⟨q', r, _⟩ := O1.rep S1 er
      cases d with
      | bl b =>
        cases b with
        | false => exact ⟨false, r.bl_inv, ⟨f, G1, E1, fp1, ek, S1, PostE.mono k1 P⟩⟩
        | true => exact ⟨true, r.bl_inv, P (.bl true) G1 H1 fp1 [] S1 (show Rp f.K G1 H1 (.bl true) (.bl true) [] from .bl true) .nil k1⟩
      | _ => exact P.elim
variable {a b : Expr} {ra rb : EvR} {rest : List Expr} {pos : Pos}
theorem de_one {op : BoolOp} (h : DE X W a ra) : DE X W (.BoolOp op [a] pos) ra := pe_one h
theorem de_and (h : DE X W a ra) (h2 : DE X W (.BoolOp .And (b :: rest) pos) rb) : DE X W (.BoolOp .And (a :: b :: rest) pos) (rAndV ra rb) := (pe_and h h2).weak tAndV_of
theorem de_or (h : DE X W a ra) (h2 : DE X W (.BoolOp .Or (b :: rest) pos) rb) : DE X W (.BoolOp .Or (a :: b :: rest) pos) (rOrV ra rb) := (pe_or h h2).weak tOrV_of
end
end DV

namespace DV
open PySem L2

/-! ### statements -/
inductive Fl where
  | nx | bk | ct
  | rt (d : D)
abbrev SvR := Env → Rs (Fl × Env)
def PostXS [Tb] (f : Fr) (W : WX) (x : Xc) (E' : Env) : Prop := ∀ σ G' H' fp' dx, SR f G' H' σ E' fp' → XRep f.K G' H' x dx → W (.ref (He.ga f.K x.cls)) (some dx) σ H'
def PostS [Tb] (f : Fr) (W : WX) (Dn : Ends) : Rs (Fl × Env) → Prop
  | .ok (.nx, E') => ∀ σ' G' H' fp', SR f G' H' σ' E' fp' → Dn.nx σ' H'
  | .ok (.bk, E') => ∀ σ' G' H' fp', SR f G' H' σ' E' fp' → Dn.bk σ' H'
  | .ok (.ct, E') => ∀ σ' G' H' fp', SR f G' H' σ' E' fp' → Dn.ct σ' H'
  | .ok (.rt d, E') => ∀ v σ' G' H' fp' q, SR f G' H' σ' E' fp' → Rp f.K G' H' d v q → Ow f fp' q → Dn.rt v H'
  | .exc x E' => PostXS f W x E'
  | .stuck => False
/-- pn: the slots that keep what they have (parameters that are changed for the caller) -/
def tS [Tb] (K : PySem.W.Frag) (pn : Nat → Prop) (W : WX) (r : SvR) : TS := fun Dn σ H => ∃ f G E fp, f.K = K ∧ f.pn = pn ∧ SR f G H σ E fp ∧ PostS f W Dn (r E)
abbrev DS [Tb] (X : Cx) (pn : Nat → Prop) (W : WX) (st : Stmt) (r : SvR) : Prop := PS X st (tS X.K pn W r)
abbrev DSs [Tb] (X : Cx) (pn : Nat → Prop) (W : WX) (st : List Stmt) (r : SvR) : Prop := PSs X st (tS X.K pn W r)
theorem PostXS.at [Tb] {f : Fr} {W : WX} {x : Xc} {E' : Env} (h : PostXS f W x E') (σ : St) : PostX f W σ x E' := fun G' H' fp' dx S r => h σ G' H' fp' dx S r
@[simp] def sSkip : SvR := fun E => .ok (.nx, E)
@[simp] def sBreak : SvR := fun E => .ok (.bk, E)
@[simp] def sCont : SvR := fun E => .ok (.ct, E)
@[simp] def sSeq (r u : SvR) : SvR := fun E => (r E).bind fun a => match a.1 with
  | .nx => u a.2
  | o => .ok (o, a.2)
@[simp] def sDrop (r : EvR) : SvR := fun E => (r E).bind fun a => .ok (.nx, a.2.1)
@[simp] def sIf (t : TvR) (r u : SvR) : SvR := fun E => (t E).bind fun b => if b.1 = true then r b.2.1 else u b.2.1
@[simp] def sRet (r : EvR) : SvR := fun E => (r E).bind fun a => match toVal a.1 a.2.1 with
  | some (d, E2, _) => .ok (.rt d, E2)
  | none => .stuck
@[simp] def sRetN : SvR := fun E => .ok (.rt .non, E)
@[simp] def sSet (i : Nat) (r : EvR) : SvR := fun E => (r E).bind fun a => match toVal a.1 a.2.1 with
  | some (d, E2, _) => if i < E2.length then .ok (.nx, E2.set i (some d)) else .stuck
  | none => .stuck
section
variable [Tb] {X : Cx} {W : WX} {K : PySem.W.Frag} {pn : Nat → Prop}
theorem ds_pass {pos : Pos} : DS X pn W (.Pass pos) sSkip := ps_pass.weak fun D σ H h => by
  obtain ⟨f, G, E, fp, ek, ep, S, P⟩ := h
  exact P σ G H fp S
theorem ds_break {pos : Pos} : DS X pn W (.Break pos) sBreak := ps_break.weak fun D σ H h => by
  obtain ⟨f, G, E, fp, ek, ep, S, P⟩ := h
  exact P σ G H fp S
theorem ds_continue {pos : Pos} : DS X pn W (.Continue pos) sCont := ps_continue.weak fun D σ H h => by
  obtain ⟨f, G, E, fp, ek, ep, S, P⟩ := h
  exact P σ G H fp S
theorem ds_doc {x : Str} {j : Nat} {pos pos' : Pos} : DS X pn W (.Expr (.Constant (.str x) j pos) pos') sSkip := ps_doc.weak fun D σ H h => by
  obtain ⟨f, G, E, fp, ek, ep, S, P⟩ := h
  exact P σ G H fp S
theorem dss_nil : DSs X pn W [] sSkip := pss_nil.weak fun D σ H h => by
  obtain ⟨f, G, E, fp, ek, ep, S, P⟩ := h
  exact P σ G H fp S
theorem tSeq_of {r u : SvR} (D : Ends) (σ : St) (H : Hp) (h : tS K pn W (sSeq r u) D σ H) : tSeq (tS K pn W r) (tS K pn W u) D σ H := by
  obtain ⟨f, G, E, fp, ek, ep, S, P⟩ := h
  refine ⟨f, G, E, fp, ek, ep, S, ?_⟩
  unfold sSeq at P
  cases ea : r E with
  | stuck => rw [ea] at P; exact P
  | exc x E' => rw [ea] at P; exact P
  | ok a =>
    obtain ⟨fl, E1⟩ := a
    rw [ea] at P
    cases fl with
    | nx => exact fun σ' G' H' fp' S' => ⟨f, G', E1, fp', ek, ep, S', P⟩
    | bk => exact P
    | ct => exact P
    | rt d => exact P
theorem dss_cons {st : Stmt} {rest : List Stmt} {r u : SvR} (h1 : DS X pn W st r) (h2 : DSs X pn W rest u) : DSs X pn W (st :: rest) (sSeq r u) := (pss_cons h1 h2).weak tSeq_of
theorem dss_one {st : Stmt} {r : SvR} (h1 : DS X pn W st r) : DSs X pn W [st] r := pss_one h1
theorem tDrop_of {r : EvR} (D : Ends) (σ : St) (H : Hp) (h : tS K pn W (sDrop r) D σ H) : tDrop (tE K W r) D σ H := by
  obtain ⟨f, G, E, fp, ek, ep, S, P⟩ := h
  refine ⟨f, G, E, fp, ek, S, ?_⟩
  unfold sDrop at P
  cases ea : r E with
  | stuck => rw [ea] at P; exact P
  | exc x E' => rw [ea] at P; exact P.at σ
  | ok a =>
    rw [ea] at P
    exact fun v G' H' fp' q S' _ _ _ => P σ G' H' fp' S'
theorem ds_expr {e : Expr} {r : EvR} {pos : Pos} (h : DE X W e r) (hs : swapsWith e none pos.line X.env = pure false := by rfl) : DS X pn W (.Expr e pos) (sDrop r) := (ps_expr h hs).weak tDrop_of
theorem tIfS_of {t : TvR} {r u : SvR} (D : Ends) (σ : St) (H : Hp) (h : tS K pn W (sIf t r u) D σ H) : tIfS (tT K W t) (tS K pn W r) (tS K pn W u) D σ H := by
  obtain ⟨f, G, E, fp, ek, ep, S, P⟩ := h
  refine ⟨f, G, E, fp, ek, S, ?_⟩
  unfold sIf at P
  cases ea : t E with
  | stuck => rw [ea] at P; exact P
  | exc x E' => rw [ea] at P; exact P.at σ
  | ok a =>
    obtain ⟨b, E1, c1⟩ := a
    rw [ea] at P
    intro G1 H1 fp1 S1 k1
    cases b with
    | true => exact ⟨f, G1, E1, fp1, ek, ep, S1, P⟩
    | false => exact ⟨f, G1, E1, fp1, ek, ep, S1, P⟩
theorem ds_if {c : Expr} {a b : List Stmt} {t : TvR} {r u : SvR} {pos : Pos} (hc : DT X W c t) (ha : DSs X pn W a r) (hb : DSs X pn W b u) : DS X pn W (.If c a b pos) (sIf t r u) := (ps_if hc ha hb).weak tIfS_of
theorem tRet_of {r : EvR} (D : Ends) (σ : St) (H : Hp) (h : tS K pn W (sRet r) D σ H) : tRet (tE K W r) D σ H := by
  obtain ⟨f, G, E, fp, ek, ep, S, P⟩ := h
  refine ⟨f, G, E, fp, ek, S, ?_⟩
  unfold sRet at P
  cases ea : r E with
  | stuck => rw [ea] at P; exact P
  | exc x E' => rw [ea] at P; exact P.at σ
  | ok a =>
    obtain ⟨o, E1, c1⟩ := a
    rw [ea] at P
    intro v G1 H1 fp1 q S1 O1 W1 k1
    have P : PostS f W D (match toVal o E1 with
      | some (d, E2, _) => .ok (.rt d, E2)
      | none => .stuck) := P
    cases et : toVal o E1 with
    | none => rw [et] at P; exact P.elim
    | some p =>
      obtain ⟨d, E2, c⟩ := p
      rw [et] at P
      obtain ⟨G2, fp2, S2, s2, k2, b2, r2, z2⟩ := toVal_ok S1 O1 W1 et
      exact P v σ G2 H1 fp2 q S2 r2 (W1.sub b2)
theorem ds_ret {e : Expr} {r : EvR} {pos : Pos} (h : DE X W e r) : DS X pn W (.Return (some e) pos) (sRet r) := (ps_ret h).weak tRet_of
theorem ds_retN {pos : Pos} : DS X pn W (.Return none pos) sRetN := ps_retN.weak fun D σ H h => by
  obtain ⟨f, G, E, fp, ek, ep, S, P⟩ := h
  exact P .non σ G H fp [] S .non .nil
/-- a slot is stored -/
theorem SR.set {f : Fr} {G H : Hp} {σ : St} {E : Env} {fp : Nat → List Addr} (S : SR f G H σ E fp) {i : Nat} {d : D} {v : V} {q : List Addr} (hi : i < E.length) (np : ¬ f.pn i) (r : Rp f.K G H d v q) (w : Ow f fp q) :
    SR f G H (σ.set i (some v)) (E.set i (some d)) (fun j => if j = i then q else fp j) where
  tab := S.tab
  g0 := S.g0
  ex := S.ex
  fr := S.fr
  stb := S.stb
  pin := fun j hj => by
    have : i ≠ j := fun z => np (z ▸ hj)
    rw [List.getElem?_set_ne this]
    exact S.pin j hj
  slen := by rw [List.length_set]; exact S.slen
  len := by rw [List.length_set, List.length_set]; exact S.len
  slot := fun j d' e => by
    by_cases h : i = j
    · subst h
      rw [List.getElem?_set_self hi] at e
      cases e
      rw [if_pos rfl]
      exact ⟨v, List.getElem?_set_self (Nat.lt_of_lt_of_le hi S.len), r⟩
    · rw [List.getElem?_set_ne h] at e
      rw [if_neg (Ne.symm h), List.getElem?_set_ne h]
      exact S.slot j d' e
  none_ := fun j n => by
    by_cases h : i = j
    · subst h
      exact absurd (List.getElem?_set_self hi) (n d)
    · rw [if_neg (Ne.symm h)]
      exact S.none_ j fun d' => by rw [← List.getElem?_set_ne h]; exact n d'
  nd := fun j => by
    show (if j = i then q else fp j).Nodup
    split
    · exact w.nd
    · exact S.nd j
  sep := fun j k a h1 h2 => by
    have h1 : a ∈ (if j = i then q else fp j) := h1
    have h2 : a ∈ (if k = i then q else fp k) := h2
    by_cases hj : j = i
    · by_cases hk : k = i
      · rw [hj, hk]
      · rw [if_pos hj] at h1
        rw [if_neg hk] at h2
        exact absurd h2 (w.sep a h1 k)
    · by_cases hk : k = i
      · rw [if_neg hj] at h1
        rw [if_pos hk] at h2
        exact absurd h1 (w.sep a h2 j)
      · rw [if_neg hj] at h1
        rw [if_neg hk] at h2
        exact S.sep j k a h1 h2
  out := fun j a h => by
    have h : a ∈ (if j = i then q else fp j) := h
    split at h
    · exact w.out a h
    · exact S.out j a h
theorem tSet_of {i : Nat} {r : EvR} (np : ¬ pn i) (D : Ends) (σ : St) (H : Hp) (h : tS K pn W (sSet i r) D σ H) : tAsg (tE K W r) (gName i) D σ H := by
  obtain ⟨f, G, E, fp, ek, ep, S, P⟩ := h
  refine ⟨f, G, E, fp, ek, S, ?_⟩
  unfold sSet at P
  cases ea : r E with
  | stuck => rw [ea] at P; exact P
  | exc x E' => rw [ea] at P; exact P.at σ
  | ok a =>
    obtain ⟨o, E1, c1⟩ := a
    rw [ea] at P
    intro v G1 H1 fp1 q S1 O1 W1 k1
    have P : PostS f W D (match toVal o E1 with
      | some (d, E2, _) => if i < E2.length then .ok (.nx, E2.set i (some d)) else .stuck
      | none => .stuck) := P
    cases et : toVal o E1 with
    | none => rw [et] at P; exact P.elim
    | some p =>
      obtain ⟨d, E2, c⟩ := p
      rw [et] at P
      obtain ⟨G2, fp2, S2, s2, k2, b2, r2, z2⟩ := toVal_ok S1 O1 W1 et
      have P : PostS f W D (if i < E2.length then .ok (.nx, E2.set i (some d)) else .stuck) := P
      split at P
      · rename_i hi
        exact P _ G2 H1 _ (S2.set hi (by rw [ep]; exact np) r2 (W1.sub b2))
      · exact P.elim
theorem ds_set {i : Nat} {x : Str} {e : Expr} {r : EvR} {pos pos' : Pos} (np : ¬ pn i) (hN : X.N.Nodup) (hi : X.N[i]? = some x) (hx : Loc X.env.scope x) (h : DE X W e r) (hs : swapsWith e (some (.Name x pos')) pos.line X.env = pure false := by rfl)
    (hf : X.fn x = true ∨ X.env.scope.names.lookup x = some .local := by first | exact .inl rfl | exact .inr rfl) : DS X pn W (.Assign [.Name x pos'] e pos) (sSet i r) := (ps_set hN hi hx h hs hf).weak (tSet_of np)
/-! targets -/
/-- what a target does with a value that is its own -/
abbrev GvR := D → Env → Option Env
def PostG [Tb] (f : Fr) (Q : St → Hp → Prop) : Option Env → Prop
  | some E' => ∀ σ' G' H' fp', SR f G' H' σ' E' fp' → Q σ' H'
  | _ => False
def tG [Tb] (K : PySem.W.Frag) (pn : Nat → Prop) (r : GvR) : TG := fun v σ H Q => ∃ f G E fp d q, f.K = K ∧ f.pn = pn ∧ SR f G H σ E fp ∧ Rp K G H d v q ∧ Ow f fp q ∧ PostG f Q (r d E)
abbrev DG [Tb] (X : Cx) (pn : Nat → Prop) (t : Expr) (r : GvR) : Prop := PG X t (tG X.K pn r)
theorem _root_.L2.PG.weak {X : Cx} {e : Expr} {t t' : TG} (h : PG X e t) (k : ∀ v σ H Q, t' v σ H Q → t v σ H Q) : PG X e t' := ⟨fun pins s σ H v u Q I r w => h.run pins s σ H v u Q I r (k v σ H Q w)⟩
theorem _root_.L2.PGs.weak {X : Cx} {e : List Expr} {t t' : TGs} (h : PGs X e t) (k : ∀ v σ H Q, t' v σ H Q → t v σ H Q) : PGs X e t' := ⟨fun pins s σ H v u Q I r w => h.run pins s σ H v u Q I r (k v σ H Q w)⟩
@[simp] def gSet (i : Nat) : GvR := fun d E => if i < E.length then some (E.set i (some d)) else none
theorem dg_name {i : Nat} {x : Str} {pos : Pos} (np : ¬ pn i) (hN : X.N.Nodup) (hi : X.N[i]? = some x) (hx : Loc X.env.scope x) (hf : X.fn x = true ∨ X.env.scope.names.lookup x = some .local := by first | exact .inl rfl | exact .inr rfl) : DG X pn (.Name x pos) (gSet i) :=
  (pg_name hN hi hx hf).weak fun v σ H Q h => by
    obtain ⟨f, G, E, fp, d, q, ek, ep, S, r, w, P⟩ := h
    unfold gSet at P
    split at P
    · rename_i hl
      exact P _ G H _ (S.set hl (by rw [ep]; exact np) (by rw [ek]; exact r) w)
    · exact P.elim
/-- several targets -/
abbrev GsR := List D → Env → Option Env
def tGs [Tb] (K : PySem.W.Frag) (pn : Nat → Prop) (r : GsR) : TGs := fun vs σ H Q => ∃ f G E fp ds q, f.K = K ∧ f.pn = pn ∧ SR f G H σ E fp ∧ RpL K G H ds vs q ∧ Ow f fp q ∧ PostG f Q (r ds E)
abbrev DGs [Tb] (X : Cx) (pn : Nat → Prop) (ts : List Expr) (r : GsR) : Prop := PGs X ts (tGs X.K pn r)
@[simp] def gNilD : GsR := fun ds E => match ds with
  | [] => some E
  | _ => none
@[simp] def gConsD (g : GvR) (gs : GsR) : GsR := fun ds E => match ds with
  | d :: r => (match g d E with
    | some E1 => gs r E1
    | none => none)
  | [] => none
theorem dgs_nil : DGs X pn [] gNilD := pgs_nil.weak fun vs σ H Q h => by
  obtain ⟨f, G, E, fp, ds, q, ek, ep, S, r, w, P⟩ := h
  cases ds with
  | nil => unfold RpL at r; exact ⟨r.1, P σ G H fp S⟩
  | cons d ds => exact P.elim
theorem Rs.bind_ok {α β : Type} {r : Rs α} {a : α} {k : α → Rs β} (h : r = .ok a) : r.bind k = k a := by rw [h]; rfl
theorem dgs_cons {e : Expr} {es : List Expr} {g : GvR} {gs : GsR} (h1 : DG X pn e g) (h2 : DGs X pn es gs) (hs : (assignEach (e :: es) X.env).map (·.2) = assign e X.env :: (assignEach es X.env).map (·.2) := by rfl) : DGs X pn (e :: es) (gConsD g gs) :=
  (pgs_cons h1 h2 hs).weak fun vs σ H Q h => by
    obtain ⟨f, G, E, fp, ds, q, ek, ep, S, r, w, P⟩ := h
    cases ds with
    | nil => exact P.elim
    | cons d ds =>
      unfold RpL at r
      obtain ⟨x, rest, f1, f2, e1, e2, h1, h2⟩ := r
      subst e1 e2
      refine ⟨x, rest, rfl, ?_⟩
      have hq : ∀ p ∈ f2, G p = none ∧ ∃ o, H p = some o ∧ NotT o := fun p hp => by
        obtain ⟨g, o, ho, hw⟩ := RpL.at ds rest f2 h2 p hp
        exact ⟨g, o, ho, hw.notT⟩
      have W2 := w.right
      have S' := S.push hq W2
      have W1 : Ow (f.push G H f2) fp f1 := ⟨w.left.nd, fun a ha z => by
        rcases z with z | z
        · exact w.left.out a ha z
        · exact (List.nodup_append.mp w.nd).2.2 a ha a z rfl, w.left.sep⟩
      refine ⟨f.push G H f2, G, E, fp, d, f1, ek, ep, S', h1, W1, ?_⟩
      have P : PostG f Q (match g d E with
        | some E1 => gs ds E1
        | none => none) := P
      cases eg : g d E with
      | none => rw [eg] at P; exact P.elim
      | some E1 =>
        rw [eg] at P
        intro σ' G' H' fp' S1'
        have S1 := S.pop S1'
        obtain ⟨W3, k3, s3⟩ := SR.pushed W2 S1'
        exact ⟨f, G', E1, fp', ds, f2, ek, ep, S1, RpL.mono s3 ds rest f2 h2 k3, W3, P⟩
def gTupD (n : Nat) (gs : GsR) : GvR := fun d E => match d with
  | .tup ds => if ds.length = n then gs ds E else none
  | _ => none
theorem dg_tup {es : List Expr} {k : Nat} {gs : GsR} {n : Nat} {pos : Pos} (hc : X.calm = true) (h : DGs X pn es gs) (hn : (assignEach es X.env).length = n := by rfl) (hst : (assignEach es X.env).findIdx? (·.1) = none := by rfl) : DG X pn (.Tuple es k pos) (gTupD n gs) :=
  (pg_tup hc h hn hst).weak fun v σ H Q h => by
    obtain ⟨f, G, E, fp, d, q, ek, ep, S, r, w, P⟩ := h
    cases d with
    | tup ds =>
      have P : PostG f Q (if ds.length = n then gs ds E else none) := P
      split at P
      · rename_i hl
        obtain ⟨a, xs, e1, hs, _, hr⟩ := r.tup_inv S.ex
        exact ⟨a, xs, e1, hs, by rw [hr.len']; exact hl, f, G, E, fp, ds, q, ek, ep, S, hr, w, P⟩
      · exact P.elim
    | _ => exact P.elim
/-- target = value -/
@[simp] def sAsg (r : EvR) (g : GvR) : SvR := fun E => (r E).bind fun a => match toVal a.1 a.2.1 with
  | some (d, E2, _) => (match g d E2 with
    | some E3 => .ok (.nx, E3)
    | none => .stuck)
  | none => .stuck
theorem tAsg_of {r : EvR} {g : GvR} (D : Ends) (σ : St) (H : Hp) (h : tS K pn W (sAsg r g) D σ H) : tAsg (tE K W r) (tG K pn g) D σ H := by
  obtain ⟨f, G, E, fp, ek, ep, S, P⟩ := h
  refine ⟨f, G, E, fp, ek, S, ?_⟩
  unfold sAsg at P
  cases ea : r E with
  | stuck => rw [ea] at P; exact P
  | exc x E' => rw [ea] at P; exact P.at σ
  | ok a =>
    obtain ⟨o, E1, c1⟩ := a
    rw [ea] at P
    intro v G1 H1 fp1 q S1 O1 W1 k1
    have P : PostS f W D (match toVal o E1 with
      | some (d, E2, _) => (match g d E2 with
        | some E3 => .ok (.nx, E3)
        | none => .stuck)
      | none => .stuck) := P
    cases et : toVal o E1 with
    | none => rw [et] at P; exact P.elim
    | some p =>
      obtain ⟨d, E2, c⟩ := p
      rw [et] at P
      obtain ⟨G2, fp2, S2, s2, k2, b2, r2, z2⟩ := toVal_ok S1 O1 W1 et
      refine ⟨f, G2, E2, fp2, d, q, ek, ep, S2, by rw [← ek]; exact r2, W1.sub b2, ?_⟩
      have P : PostS f W D (match g d E2 with
        | some E3 => .ok (.nx, E3)
        | none => .stuck) := P
      cases eg : g d E2 with
      | none => rw [eg] at P; exact P.elim
      | some E3 => rw [eg] at P; exact P
theorem ds_asg {tg e : Expr} {r : EvR} {g : GvR} {pos : Pos} (he : DE X W e r) (hg : DG X pn tg g) (hs : swapsWithSole [tg] e pos.line X.env = pure false := by rfl) (hw : swappedStores [tg] e X.env = pure none := by rfl)
    (h1 : (assignEach [tg] X.env).map (·.2) = [assign tg X.env] := by rfl) : DS X pn W (.Assign [tg] e pos) (sAsg r g) := (ps_asg he hg hs hw h1).weak tAsg_of
end
end DV

namespace DV
open PySem L2

/-! ### a part of owned data is changed -/
def D.setK : D → Nat → D → D
  | .lst true ds, k, e => .lst true (ds.set k e)
  | .obj true C ns ds, k, e => .obj true C ns (ds.set k e)
  | d, _, _ => d
@[simp] def D.setP : D → List Nat → D → D
  | _, [], e => e
  | d, k :: ks, e => match d.kids[k]? with
    | some c => d.setK k (c.setP ks e)
    | none => d
section
variable {K : PySem.W.Frag} {G H : Hp}
theorem RpL.focus : ∀ (ds : List D) (xs : List V) (fp : List Addr) (k : Nat) (e : D), RpL K G H ds xs fp → fp.Nodup → ds[k]? = some e →
    ∃ x fk, xs[k]? = some x ∧ Rp K G H e x fk ∧ (∀ a ∈ fk, a ∈ fp) ∧ fk.Nodup ∧ ∀ (H' : Hp) (e' : D) (fk' : List Addr), (∀ a ∈ fp, a ∉ fk → H' a = H a) → Rp K G H' e' x fk' → fk'.Nodup → (∀ a ∈ fk', a ∈ fk ∨ a ∉ fp) →
      ∃ fp', RpL K G H' (ds.set k e') xs fp' ∧ fp'.Nodup ∧ ∀ a ∈ fp', (a ∈ fp ∧ a ∉ fk) ∨ a ∈ fk'
  | [], _, _, _, _, _, _, h => by simp at h
  | d :: ds, xs, fp, 0, e, r, n, h => by
    have h' : d = e := by simpa using h
    subst h'
    unfold RpL at r
    obtain ⟨x, r', f1, f2, e1, e2, h1, h2⟩ := r
    subst e1 e2
    have n' := List.nodup_append.mp n
    refine ⟨x, f1, rfl, h1, fun a ha => List.mem_append_left _ ha, n'.1, fun H' e' fk' hk re nk hs => ?_⟩
    refine ⟨fk' ++ f2, ?_, List.nodup_append.mpr ⟨nk, n'.2.1, fun a ha b hb z => ?_⟩, fun a ha => ?_⟩
    · show RpL K G H' (e' :: ds) (x :: r') _
      unfold RpL
      refine ⟨x, r', fk', f2, rfl, rfl, re, RpL.mono (Same.refl _) ds r' f2 h2 fun p hp => ⟨(RpL.at ds r' f2 h2 p hp).1, hk p (List.mem_append_right _ hp) fun z => n'.2.2 p z p hp rfl⟩⟩
    · subst z
      rcases hs a ha with z | z
      · exact n'.2.2 a z a hb rfl
      · exact z (List.mem_append_right _ hb)
    · rcases List.mem_append.mp ha with z | z
      · exact .inr z
      · exact .inl ⟨List.mem_append_right _ z, fun y => n'.2.2 a y a z rfl⟩
  | d :: ds, xs, fp, k + 1, e, r, n, h => by
    unfold RpL at r
    obtain ⟨x, r', f1, f2, e1, e2, h1, h2⟩ := r
    subst e1 e2
    have n' := List.nodup_append.mp n
    obtain ⟨y, fk, ey, ry, sk, nk, reb⟩ := RpL.focus ds r' f2 k e h2 n'.2.1 (by simpa using h)
    refine ⟨y, fk, by simpa using ey, ry, fun a ha => List.mem_append_right _ (sk a ha), nk, fun H' e' fk' hk re nk' hs => ?_⟩
    obtain ⟨f2', r2, n2, s2⟩ := reb H' e' fk' (fun a ha hn => hk a (List.mem_append_right _ ha) hn) re nk' fun a ha => (hs a ha).elim .inl fun z => .inr fun y => z (List.mem_append_right _ y)
    have d1 : ∀ a ∈ f1, a ∉ f2' := fun a ha hb => by
      rcases s2 a hb with z | z
      · exact n'.2.2 a ha a z.1 rfl
      · rcases hs a z with y | y
        · exact n'.2.2 a ha a (sk a y) rfl
        · exact y (List.mem_append_left _ ha)
    refine ⟨f1 ++ f2', ?_, List.nodup_append.mpr ⟨n'.1, n2, fun a ha b hb z => d1 a ha (z ▸ hb)⟩, fun a ha => ?_⟩
    · show RpL K G H' (d :: ds.set k e') (x :: r') _
      unfold RpL
      refine ⟨x, r', f1, f2', rfl, rfl, Rp.mono (Same.refl _) d x f1 h1 fun p hp => ⟨(Rp.at d x f1 h1 p hp).1, hk p (List.mem_append_left _ hp) fun z => n'.2.2 p hp p (sk p z) rfl⟩, r2⟩
    · rcases List.mem_append.mp ha with z | z
      · exact .inl ⟨List.mem_append_left _ z, fun y => n'.2.2 a z a (sk a y) rfl⟩
      · exact (s2 a z).elim (fun y => .inl ⟨List.mem_append_right _ y.1, y.2⟩) .inr
theorem Rp.focus : ∀ (ks : List Nat) (d : D) (v v' : V) (q : List Addr) (e : D), Rp K G H d v q → q.Nodup → At K H d v ks v' → d.atP ks = some e →
    ∃ q', Rp K G H e v' q' ∧ (∀ a ∈ q', a ∈ q) ∧ q'.Nodup ∧ ∀ (H' : Hp) (e' : D) (q'' : List Addr), (∀ a ∈ q, a ∉ q' → H' a = H a) → Rp K G H' e' v' q'' → q''.Nodup → (∀ a ∈ q'', a ∈ q' ∨ a ∉ q) →
      ∃ q3, Rp K G H' (d.setP ks e') v q3 ∧ q3.Nodup ∧ ∀ a ∈ q3, (a ∈ q ∧ a ∉ q') ∨ a ∈ q''
  | [], d, v, v', q, e, r, n, h, he => by
    have e1 : d = e := Option.some.inj he
    have e2 : v' = v := h
    subst e1 e2
    exact ⟨q, r, fun a ha => ha, n, fun H' e' q'' _ re ne _ => ⟨q'', re, ne, fun a ha => .inr ha⟩⟩
  | k :: ks, d, v, v', q, e, r, n, h, he => by
    obtain ⟨p, xs, x, c, e1, e2, e3, e4, h⟩ := h
    have he : (match d.kids[k]? with
      | some e => e.atP ks
      | none => none) = some e := he
    rw [e2] at he
    have he2 : c.atP ks = some e := he
    clear he
    cases d with
    | lst m ds =>
      cases m with
      | false => exact e4.elim
      | true =>
        unfold Rp at r
        obtain ⟨a, ys, e5, r⟩ := r
        simp only [if_true] at r
        obtain ⟨f, e6, g, hh, hl⟩ := r
        rw [e1] at e5
        cases e5
        have e4 : H p = some (.lst xs) := e4
        rw [hh] at e4
        obtain rfl : ys = xs := by injection e4 with e4; injection e4
        subst e6
        have n' := List.nodup_cons.mp n
        obtain ⟨y, fk, ey, ry, sk, nk, reb⟩ := RpL.focus ds ys f k c hl n'.2 e2
        rw [e3] at ey
        cases ey
        obtain ⟨q', r', s', n1, reb'⟩ := Rp.focus ks c x v' fk e ry nk h he2
        refine ⟨q', r', fun a ha => List.mem_cons_of_mem _ (sk a (s' a ha)), n1, fun H' e' q'' hk re ne hs => ?_⟩
        obtain ⟨q3, r3, n3, s3⟩ := reb' H' e' q'' (fun a ha hn => hk a (List.mem_cons_of_mem _ (sk a ha)) hn) re ne fun a ha => (hs a ha).elim .inl fun z => .inr fun y => z (List.mem_cons_of_mem _ (sk a y))
        obtain ⟨f', rf, nf, sf⟩ := reb H' (c.setP ks e') q3 (fun a ha hn => hk a (List.mem_cons_of_mem _ ha) fun z => hn (s' a z)) r3 n3 fun a ha => by
          rcases s3 a ha with z | z
          · exact .inl z.1
          · rcases hs a z with y | y
            · exact .inl (s' a y)
            · exact .inr fun w => y (List.mem_cons_of_mem _ w)
        have np : p ∉ f' := fun z => by
          rcases sf p z with y | y
          · exact n'.1 y.1
          · rcases s3 p y with w | w
            · exact n'.1 (sk p w.1)
            · rcases hs p w with u | u
              · exact n'.1 (sk p (s' p u))
              · exact u List.mem_cons_self
        refine ⟨p :: f', ?_, List.nodup_cons.mpr ⟨np, nf⟩, fun a ha => ?_⟩
        · show Rp K G H' (match (D.lst true ds).kids[k]? with
            | some c => (D.lst true ds).setK k (c.setP ks e')
            | none => D.lst true ds) v _
          rw [e2]
          show Rp K G H' (.lst true (ds.set k (c.setP ks e'))) v _
          unfold Rp
          refine ⟨p, ys, e1, ?_⟩
          simp only [if_true]
          exact ⟨f', rfl, g, (hk p List.mem_cons_self fun z => n'.1 (sk p (s' p z))).trans hh, rf⟩
        · rcases List.mem_cons.mp ha with z | z
          · subst z
            exact .inl ⟨List.mem_cons_self, fun y => n'.1 (sk _ (s' _ y))⟩
          · rcases sf a z with y | y
            · exact .inl ⟨List.mem_cons_of_mem _ y.1, fun w => y.2 (s' a w)⟩
            · rcases s3 a y with w | w
              · exact .inl ⟨List.mem_cons_of_mem _ (sk a w.1), w.2⟩
              · exact .inr w
    | obj m C ns ds =>
      cases m with
      | false => exact e4.elim
      | true =>
        unfold Rp at r
        obtain ⟨a, dx, ys, e5, en, r⟩ := r
        simp only [if_true] at r
        obtain ⟨f, e6, g, hh, hl⟩ := r
        rw [e1] at e5
        cases e5
        obtain ⟨en', dx', e4⟩ := e4
        rw [hh] at e4
        have e7 : ns.zip ys = ns.zip xs := by
          injection e4 with e4
          injection e4
        have e8 : ys = xs := by
          have h1 := congrArg (List.map Prod.snd) e7
          rwa [List.map_snd_zip (by omega), List.map_snd_zip (by omega)] at h1
        subst e8
        subst e6
        have n' := List.nodup_cons.mp n
        obtain ⟨y, fk, ey, ry, sk, nk, reb⟩ := RpL.focus ds ys f k c hl n'.2 e2
        rw [e3] at ey
        cases ey
        obtain ⟨q', r', s', n1, reb'⟩ := Rp.focus ks c x v' fk e ry nk h he2
        refine ⟨q', r', fun a ha => List.mem_cons_of_mem _ (sk a (s' a ha)), n1, fun H' e' q'' hk re ne hs => ?_⟩
        obtain ⟨q3, r3, n3, s3⟩ := reb' H' e' q'' (fun a ha hn => hk a (List.mem_cons_of_mem _ (sk a ha)) hn) re ne fun a ha => (hs a ha).elim .inl fun z => .inr fun y => z (List.mem_cons_of_mem _ (sk a y))
        obtain ⟨f', rf, nf, sf⟩ := reb H' (c.setP ks e') q3 (fun a ha hn => hk a (List.mem_cons_of_mem _ ha) fun z => hn (s' a z)) r3 n3 fun a ha => by
          rcases s3 a ha with z | z
          · exact .inl z.1
          · rcases hs a z with y | y
            · exact .inl (s' a y)
            · exact .inr fun w => y (List.mem_cons_of_mem _ w)
        have np : p ∉ f' := fun z => by
          rcases sf p z with y | y
          · exact n'.1 y.1
          · rcases s3 p y with w | w
            · exact n'.1 (sk p w.1)
            · rcases hs p w with u | u
              · exact n'.1 (sk p (s' p u))
              · exact u List.mem_cons_self
        refine ⟨p :: f', ?_, List.nodup_cons.mpr ⟨np, nf⟩, fun a ha => ?_⟩
        · show Rp K G H' (match (D.obj true C ns ds).kids[k]? with
            | some c => (D.obj true C ns ds).setK k (c.setP ks e')
            | none => D.obj true C ns ds) v _
          rw [e2]
          show Rp K G H' (.obj true C ns (ds.set k (c.setP ks e'))) v _
          unfold Rp
          refine ⟨p, dx, ys, e1, en, ?_⟩
          simp only [if_true]
          exact ⟨f', rfl, g, (hk p List.mem_cons_self fun z => n'.1 (sk p (s' p z))).trans hh, rf⟩
        · rcases List.mem_cons.mp ha with z | z
          · subst z
            exact .inl ⟨List.mem_cons_self, fun y => n'.1 (sk _ (s' _ y))⟩
          · rcases sf a z with y | y
            · exact .inl ⟨List.mem_cons_of_mem _ y.1, fun w => y.2 (s' a w)⟩
            · rcases s3 a y with w | w
              · exact .inl ⟨List.mem_cons_of_mem _ (sk a w.1), w.2⟩
              · exact .inr w
    | _ => exact e4.elim
end
/-- the object at p is changed: a node of a slot's data; new: what comes in, qr: what goes out -/
theorem SR.mutate [Tb] {f : Fr} {G H : Hp} {σ : St} {E : Env} {fp : Nat → List Addr} (S : SR f G H σ E fp) {i : Nat} {d0 e : D} {v0 v' : V} {ks : List Nat} {new : List Addr} (hE : E[i]? = some (some d0)) (hσ : σ[i]? = some (some v0)) (ha : At f.K H d0 v0 ks v') (he : d0.atP ks = some e)
    (W : Ow f fp new) :
    ∃ q', Rp f.K G H e v' q' ∧ q'.Nodup ∧ (∀ a ∈ q', a ∈ fp i) ∧ ∀ (e' : D) (p : Addr) (o' : HO) (q'' qr : List Addr), ¬ Stb o' → p ∈ q' → Rp f.K G (upd H p o') e' v' q'' → q''.Nodup → (∀ a ∈ q'', a ∈ q' ∨ a ∈ new) → (∀ a ∈ qr, (a ∈ q' ∨ a ∈ new) ∧ a ∉ q'') → qr.Nodup →
      ∃ fp', SR f G (upd H p o') σ (E.set i (some (d0.setP ks e'))) fp' ∧ Ow f fp' qr := by
  obtain ⟨v1, e1, r⟩ := S.slot i d0 hE
  rw [hσ] at e1
  cases e1
  obtain ⟨q', r', s', n', reb⟩ := Rp.focus ks d0 v0 v' (fp i) e r (S.nd i) ha he
  refine ⟨q', r', n', s', fun e' p o' q'' qr ho hp re ne hs hqr nqr => ?_⟩
  have keepH : ∀ a, a ∉ q' → (upd H p o') a = H a := fun a h => upd_ne fun z => h (z ▸ hp)
  obtain ⟨q3, r3, n3, s3⟩ := reb (upd H p o') e' q'' (fun a _ h => keepH a h) re ne fun a h => (hs a h).imp id fun z => W.sep a z i
  obtain ⟨gp, op, hop, hown⟩ := S.at i p (s' p hp)
  have hi : i < E.length := (List.getElem?_eq_some_iff.mp hE).1
  -- what is in q3
  have s3' : ∀ a ∈ q3, a ∈ fp i ∨ a ∈ new := fun a h => by
    rcases s3 a h with z | z
    · exact .inl z.1
    · exact (hs a z).imp (s' a) id
  refine ⟨fun j => if j = i then q3 else fp j, ⟨S.g0, fun a o h => ?_, fun a h => ?_, fun a o h z => ?_, S.pin, S.slen, by rw [List.length_set]; exact S.len, fun j d h => ?_, fun j n => ?_, fun j => ?_, fun j k a h1 h2 => ?_, fun j a h => ?_, S.tabU hop hown.notT⟩, nqr, fun a h z => ?_, fun a h j hj => ?_⟩
  · have : a ≠ p := fun z => by rw [z, gp] at h; cases h
    rw [upd_ne this]; exact S.ex a o h
  · obtain ⟨h1, h2, h3⟩ := S.fr a h
    have : a ≠ p := fun z => S.out i p (s' p hp) (z ▸ h)
    rw [upd_ne this]; exact ⟨h1, h2, h3⟩
  · by_cases hap : a = p
    · subst hap; rw [upd_same] at h; cases h; exact absurd z ho
    · rw [upd_ne hap] at h; exact S.stb a o h z
  · by_cases hj : i = j
    · subst hj
      rw [List.getElem?_set_self hi] at h
      cases h
      rw [if_pos rfl]
      exact ⟨v0, hσ, r3⟩
    · rw [List.getElem?_set_ne hj] at h
      rw [if_neg (Ne.symm hj)]
      obtain ⟨v, e2, r2⟩ := S.slot j d h
      refine ⟨v, e2, Rp.mono (Same.refl _) d v _ r2 fun a ha => ⟨(S.at j a ha).1, keepH a fun z => hj (S.sep i j a (s' a z) ha)⟩⟩
  · by_cases hj : i = j
    · subst hj
      exact absurd (List.getElem?_set_self hi) (n _)
    · rw [if_neg (Ne.symm hj)]
      exact S.none_ j fun d' => by rw [← List.getElem?_set_ne hj]; exact n d'
  · show (if j = i then q3 else fp j).Nodup
    split
    · exact n3
    · exact S.nd j
  · have h1 : a ∈ (if j = i then q3 else fp j) := h1
    have h2 : a ∈ (if k = i then q3 else fp k) := h2
    by_cases hj : j = i
    · by_cases hk : k = i
      · rw [hj, hk]
      · rw [if_pos hj] at h1
        rw [if_neg hk] at h2
        rcases s3' a h1 with z | z
        · rw [hj]; exact S.sep i k a z h2
        · exact absurd h2 (W.sep a z k)
    · by_cases hk : k = i
      · rw [if_neg hj] at h1
        rw [if_pos hk] at h2
        rcases s3' a h2 with z | z
        · rw [hk]; exact S.sep j i a h1 z
        · exact absurd h1 (W.sep a z j)
      · rw [if_neg hj] at h1
        rw [if_neg hk] at h2
        exact S.sep j k a h1 h2
  · have h : a ∈ (if j = i then q3 else fp j) := h
    split at h
    · exact (s3' a h).elim (S.out i a) (W.out a)
    · exact S.out j a h
  · exact (hqr a h).1.elim (fun y => S.out i a (s' a y) z) fun y => W.out a y z
  · have hj : a ∈ (if j = i then q3 else fp j) := hj
    obtain ⟨h1, h2⟩ := hqr a h
    split at hj
    · rcases s3 a hj with z | z
      · rcases h1 with y | y
        · exact z.2 y
        · exact W.sep a y i z.1
      · exact h2 z
    · rename_i hne
      rcases h1 with y | y
      · exact hne (S.sep i j a (s' a y) hj).symm
      · exact W.sep a y j hj

/-! ### methods that change a list -/
/-- a method on an owned thing e with values ds: what e becomes, what comes back -/
abbrev Mu := D → List D → Option (D × D)
def RM (K : PySem.W.Frag) (rr : V → List V → Hp → VK → Prop) (m : Mu) : Prop := ∀ (G H : Hp) (x : V) (vs : List V) (e e' r : D) (ds : List D) (q qs : List Addr) (Q : VK), Same G H → Rp K G H e x q → RpL K G H ds vs qs → (q ++ qs).Nodup → m e ds = some (e', r) →
  (∀ p o' v q' qr, ¬ Stb o' → p ∈ q → (∀ a ∈ qs, a ≠ p) → Rp K G (upd H p o') e' x q' → q'.Nodup → (∀ a ∈ q', a ∈ q ∨ a ∈ qs) → Rp K G (upd H p o') r v qr → qr.Nodup → (∀ a ∈ qr, (a ∈ q ∨ a ∈ qs) ∧ a ∉ q') → Q v (upd H p o')) → rr x vs H Q
def D.isLst : D → Bool
  | .lst _ _ => true
  | _ => false
@[simp] def nodeFin (m : Mu) (i : Nat) (ks : List Nat) (d0 : D) (ds : List D) (E3 : Env) : Rs (Opd × Env × Bool) := match d0.atP ks with
  | some e => (match m e ds with
    | some (e', r) => .ok (.val r, E3.set i (some (d0.setP ks e')), true)
    | none => .stuck)
  | none => .stuck
@[simp] def mutFin (m : Mu) (o : Opd) (ds : List D) (E3 : Env) : Rs (Opd × Env × Bool) := match o with
  | .path i ks => (match E3[i]? with
    | some (some d0) => nodeFin m i ks d0 ds E3
    | _ => .stuck)
  | _ => .stuck
@[simp] def mutArgs (m : Mu) (o : Opd) (b : List Opd × Env × Bool) : Rs (Opd × Env × Bool) := match o.isBor && b.2.2 with
  | true => .stuck
  | false => match toVals b.1 b.2.1 with
    | some r => mutFin m o r.1 r.2.1
    | none => .stuck
@[simp] def rMut (m : Mu) (lv : EvR) (ra : AvR) : EvR := fun E =>
  (lv E).bind fun a => match a.1.res a.2.1 with
    | some (.lst _ _) => (ra a.2.1).bind fun b => mutArgs m a.1 b
    | _ => .stuck


theorem fzd_kids {d : D} (h : d.fzd = true) : d.kids = [] := by
  cases d with
  | lst m xs => cases m with
    | true => simp [D.fzd] at h
    | false => rfl
  | obj m C ns xs => cases m with
    | true => simp [D.fzd] at h
    | false => rfl
  | _ => rfl
theorem toVal_keep {o : Opd} {E E1 : Env} {d : D} {c : Bool} (e : toVal o E = some (d, E1, c)) (i : Nat) (d' : D) (h : E1[i]? = some (some d')) : E[i]? = some (some d') ∨ d'.fzd = true := by
  cases o with
  | val d0 => cases e; exact .inl h
  | path j ks =>
    cases ks with
    | cons k r => cases e
    | nil =>
      have e : (match E[j]? with
        | some (some d') => if d'.fzd = true then some (d', E, false) else some (d'.fz, E.set j (some d'.fz), true)
        | _ => none) = some (d, E1, c) := e
      cases eE : E[j]? with
      | none => rw [eE] at e; cases e
      | some oo =>
        cases oo with
        | none => rw [eE] at e; cases e
        | some d0 =>
          rw [eE] at e
          have e : (if d0.fzd = true then some (d0, E, false) else some (d0.fz, E.set j (some d0.fz), true)) = some (d, E1, c) := e
          split at e
          · cases e; exact .inl h
          · cases e
            by_cases hj : j = i
            · subst hj
              rw [List.getElem?_set_self (List.getElem?_eq_some_iff.mp eE).1] at h
              cases h
              exact .inr (D.fzd_fz d0)
            · rw [List.getElem?_set_ne hj] at h
              exact .inl h
theorem toVals_keep : ∀ (os : List Opd) {E E1 : Env} {ds : List D} {c : Bool}, toVals os E = some (ds, E1, c) → ∀ (i : Nat) (d' : D), E1[i]? = some (some d') → E[i]? = some (some d') ∨ d'.fzd = true
  | [], E, E1, ds, c, e, i, d', h => by cases e; exact .inl h
  | o :: os, E, E1, ds, c, e, i, d', h => by
    have e : (match toVal o E with
      | some (d, E1, c1) => (match toVals os E1 with
        | some (ds, E2, c2) => some (d :: ds, E2, c1 || c2)
        | none => none)
      | none => none) = some (ds, E1, c) := e
    cases eo : toVal o E with
    | none => rw [eo] at e; cases e
    | some p =>
      obtain ⟨d, E2, c1⟩ := p
      rw [eo] at e
      have e : (match toVals os E2 with
        | some (ds, E2, c2) => some (d :: ds, E2, c1 || c2)
        | none => none) = some (ds, E1, c) := e
      cases er : toVals os E2 with
      | none => rw [er] at e; cases e
      | some p2 =>
        obtain ⟨ds', E3, c2⟩ := p2
        rw [er] at e
        cases e
        rcases toVals_keep os er i d' h with z | z
        · exact toVal_keep eo i d' z
        · exact .inr z
/-- the place of a waiting operand, behind the arguments -/
theorem place_at {K : PySem.W.Frag} {G H : Hp} {σ : St} {E E3 : Env} {i : Nat} {ks : List Nat} {v : V} {q : List Addr} {d0 e : D} (O : OpF K G H σ E (.path i ks) v q) (hE : E3[i]? = some (some d0)) (he : d0.atP ks = some e) (keep : ∀ (i : Nat) (d' : D), E3[i]? = some (some d') → E[i]? = some (some d') ∨ d'.fzd = true) :
    ∃ v0, σ[i]? = some (some v0) ∧ At K H d0 v0 ks v := by
  obtain ⟨_, v0, e1, h⟩ := O
  refine ⟨v0, e1, ?_⟩
  cases ks with
  | nil => exact h
  | cons k r =>
    obtain ⟨d1, e2, h⟩ := h
    rcases keep i d0 hE with z | z
    · rw [e2] at z; cases z; exact h
    · have he : (match d0.kids[k]? with
        | some e => e.atP r
        | none => none) = some e := he
      rw [fzd_kids z] at he
      cases he
section
variable [Tb] {X : Cx} {W : WX} {K : PySem.W.Frag}
/-- the end of a method's call that changes a part -/
theorem mut_end {f : Fr} {G H G1 H1 G2 H2 : Hp} {σ : St} {E E1 E2 : Env} {fp fp1 fp2 : Nat → List Addr} {oa : Opd} {v1 : V} {q1 q2 : List Addr} {os : List Opd} {vs : List V} {c2 : Bool} {Q : VK} {rr : V → List V → Hp → VK → Prop} {m : Mu} (rm : RM f.K rr m)
    (S1 : SR f G1 H1 σ E1 fp1) (O1 : OpF f.K G1 H1 σ E1 oa v1 q1) (S2' : SR (f.push G1 H1 q1) G2 H2 σ E2 fp2) (O2 : OpsF f.K G2 H2 σ E2 os vs q2) (W2' : Ow (f.push G1 H1 q1) fp2 q2) (k2 : c2 = false → Quiet G1 H1 G2 H2 E1 E2 fp1 fp2)
    (P : PostE f W σ Q G H E fp (mutArgs m oa (os, E2, c2))) : rr v1 vs H2 Q := by
  have S2 := S1.pop S2'
  have W2 : Ow f fp2 q2 := W2'.unpush
  unfold mutArgs at P
  cases hb : oa.isBor && c2 with
  | true => rw [show (oa.isBor && (os, E2, c2).2.2) = true from hb] at P; exact P.elim
  | false =>
    rw [show (oa.isBor && (os, E2, c2).2.2) = false from hb] at P
    have O1' := O1.wait hb S2' k2
    have P : PostE f W σ Q G H E fp (match toVals os E2 with
      | some r => mutFin m oa r.1 r.2.1
      | none => .stuck) := P
    cases ev : toVals os E2 with
    | none => rw [ev] at P; exact P.elim
    | some pv =>
      obtain ⟨ds, E3, c3⟩ := pv
      rw [ev] at P
      obtain ⟨G3, fp3, S3, s3, k3, b3, r3, z3⟩ := toVals_ok (f := f) os S2 O2 W2 ev
      have W3 := W2.sub b3
      have P : PostE f W σ Q G H E fp (mutFin m oa ds E3) := P
      unfold mutFin at P
      cases oa with
      | val d => exact P.elim
      | path i ks =>
        have P : PostE f W σ Q G H E fp (match E3[i]? with
          | some (some d0) => nodeFin m i ks d0 ds E3
          | _ => .stuck) := P
        cases eE : E3[i]? with
        | none => rw [eE] at P; exact P.elim
        | some oo =>
          cases oo with
          | none => rw [eE] at P; exact P.elim
          | some d0 =>
            rw [eE] at P
            have P : PostE f W σ Q G H E fp (nodeFin m i ks d0 ds E3) := P
            unfold nodeFin at P
            cases ee : d0.atP ks with
            | none => rw [ee] at P; exact P.elim
            | some e =>
              rw [ee] at P
              have P : PostE f W σ Q G H E fp (match m e ds with
                | some (e', r) => .ok (.val r, E3.set i (some (d0.setP ks e')), true)
                | none => .stuck) := P
              cases em : m e ds with
              | none => rw [em] at P; exact P.elim
              | some pr =>
                obtain ⟨e', r⟩ := pr
                rw [em] at P
                obtain ⟨v0, eσ, ha⟩ := place_at O1' eE ee (toVals_keep os ev)
                obtain ⟨q', re, nq, sq, mutd⟩ := S3.mutate eE eσ ha ee W3
                refine rm G3 H2 v1 vs e e' r ds q' q2 Q S3.ex re r3 (List.nodup_append.mpr ⟨nq, W3.nd, fun a ha b hb z => W3.sep b hb i (z ▸ sq a ha)⟩) em fun p o' v q'' qr ho hp hpq rq nq' hs rr nr hr => ?_
                obtain ⟨fp', S4, W4⟩ := mutd e' p o' q'' qr ho hp rq nq' hs hr nr
                exact P v G3 (upd H2 p o') fp' qr S4 rr W4 fun hc => nomatch hc
theorem tMut_of {rr : V → List V → Hp → VK → Prop} {m : Mu} {lv : EvR} {ra : AvR} (rm : RM K rr m) (σ : St) (H : Hp) (Q : VK) (h : tE K W (rMut m lv ra) σ H Q) : tBM K "list" rr (tE K W lv) (tA K W ra) σ H Q := by
  obtain ⟨f, G, E, fp, ek, S, P⟩ := h
  refine ⟨f, G, E, fp, ek, S, ?_⟩
  unfold rMut at P
  cases ea : lv E with
  | stuck => rw [ea] at P; exact P
  | exc x E' => rw [ea] at P; exact P
  | ok a =>
    obtain ⟨oa, E1, c1⟩ := a
    rw [ea] at P
    intro v1 G1 H1 fp1 q1 S1 O1 W1 k1
    have P : PostE f W σ Q G H E fp (match oa.res E1 with
      | some (.lst _ _) => (ra E1).bind fun b => mutArgs m oa b
      | _ => .stuck) := P
    cases eres : oa.res E1 with
    | none => rw [eres] at P; exact P.elim
    | some d1 =>
      rw [eres] at P
      cases d1 with
      | lst m1 xs1 =>
        obtain ⟨qx, rx, _⟩ := O1.rep S1 eres
        obtain ⟨a1, ys1, _, e1, hr1, _⟩ := rx.lst_inv S1.ex
        refine ⟨by subst ek; subst e1; exact .inl ⟨rfl, ys1, hr1⟩, ?_⟩
        have S1' := S1.push O1.at W1
        refine ⟨f.push G1 H1 q1, G1, E1, fp1, ek, S1', ?_⟩
        have P : PostE f W σ Q G H E fp ((ra E1).bind fun b => mutArgs m oa b) := P
        cases eb : ra E1 with
        | stuck => rw [eb] at P; exact P
        | exc x E' => rw [eb] at P; exact PostX.pop S1 P
        | ok b =>
          obtain ⟨os, E2, c2⟩ := b
          rw [eb] at P
          intro vs G2 H2 fp2 q2 S2' O2 W2' k2
          subst ek
          exact mut_end rm S1 O1 S2' O2 W2' k2 P
      | _ => exact P.elim
/-- o.m() -/
def rMut0 (m : Mu) (lv : EvR) : EvR := fun E => (lv E).bind fun a => match a.1.res a.2.1 with
  | some (.lst _ _) => mutArgs m a.1 ([], a.2.1, false)
  | _ => .stuck
theorem tMut0_of {rr : V → List V → Hp → VK → Prop} {m : Mu} {lv : EvR} (rm : RM K rr m) (σ : St) (H : Hp) (Q : VK) (h : tE K W (rMut0 m lv) σ H Q) : tBM0 K "list" rr (tE K W lv) σ H Q := by
  obtain ⟨f, G, E, fp, ek, S, P⟩ := h
  refine ⟨f, G, E, fp, ek, S, ?_⟩
  unfold rMut0 at P
  cases ea : lv E with
  | stuck => rw [ea] at P; exact P
  | exc x E' => rw [ea] at P; exact P
  | ok a =>
    obtain ⟨oa, E1, c1⟩ := a
    rw [ea] at P
    intro v1 G1 H1 fp1 q1 S1 O1 W1 k1
    have P : PostE f W σ Q G H E fp (match oa.res E1 with
      | some (.lst _ _) => mutArgs m oa ([], E1, false)
      | _ => .stuck) := P
    cases eres : oa.res E1 with
    | none => rw [eres] at P; exact P.elim
    | some d1 =>
      rw [eres] at P
      cases d1 with
      | lst m1 xs1 =>
        obtain ⟨qx, rx, _⟩ := O1.rep S1 eres
        obtain ⟨a1, ys1, _, e1, hr1, _⟩ := rx.lst_inv S1.ex
        refine ⟨by subst ek; subst e1; exact .inl ⟨rfl, ys1, hr1⟩, ?_⟩
        subst ek
        exact mut_end rm S1 O1 (S1.push O1.at W1) (os := []) (vs := []) (q2 := []) ⟨rfl, rfl⟩ .nil (fun _ => .refl S1) P
      | _ => exact P.elim
theorem de_mut {o e : Expr} {es : List Expr} {name : Str} {apos cpos : Pos} {id : String} {rr : V → List V → Hp → VK → Prop} {m : Mu} {lv : EvR} {ra : AvR} (pa : PlainAttrs "list") (slot : Slot "list" name id) (hty : typeOf (.builtin id) = pure (.type "method_descriptor")) (hm : MtR X id rr) (rm : RM X.K rr m)
    (ho : DE X W o lv) (ha : DA X W (e :: es) ra) (hbase : attributeBase o name X.env (eval o X.env) = eval o X.env := by rfl)
    (hfew : ((backTo cpos (starEach (e :: es) X.env)).all (fun x => !x.1) && (backToKw cpos (keywordEach [] X.env)).all (fun x => x.1.isSome)
      && decide ((e :: es).length + ([] : List Keyword).length + (if ([] : List Keyword).isEmpty then 0 else 1) < 30)) = true := by rfl)
    (hline : (apos.endLine == cpos.line) = true := by rfl) (hs : starEach (e :: es) X.env = (false, eval e X.env) :: starEach es X.env := by rfl) (hplain : (backTo cpos (starEach es X.env)).any (·.1) = false := by rfl) :
    DE X W (.Call (.Attribute o name apos) (e :: es) [] cpos) (rMut m lv ra) := (pe_bm pa slot hty hm ho ha hbase hfew hline hs hplain).weak (tMut_of rm)
theorem de_mut0 {o : Expr} {name : Str} {apos cpos : Pos} {id : String} {rr : V → List V → Hp → VK → Prop} {m : Mu} {lv : EvR} (pa : PlainAttrs "list") (slot : Slot "list" name id) (hty : typeOf (.builtin id) = pure (.type "method_descriptor")) (hm : MtR X id rr) (rm : RM X.K rr m)
    (ho : DE X W o lv) (hbase : attributeBase o name X.env (eval o X.env) = eval o X.env := by rfl) (hline : (apos.endLine == cpos.line) = true := by rfl) : DE X W (.Call (.Attribute o name apos) [] [] cpos) (rMut0 m lv) := (pe_bm0 pa slot hty hm ho hbase hline).weak (tMut0_of rm)
end
/-! append, pop -/
@[simp] def muApp : Mu := fun e ds => match e, ds with
  | .lst true xs, [d] => if xs.length < sizeLine then some (.lst true (xs ++ [d]), .non) else none
  | _, _ => none
def muPop : Mu := fun e ds => match e, ds with
  | .lst true xs, [] => (match xs[xs.length - 1]? with
    | some d => some (.lst true xs.dropLast, d)
    | none => none)
  | _, _ => none
theorem Rp.lst_own {K : PySem.W.Frag} {G H : Hp} {xs : List D} {x : V} {q : List Addr} (r : Rp K G H (.lst true xs) x q) : ∃ p ys f, x = .ref p ∧ q = p :: f ∧ G p = none ∧ H p = some (.lst ys) ∧ RpL K G H xs ys f := by
  unfold Rp at r
  obtain ⟨a, ys, e, r⟩ := r
  simp only [if_true] at r
  obtain ⟨f, e2, g, hh, hl⟩ := r
  exact ⟨a, ys, f, e, e2, g, hh, hl⟩
theorem Rp.own_lst {K : PySem.W.Frag} {G H : Hp} {xs : List D} {p : Addr} {ys : List V} {f : List Addr} (g : G p = none) (hh : H p = some (.lst ys)) (hl : RpL K G H xs ys f) : Rp K G H (.lst true xs) (.ref p) (p :: f) := by
  unfold Rp
  refine ⟨p, ys, rfl, ?_⟩
  simp only [if_true]
  exact ⟨f, rfl, g, hh, hl⟩
theorem RpL.off {K : PySem.W.Frag} {G H : Hp} {xs : List D} {ys : List V} {f : List Addr} {p : Addr} {o : HO} (hl : RpL K G H xs ys f) (n : p ∉ f) : RpL K G (upd H p o) xs ys f :=
  RpL.mono (Same.refl _) xs ys f hl fun a ha => ⟨(RpL.at xs ys f hl a ha).1, upd_ne fun z => n (z ▸ ha)⟩
theorem Rp.off {K : PySem.W.Frag} {G H : Hp} {d : D} {v : V} {f : List Addr} {p : Addr} {o : HO} (hl : Rp K G H d v f) (n : p ∉ f) : Rp K G (upd H p o) d v f :=
  Rp.mono (Same.refl _) d v f hl fun a ha => ⟨(Rp.at d v f hl a ha).1, upd_ne fun z => n (z ▸ ha)⟩
theorem RpL.one {K : PySem.W.Frag} {G H : Hp} {d : D} {v : V} {f : List Addr} : RpL K G H [d] [v] f ↔ Rp K G H d v f := by
  constructor
  · intro h
    unfold RpL at h
    obtain ⟨x, r, f1, f2, e1, e2, h1, h2⟩ := h
    unfold RpL at h2
    cases e1
    rw [e2, h2.2, List.append_nil]
    exact h1
  · intro h
    unfold RpL
    exact ⟨v, [], f, [], rfl, by simp, h, by unfold RpL; exact ⟨rfl, rfl⟩⟩
theorem RpL.len1 {K : PySem.W.Frag} {G H : Hp} {d : D} {vs : List V} {f : List Addr} (h : RpL K G H [d] vs f) : ∃ v, vs = [v] ∧ Rp K G H d v f := by
  have := h.len'
  match vs, this with
  | [v], _ => exact ⟨v, rfl, RpL.one.mp h⟩
theorem RpL.len0 {K : PySem.W.Frag} {G H : Hp} {vs : List V} {f : List Addr} (h : RpL K G H [] vs f) : vs = [] ∧ f = [] := by
  unfold RpL at h; exact h
theorem RpL.dropLast {K : PySem.W.Frag} {G H : Hp} : ∀ (xs : List D) (ys : List V) (f : List Addr) (d : D), RpL K G H xs ys f → xs[xs.length - 1]? = some d →
    ∃ y f1 f2, ys[ys.length - 1]? = some y ∧ f = f1 ++ f2 ∧ RpL K G H xs.dropLast ys.dropLast f1 ∧ Rp K G H d y f2
  | [], _, _, _, _, e => by simp at e
  | [x], ys, f, d, r, e => by
    obtain ⟨v, rfl, rv⟩ := r.len1
    have : x = d := by simpa using e
    subst this
    refine ⟨v, [], f, rfl, rfl, ?_, rv⟩
    show RpL K G H [] [] []
    unfold RpL
    exact ⟨rfl, rfl⟩
  | x :: x2 :: xs, ys, f, d, r, e => by
    unfold RpL at r
    obtain ⟨v, r', f1, f2, e1, e2, h1, h2⟩ := r
    subst e1 e2
    obtain ⟨y, g1, g2, ey, eg, ra, rb⟩ := RpL.dropLast (x2 :: xs) r' f2 d h2 (by simpa using e)
    have hl := h2.len'
    match r', hl with
    | v2 :: r2, hl =>
      refine ⟨y, f1 ++ g1, g2, by simpa using ey, by rw [eg, List.append_assoc], ?_, rb⟩
      show RpL K G H (x :: (x2 :: xs).dropLast) (v :: (v2 :: r2).dropLast) _
      unfold RpL
      exact ⟨v, _, f1, g1, rfl, rfl, h1, ra⟩
theorem rm_app {K : PySem.W.Frag} : RM K rAppend muApp := by
  intro G H x vs e e' r ds q qs Q ex re rs nd em k
  unfold muApp at em
  split at em
  · rename_i xs d
    split at em
    · rename_i hl
      cases em
      obtain ⟨p, ys, f, e1, e2, g, hh, rl⟩ := re.lst_own
      obtain ⟨v, rfl, rv⟩ := rs.len1
      subst e2
      have n' := List.nodup_append.mp nd
      have np : p ∉ f := (List.nodup_cons.mp n'.1).1
      have nq : p ∉ qs := fun z => n'.2.2 p List.mem_cons_self p z rfl
      refine ⟨p, ys, v, e1, rfl, hh, by rw [rl.len']; exact hl, k p (.lst (ys ++ [v])) .non (p :: (f ++ qs)) [] (fun z => z) List.mem_cons_self (fun a ha z => nq (z ▸ ha)) ?_ ?_ ?_ .non List.nodup_nil fun _ h => nomatch h⟩
      · rw [e1]
        exact Rp.own_lst g upd_same (RpL.append xs (rl.off np) (RpL.one.mpr (rv.off nq)))
      · exact nd
      · intro a ha
        rcases List.mem_cons.mp ha with z | z
        · exact .inl (z ▸ List.mem_cons_self)
        · exact (List.mem_append.mp z).imp (List.mem_cons_of_mem _) id
    · cases em
  · cases em
theorem rm_pop {K : PySem.W.Frag} : RM K rPop muPop := by
  intro G H x vs e e' r ds q qs Q ex re rs nd em k
  unfold muPop at em
  split at em
  · rename_i xs
    cases el : xs[xs.length - 1]? with
    | none => rw [el] at em; cases em
    | some d =>
      rw [el] at em
      cases em
      obtain ⟨p, ys, f, e1, e2, g, hh, rl⟩ := re.lst_own
      obtain ⟨rfl, rfl⟩ := rs.len0
      subst e2
      rw [List.append_nil] at nd
      have np := (List.nodup_cons.mp nd)
      obtain ⟨y, f1, f2, ey, ef, ra, rb⟩ := RpL.dropLast xs ys f r rl el
      subst ef
      have n2 := List.nodup_append.mp np.2
      have np1 : p ∉ f1 := fun z => np.1 (List.mem_append_left _ z)
      have np2 : p ∉ f2 := fun z => np.1 (List.mem_append_right _ z)
      refine ⟨p, ys, y, e1, rfl, hh, ey, k p (.lst ys.dropLast) y (p :: f1) f2 (fun z => z) List.mem_cons_self (fun _ h => nomatch h) ?_ (List.nodup_cons.mpr ⟨np1, n2.1⟩) (fun a ha => ?_) (rb.off np2) n2.2.1 fun a ha => ⟨.inl (List.mem_cons_of_mem _ (List.mem_append_right _ ha)), fun z => ?_⟩⟩
      · rw [e1]
        exact Rp.own_lst g upd_same (ra.off np1)
      · rcases List.mem_cons.mp ha with z | z
        · exact .inl (z ▸ List.mem_cons_self)
        · exact .inl (List.mem_cons_of_mem _ (List.mem_append_left _ z))
      · rcases List.mem_cons.mp z with y | y
        · exact np2 (y ▸ ha)
        · exact n2.2.2 a y a ha rfl
  · cases em
end DV

namespace DV
open PySem L2

/-! ### what is walked -/
/-- an iterator gives the data ds, one after another, as long as G1 is there -/
structure ItOk (K : PySem.W.Frag) (J : It) (ds : List D) (G1 : Hp) : Prop where
  goes : ∀ (i : Nat) (G H : Hp), i < ds.length → Same G1 G → Same G H → J.go i H
  stops : ∀ (G H : Hp), Same G1 G → Same G H → J.stop ds.length H
  yields : ∀ (i : Nat) (G H : Hp) (x : V) (H' : Hp) (d : D), ds[i]? = some d → Same G1 G → Same G H → (∀ p o, H p = some o → Stb o → G p = some o) → J.yld i H x H' → ∃ G', Step G H G' H' ∧ Rp K G' H' d x []
abbrev IvR := Env → Rs (List D × Env)
def PostI [Tb] (f : Fr) (W : WX) (σ : St) (R : It → Hp → Prop) : Rs (List D × Env) → Prop
  | .ok (ds, E') => ∀ J G' H' fp', SR f G' H' σ E' fp' → ItOk f.K J ds G' → R J H'
  | .exc x E' => PostX f W σ x E'
  | .stuck => False
def tI [Tb] (K : PySem.W.Frag) (W : WX) (r : IvR) : TI := fun σ H R => ∃ f G E fp, f.K = K ∧ SR f G H σ E fp ∧ PostI f W σ R (r E)
abbrev DI [Tb] (X : Cx) (W : WX) (tg e : Expr) (r : IvR) : Prop := PI X tg e (tI X.K W r)
theorem _root_.L2.PI.weak {X : Cx} {tg e : Expr} {t t' : TI} (h : PI X tg e t) (k : ∀ σ H R, t' σ H R → t σ H R) : PI X tg e t' := ⟨fun pins s σ H R I w => h.run pins s σ H R I (k σ H R w)⟩
/-- a list or a tuple -/
def iSeq (K : PySem.W.Frag) (tl : TE) : TI := fun σ H R => tl σ H fun x H1 => ∃ a, x = .ref a ∧ (((∃ xs, SqL K H1 a xs) ∧ R (Itl K a) H1) ∨ ((∃ xs, SqT K H1 a xs) ∧ R (Itt K a) H1))
theorem pi_seq {X : Cx} {tg l : Expr} {tl : TE} (hl : PE X l tl) : PI X tg l (iSeq X.K tl) := by
  refine ⟨fun pins s σ H R I h => ?_⟩
  refine thn (hl.run pins s σ H _ I h) fun v s1 ⟨x, H1, I1, r1, q1⟩ => ?_
  obtain ⟨a, e, q⟩ := q1
  subst e
  cases r1
  rcases q with ⟨⟨xs, hq⟩, q⟩ | ⟨⟨xs, hq⟩, q⟩
  · obtain ⟨its, rv, p, hz⟩ := I1.list hq
    refine wpAny_pyIter_list p.isList ?_
    refine ⟨s1.heap.objs.size, [s1.heap.objs.size], _, _, H1, rfl, I1.kept (t' := s1.toks) fun b o e => Heap.get?_push_of_some _ e, turn_list a _, ⟨_, Heap.get?_push_size _ rfl, rfl, rfl⟩, fun b hb => ?_, q⟩
    have e : b = s1.heap.objs.size := by simpa using hb
    subst e
    exact I1.fpOk (Nat.le_refl _) (I1.hok.fresh (Nat.le_refl _))
  · obtain ⟨its, rv, p, hz⟩ := I1.tuple hq
    refine wpAny_pyIter_tuple (show s1.heap.IsTuple a its.toArray from p) ?_
    refine ⟨s1.heap.objs.size, [s1.heap.objs.size], _, _, H1, rfl, I1.kept (t' := s1.toks) fun b o e => Heap.get?_push_of_some _ e, turn_tuple a _, ⟨_, Heap.get?_push_size _ rfl, rfl, rfl⟩, fun b hb => ?_, q⟩
    have e : b = s1.heap.objs.size := by simpa using hb
    subst e
    exact I1.fpOk (Nat.le_refl _) (I1.hok.fresh (Nat.le_refl _))
/-- the items, frozen -/
@[simp] def rSeq (r : EvR) : IvR := fun E => (r E).bind fun a => match toVal a.1 a.2.1 with
  | some (.lst _ xs, E2, _) => .ok (fzL xs, E2)
  | some (.tup xs, E2, _) => if fzdL xs = true then .ok (xs, E2) else .stuck
  | _ => .stuck
theorem itOk_list {K : PySem.W.Frag} {G1 H1 : Hp} {a : Addr} {xs : List V} {ds : List D} (hr : SqL K G1 a xs) (hl : RpL K G1 H1 ds xs []) : ItOk K (Itl K a) ds G1 where
  goes := fun i G H hi s1 s2 => ⟨xs, xs[i]'(by rw [hl.len']; exact hi), (sql_same (s1.trans s2) hr), by simp⟩
  stops := fun G H s1 s2 => ⟨xs, (sql_same (s1.trans s2) hr), by rw [hl.len']; exact Nat.le_refl _⟩
  yields := fun i G H x H' d hd s1 s2 stb y => by
    obtain ⟨rfl, y⟩ := y
    obtain ⟨v, q, ev, r, sub, _⟩ := RpL.get ds xs [] i d hl hd
    have := y xs ((sql_same (s1.trans s2) hr))
    rw [ev] at this
    have e9 : v = x := Option.some.inj this
    refine ⟨G, .refl s2 stb, ?_⟩
    have hq : q = [] := List.eq_nil_iff_forall_not_mem.mpr fun a ha => nomatch sub a ha
    subst hq
    rw [← e9]
    exact Rp.mono s1 d v [] r fun p hp => nomatch hp
theorem itOk_tup {K : PySem.W.Frag} {G1 H1 : Hp} {a : Addr} {xs : List V} {ds : List D} (hr : SqT K G1 a xs) (hl : RpL K G1 H1 ds xs []) : ItOk K (Itt K a) ds G1 where
  goes := fun i G H hi s1 s2 => ⟨xs, xs[i]'(by rw [hl.len']; exact hi), sqt_same (s1.trans s2) hr, by simp⟩
  stops := fun G H s1 s2 => ⟨xs, sqt_same (s1.trans s2) hr, by rw [hl.len']; exact Nat.le_refl _⟩
  yields := fun i G H x H' d hd s1 s2 stb y => by
    obtain ⟨rfl, y⟩ := y
    obtain ⟨v, q, ev, r, sub, _⟩ := RpL.get ds xs [] i d hl hd
    have := y xs (sqt_same (s1.trans s2) hr)
    rw [ev] at this
    have e9 : v = x := Option.some.inj this
    refine ⟨G, .refl s2 stb, ?_⟩
    have hq : q = [] := List.eq_nil_iff_forall_not_mem.mpr fun a ha => nomatch sub a ha
    subst hq
    rw [← e9]
    exact Rp.mono s1 d v [] r fun p hp => nomatch hp
/-- a value of one's own is frozen -/
theorem SR.freezeV [Tb] {f : Fr} {G H : Hp} {σ : St} {E : Env} {fp : Nat → List Addr} (S : SR f G H σ E fp) {d : D} {v : V} {q : List Addr} (r : Rp f.K G H d v q) (w : Ow f fp q) : SR f (frz G H (· ∈ q)) H σ E fp ∧ Rp f.K (frz G H (· ∈ q)) H d.fz v [] := by
  have keep : ∀ p, p ∉ q → frz G H (· ∈ q) p = G p := fun p hp => frz_out hp
  refine ⟨⟨S.g0.trans (frz_same S.ex _), frz_same2 S.ex _, fun a ha => ?_, fun a o ho hs => ?_, S.pin, S.slen, S.len, fun j d' e' => ?_, S.none_, S.nd, S.sep, S.out, S.tabF fun a h => (Rp.at d v q r a h).2⟩, Rp.frz S.ex _ d v _ r fun p hp => hp⟩
  · obtain ⟨h1, h2, h3⟩ := S.fr a ha
    refine ⟨h1, ?_, h3⟩
    rw [keep a fun z => w.out a z ha]
    exact h2
  · by_cases z : a ∈ q
    · rw [frz_in z]; exact ho
    · rw [keep a z]; exact S.stb a o ho hs
  · obtain ⟨v', e2, r'⟩ := S.slot j d' e'
    refine ⟨v', e2, Rp.mono (frz_same S.ex _) d' v' _ r' fun p hp => ⟨?_, rfl⟩⟩
    rw [keep p fun z => w.sep p z j hp]
    exact (S.at j p hp).1
section
variable [Tb] {X : Cx} {W : WX} {K : PySem.W.Frag} {pn : Nat → Prop}
theorem tSeqI_of {r : EvR} (σ : St) (H : Hp) (R : It → Hp → Prop) (h : tI K W (rSeq r) σ H R) : iSeq K (tE K W r) σ H R := by
  obtain ⟨f, G, E, fp, ek, S, P⟩ := h
  refine ⟨f, G, E, fp, ek, S, ?_⟩
  unfold rSeq at P
  cases ea : r E with
  | stuck => rw [ea] at P; exact P
  | exc x E' => rw [ea] at P; exact P
  | ok a =>
    obtain ⟨o, E1, c1⟩ := a
    rw [ea] at P
    intro v G1 H1 fp1 q S1 O1 W1 k1
    have P : PostI f W σ R (match toVal o E1 with
      | some (.lst _ xs, E2, _) => .ok (fzL xs, E2)
      | some (.tup xs, E2, _) => if fzdL xs = true then .ok (xs, E2) else .stuck
      | _ => .stuck) := P
    cases et : toVal o E1 with
    | none => rw [et] at P; exact P.elim
    | some p =>
      obtain ⟨d, E2, c⟩ := p
      rw [et] at P
      obtain ⟨G2, fp2, S2, s2, k2, b2, r2, z2⟩ := toVal_ok S1 O1 W1 et
      subst ek
      cases d with
      | lst m xs =>
        obtain ⟨S3, r3⟩ := S2.freezeV r2 (W1.sub b2)
        unfold D.fz Rp at r3
        obtain ⟨a, vs, e1, r3⟩ := r3
        simp only [Bool.false_eq_true, if_false] at r3
        exact ⟨a, e1, .inl ⟨⟨vs, (sql_same S3.ex r3.2.1)⟩, P _ _ H1 fp2 S3 (itOk_list r3.2.1 r3.2.2)⟩⟩
      | tup xs =>
        have P : PostI f W σ R (if fzdL xs = true then .ok (xs, E2) else .stuck) := P
        split at P
        · rename_i hz
          obtain ⟨a, vs, e1, hs, hsg, hl⟩ := r2.tup_inv S2.ex
          exact ⟨a, e1, .inr ⟨⟨vs, hs⟩, P _ _ H1 fp2 S2 (itOk_tup hsg (hl.fz0 hz))⟩⟩
        · exact P.elim
      | _ => exact P.elim
theorem di_seq {tg l : Expr} {r : EvR} (h : DE X W l r) : DI X W tg l (rSeq r) := (pi_seq h).weak tSeqI_of
/-! range -/
def rangeD (lo : Int) (n : Nat) : List D := (List.range n).map fun i => .int (lo + (i : Nat))
def InR (j : Int) : Prop := -(2 ^ 62) ≤ j ∧ j < 2 ^ 62
open Classical in
noncomputable def rRange1 (ra : AvR) : IvR := fun E => (ra E).bind fun a => match resL a.1 a.2.1 with
  | some [.int j] => if InR j then .ok (rangeD 0 j.toNat, a.2.1) else .stuck
  | _ => .stuck
open Classical in
noncomputable def rRange2 (ra : AvR) : IvR := fun E => (ra E).bind fun a => match resL a.1 a.2.1 with
  | some [.int i, .int j] => if InR i ∧ InR j then .ok (rangeD i (j - i).toNat, a.2.1) else .stuck
  | _ => .stuck
theorem itOk_range {lo : Int} {n : Nat} {G1 : Hp} : ItOk K (Itr lo n) (rangeD lo n) G1 where
  goes := fun i G H hi _ _ => by
    have : i < n := by simpa [rangeD] using hi
    exact this
  stops := fun G H _ _ => by
    show n ≤ (rangeD lo n).length
    simp [rangeD]
  yields := fun i G H x H' d hd s1 s2 stb y => by
    obtain ⟨rfl, rfl⟩ := y
    refine ⟨G, .refl s2 stb, ?_⟩
    have hd' : ((List.range n)[i]?).map (fun i : Nat => D.int (lo + (i : Nat))) = some d := by rw [← List.getElem?_map]; exact hd
    cases hr : (List.range n)[i]? with
    | none => rw [hr] at hd'; cases hd'
    | some j =>
      rw [hr] at hd'
      obtain ⟨h1, h2⟩ := List.getElem?_eq_some_iff.mp hr
      rw [List.getElem_range] at h2
      subst h2
      cases hd'
      exact .int _
open Classical in
theorem tRange1_of {ra : AvR} (σ : St) (H : Hp) (R : It → Hp → Prop) (h : tI K W (rRange1 ra) σ H R) : iRng1 (tA K W ra) σ H R := by
  obtain ⟨f, G, E, fp, ek, S, P⟩ := h
  refine ⟨f, G, E, fp, ek, S, ?_⟩
  unfold rRange1 at P
  cases ea : ra E with
  | stuck => rw [ea] at P; exact P
  | exc x E' => rw [ea] at P; exact P
  | ok a =>
    obtain ⟨os, E1, c1⟩ := a
    rw [ea] at P
    intro vs G1 H1 fp1 q S1 O1 W1 k1
    have P : PostI f W σ R (match resL os E1 with
      | some [.int j] => if InR j then .ok (rangeD 0 j.toNat, E1) else .stuck
      | _ => .stuck) := P
    cases er : resL os E1 with
    | none => rw [er] at P; exact P.elim
    | some ds =>
      rw [er] at P
      have Ra := OpsF.reps S1 os vs q ds O1 er
      match ds, P, Ra with
      | [.int j], P, Ra =>
        obtain ⟨v, r, e1, ⟨q', rv⟩, rn⟩ := Ra
        have rn : r = [] := rn
        have P : PostI f W σ R (if InR j then .ok (rangeD 0 j.toNat, E1) else .stuck) := P
        split at P
        · rename_i hj
          exact ⟨j, by rw [e1, rn, rv.int_inv], hj.1, hj.2, P _ G1 H1 fp1 S1 itOk_range⟩
        · exact P.elim
open Classical in
theorem tRange2_of {ra : AvR} (σ : St) (H : Hp) (R : It → Hp → Prop) (h : tI K W (rRange2 ra) σ H R) : iRng2 (tA K W ra) σ H R := by
  obtain ⟨f, G, E, fp, ek, S, P⟩ := h
  refine ⟨f, G, E, fp, ek, S, ?_⟩
  unfold rRange2 at P
  cases ea : ra E with
  | stuck => rw [ea] at P; exact P
  | exc x E' => rw [ea] at P; exact P
  | ok a =>
    obtain ⟨os, E1, c1⟩ := a
    rw [ea] at P
    intro vs G1 H1 fp1 q S1 O1 W1 k1
    have P : PostI f W σ R (match resL os E1 with
      | some [.int i, .int j] => if InR i ∧ InR j then .ok (rangeD i (j - i).toNat, E1) else .stuck
      | _ => .stuck) := P
    cases er : resL os E1 with
    | none => rw [er] at P; exact P.elim
    | some ds =>
      rw [er] at P
      have Ra := OpsF.reps S1 os vs q ds O1 er
      match ds, P, Ra with
      | [.int i, .int j], P, Ra =>
        obtain ⟨v, r, e1, ⟨q', rv⟩, v2, r2, e2, ⟨q2, rv2⟩, rn⟩ := Ra
        have rn : r2 = [] := rn
        have P : PostI f W σ R (if InR i ∧ InR j then .ok (rangeD i (j - i).toNat, E1) else .stuck) := P
        split at P
        · rename_i hj
          exact ⟨i, j, by rw [e1, e2, rn, rv.int_inv, rv2.int_inv], ⟨hj.1.1, hj.1.2, hj.2.1, hj.2.2⟩, P _ G1 H1 fp1 S1 itOk_range⟩
        · exact P.elim
theorem di_range1 {tg a : Expr} {ra : AvR} {p pos : Pos} (hg : Gl X "range") (hm : X.mg "range" = none) (ha : DA X W [a] ra) (hs : starEach [a] X.env = [(false, eval a X.env)] := by rfl) : DI X W tg (.Call (.Name "range" p) [a] [] pos) (rRange1 ra) := (pi_range1 hg hm ha hs).weak tRange1_of
theorem di_range2 {tg a b : Expr} {ra : AvR} {p pos : Pos} (hg : Gl X "range") (hm : X.mg "range" = none) (ha : DA X W [a, b] ra) (hs : starEach [a, b] X.env = [(false, eval a X.env), (false, eval b X.env)] := by rfl) (hs2 : starEach [b] X.env = [(false, eval b X.env)] := by rfl) : DI X W tg (.Call (.Name "range" p) [a, b] [] pos) (rRange2 ra) := (pi_range2 hg hm ha hs hs2).weak tRange2_of
/-! ### for -/
def sLoop (g : GvR) (body : SvR) : List D → Env → Rs (Fl × Env)
  | [], E => .ok (.nx, E)
  | d :: ds, E => match g d E with
    | none => .stuck
    | some E1 => (body E1).bind fun r => match r.1 with
      | .nx => sLoop g body ds r.2
      | .ct => sLoop g body ds r.2
      | .bk => .ok (.nx, r.2)
      | .rt d => .ok (.rt d, r.2)
@[simp] def sFor (ri : IvR) (g : GvR) (body : SvR) : SvR := fun E => (ri E).bind fun a => sLoop g body a.1 a.2
theorem PostS.pop {f : Fr} {G H : Hp} {σ : St} {E : Env} {fp : Nat → List Addr} {q : List Addr} {Dn : Ends} {r : Rs (Fl × Env)} (S : SR f G H σ E fp) (P : PostS f W Dn r) : PostS (f.push G H q) W Dn r := by
  cases r with
  | stuck => exact P
  | exc x E' => exact fun σ G' H' fp' dx S' r => P σ G' H' fp' dx (S.pop S') r
  | ok a =>
    obtain ⟨fl, E'⟩ := a
    cases fl with
    | nx => exact fun σ' G' H' fp' S' => P σ' G' H' fp' (S.pop S')
    | bk => exact fun σ' G' H' fp' S' => P σ' G' H' fp' (S.pop S')
    | ct => exact fun σ' G' H' fp' S' => P σ' G' H' fp' (S.pop S')
    | rt d => exact fun v σ' G' H' fp' q' S' r w => P v σ' G' H' fp' q' (S.pop S') r w.unpush
theorem tFor_of {ri : IvR} {g : GvR} {body : SvR} (Dn : Ends) (σ : St) (H : Hp) (h : tS K pn W (sFor ri g body) Dn σ H) : tFor (tI K W ri) (tG K pn g) (tS K pn W body) Dn σ H := by
  obtain ⟨f, G, E, fp, ek, ep, S, P⟩ := h
  refine ⟨f, G, E, fp, ek, S, ?_⟩
  unfold sFor at P
  cases ea : ri E with
  | stuck => rw [ea] at P; exact P
  | exc x E' => rw [ea] at P; exact P.at σ
  | ok a =>
    obtain ⟨ds, E1⟩ := a
    rw [ea] at P
    intro J G1 H1 fp1 S1 IT
    have P : PostS f W Dn (sLoop g body ds E1) := P
    have S1' := S1.push (q := []) (fun _ h => nomatch h) .nil
    refine ⟨fun i m σ H => m = ds.length - i ∧ i ≤ ds.length ∧ ∃ G E fp, SR (f.push G1 H1 []) G H σ E fp ∧ PostS (f.push G1 H1 []) W Dn (sLoop g body (ds.drop i) E), ⟨ds.length, by simp, Nat.zero_le _, G1, E1, fp1, S1', PostS.pop S1 P⟩, ?_⟩
    rintro i m σ2 H2 ⟨rfl, hi, G2, E2, fp2, S2, P2⟩
    by_cases hlt : i < ds.length
    · refine .inr ⟨IT.goes i G2 H2 hlt S2.g0 S2.ex, fun σ' H' => ∃ G E fp, SR (f.push G1 H1 []) G H' σ' E fp ∧ PostS (f.push G1 H1 []) W Dn (sLoop g body (ds.drop (i + 1)) E), fun σ' H' ⟨G, E, fp, S', P'⟩ => ⟨ds.length - (i + 1), by omega, rfl, hlt, G, E, fp, S', P'⟩, fun x H' y => ?_⟩
      have hd : ds[i]? = some ds[i] := List.getElem?_eq_getElem hlt
      obtain ⟨G3, st, r3⟩ := IT.yields i G2 H2 x H' ds[i] hd S2.g0 S2.ex S2.stb y
      have S3 := S2.step st
      refine ⟨f.push G1 H1 [], G3, E2, fp2, ds[i], [], ek, ep, S3, by rw [← ek]; exact r3, .nil, ?_⟩
      rw [List.drop_eq_getElem_cons hlt] at P2
      have P2 : PostS (f.push G1 H1 []) W Dn (match g ds[i] E2 with
        | none => .stuck
        | some E1 => (body E1).bind fun r => match r.1 with
          | .nx => sLoop g body (ds.drop (i + 1)) r.2
          | .ct => sLoop g body (ds.drop (i + 1)) r.2
          | .bk => .ok (.nx, r.2)
          | .rt d => .ok (.rt d, r.2)) := P2
      cases eg : g ds[i] E2 with
      | none => rw [eg] at P2; exact P2.elim
      | some E3 =>
        rw [eg] at P2
        intro σ4 G4 H4 fp4 S4
        refine ⟨f.push G1 H1 [], G4, E3, fp4, ek, ep, S4, ?_⟩
        have P2 : PostS (f.push G1 H1 []) W Dn ((body E3).bind fun r => match r.1 with
          | .nx => sLoop g body (ds.drop (i + 1)) r.2
          | .ct => sLoop g body (ds.drop (i + 1)) r.2
          | .bk => .ok (.nx, r.2)
          | .rt d => .ok (.rt d, r.2)) := P2
        cases eb : body E3 with
        | stuck => rw [eb] at P2; exact P2
        | exc x E' => rw [eb] at P2; exact P2
        | ok b =>
          obtain ⟨fl, E4⟩ := b
          rw [eb] at P2
          cases fl with
          | nx => exact fun σ5 G5 H5 fp5 S5 => ⟨G5, E4, fp5, S5, P2⟩
          | ct => exact fun σ5 G5 H5 fp5 S5 => ⟨G5, E4, fp5, S5, P2⟩
          | bk => exact fun σ5 G5 H5 fp5 S5 => P2 σ5 G5 H5 fp5 S5
          | rt d => exact P2
    · have e : i = ds.length := by omega
      subst e
      refine .inl ⟨IT.stops G2 H2 S2.g0 S2.ex, ?_⟩
      rw [List.drop_length] at P2
      exact P2 σ2 G2 H2 fp2 S2
theorem ds_for {tg iter : Expr} {body : List Stmt} {ri : IvR} {g : GvR} {rb : SvR} {pos : Pos} (hp : PassesOwn (model X.prog X.w) X.A X.env X.xe) (hc : X.calm = true) (hi : DI X W tg iter ri) (hg : DG X pn tg g) (hb : DSs X pn W body rb)
    (hs : ∀ x, foldedSetIterable iter X.env x = pure x := by intro _; rfl) : DS X pn W (.For tg iter body [] pos) (sFor ri g rb) := (ps_for hp hc hi hg hb hs).weak tFor_of
/-! ### while -/
def sWhile (t : TvR) (body : SvR) : Nat → SvR
  | 0 => fun _ => .stuck
  | n + 1 => fun E => (t E).bind fun b => if b.1 = true then (body b.2.1).bind fun r => (match r.1 with
      | .nx => sWhile t body n r.2
      | .ct => sWhile t body n r.2
      | .bk => .ok (.nx, r.2)
      | .rt d => .ok (.rt d, r.2)) else .ok (.nx, b.2.1)
theorem tWhile_of {t : TvR} {body : SvR} (n : Nat) (Dn : Ends) (σ : St) (H : Hp) (h : tS K pn W (sWhile t body n) Dn σ H) : tWhile (tT K W t) (tS K pn W body) Dn σ H := by
  obtain ⟨f, G, E, fp, ek, ep, S, P⟩ := h
  refine ⟨fun m σ H => ∃ G E fp, SR f G H σ E fp ∧ PostS f W Dn (sWhile t body m E), ⟨n, G, E, fp, S, P⟩, ?_⟩
  rintro m σ1 H1 ⟨G1, E1, fp1, S1, P1⟩
  cases m with
  | zero => exact P1.elim
  | succ m =>
    refine ⟨f, G1, E1, fp1, ek, S1, ?_⟩
    have P1 : PostS f W Dn ((t E1).bind fun b => if b.1 = true then (body b.2.1).bind fun r => (match r.1 with
      | .nx => sWhile t body m r.2
      | .ct => sWhile t body m r.2
      | .bk => .ok (.nx, r.2)
      | .rt d => .ok (.rt d, r.2)) else .ok (.nx, b.2.1)) := P1
    cases et : t E1 with
    | stuck => rw [et] at P1; exact P1
    | exc x E' => rw [et] at P1; exact P1.at σ1
    | ok b =>
      obtain ⟨b, E2, c⟩ := b
      rw [et] at P1
      intro G2 H2 fp2 S2 k2
      cases b with
      | false => exact P1 σ1 G2 H2 fp2 S2
      | true =>
        refine ⟨fun σ' H' => ∃ G E fp, SR f G H' σ' E fp ∧ PostS f W Dn (sWhile t body m E), fun σ' H' h => ⟨m, Nat.lt_succ_self m, h⟩, f, G2, E2, fp2, ek, ep, S2, ?_⟩
        have P1 : PostS f W Dn ((body E2).bind fun r => (match r.1 with
          | .nx => sWhile t body m r.2
          | .ct => sWhile t body m r.2
          | .bk => .ok (.nx, r.2)
          | .rt d => .ok (.rt d, r.2))) := P1
        cases eb : body E2 with
        | stuck => rw [eb] at P1; exact P1
        | exc x E' => rw [eb] at P1; exact P1
        | ok r =>
          obtain ⟨fl, E3⟩ := r
          rw [eb] at P1
          cases fl with
          | nx => exact fun σ5 G5 H5 fp5 S5 => ⟨G5, E3, fp5, S5, P1⟩
          | ct => exact fun σ5 G5 H5 fp5 S5 => ⟨G5, E3, fp5, S5, P1⟩
          | bk => exact fun σ5 G5 H5 fp5 S5 => P1 σ5 G5 H5 fp5 S5
          | rt d => exact P1
theorem ds_while {c : Expr} {body : List Stmt} {t : TvR} {rb : SvR} {pos : Pos} (n : Nat) (hp : PassesOwn (model X.prog X.w) X.A X.env X.xe) (hc : DT X W c t) (hb : DSs X pn W body rb) : DS X pn W (.While c body [] pos) (sWhile t rb n) :=
  (ps_while hp hc hb).weak (tWhile_of n)
end
end DV

namespace DV
open PySem L2

/-! ### what a def is worth -/
/-- mu: the parameter that is changed for the caller, if one is; run: the value, what that parameter is behind the call (an exception's list bears it) -/
structure FS where
  n : Nat
  mu : Option Nat
  run : List D → Rs (D × Option D)
def outE (mu : Option Nat) (n : Nat) (mo : Option D) : Env := match mu with
  | none => List.replicate n none
  | some j => (List.replicate n none).set j mo
def excM (E : Env) : Option D := match E with
  | [o] => o
  | _ => none
def PostF [Tb] (f : Fr) (mu : Option Nat) (n : Nat) (σ : St) (Q : VK) (EX : XK) : Rs (D × Option D) → Prop
  | .ok (d, mo) => ∀ v G' H' fp' q, SR f G' H' σ (outE mu n mo) fp' → Rp f.K G' H' d v q → Ow f fp' q → Q v H'
  | .exc x E => ∀ G' H' fp' dx, SR f G' H' σ (outE mu n (excM E)) fp' → XRep f.K G' H' x dx → EX (.ref (He.ga f.K x.cls)) (some dx) H'
  | .stuck => False
/-- the promise -/
def spD [Tb] (K : PySem.W.Frag) (s : FS) : Sp := fun vs H Q EX => vs.length = s.n ∧ ∃ f G ds fp, f.K = K ∧ f.pn = (fun i => s.mu = some i) ∧ f.σ0 = vs.map some ∧ ds.length = s.n ∧ SR f G H (vs.map some) (ds.map some) fp ∧
  (∀ (i : Nat) (d : D), s.mu ≠ some i → ds[i]? = some d → d.fzd = true) ∧ PostF f s.mu s.n (vs.map some) Q EX (s.run ds)
/-- a stronger one -/
def FS.le (s t : FS) : Prop := s.n = t.n ∧ s.mu = t.mu ∧ ∀ ds, s.run ds ≠ .stuck → t.run ds = s.run ds
theorem spD.mono [Tb] {K : PySem.W.Frag} {s t : FS} (h : s.le t) (vs : List V) (H : Hp) (Q : VK) (E : XK) (p : spD K s vs H Q E) : spD K t vs H Q E := by
  obtain ⟨h0, f, G, ds, fp, h1, h2, h3, h4, h5, h6, h7⟩ := p
  obtain ⟨e0, e1, e2⟩ := h
  have e3 : t.run ds = s.run ds := e2 ds fun z => by rw [z] at h7; exact h7
  exact ⟨by rw [← e0]; exact h0, f, G, ds, fp, h1, by rw [← e1]; exact h2, h3, by rw [← e0]; exact h4, h5, by rw [← e1]; exact h6, by rw [← e0, ← e1, e3]; exact h7⟩
/-! ### a call -/
/-- the arguments' data: what is changed as it is, all else frozen -/
@[simp] def argsD (mu : Option Nat) : Nat → List Opd → Env → Option (List D)
  | _, [], _ => some []
  | j, o :: os, E => match o.res E with
    | none => none
    | some d => (match argsD mu (j + 1) os E with
      | none => none
      | some ds => some ((if mu = some j then d else d.fz) :: ds))
/-- all that is not changed is frozen already -/
@[simp] def argsFz (mu : Option Nat) : Nat → List Opd → Env → Bool
  | _, [], _ => true
  | j, o :: os, E => (if mu = some j then true else match o.res E with
    | some d => d.fzd
    | none => false) && argsFz mu (j + 1) os E
/-- what is not changed has nothing of the slot that is -/
@[simp] def apart1 (i : Nat) (o : Opd) (E : Env) : Bool := match o with
  | .val _ => true
  | .path i' ks => (match (Opd.path i' ks).res E with
    | some d => d.fzd || (i' != i)
    | none => false)
@[simp] def apart (mu : Option Nat) (i : Nat) : Nat → List Opd → Env → Bool
  | _, [], _ => true
  | j, o :: os, E => (if mu = some j then true else apart1 i o E) && apart mu i (j + 1) os E
@[simp] def okOut (fz : Bool) (d : D) (mo : Option D) : Bool := fz || (d.nofz && match mo with
  | some m => m.nofz
  | none => true)
@[simp] def okExc (fz : Bool) (x : Xc) (mo : Option D) : Bool := fz || (nofzL x.xs && match mo with
  | some m => m.nofz
  | none => true)
@[simp] def putOut (i : Option Nat) (E : Env) (mo : Option D) : Env := match i with
  | none => E
  | some k => E.set k mo
/-- the end of a call -/
@[simp] def callEnd (fz : Bool) (sl : Option Nat) (E : Env) (c : Bool) : Rs (D × Option D) → Rs (Opd × Env × Bool)
  | .ok (d, mo) => if okOut fz d mo = true then .ok (.val d, putOut sl E mo, c || sl.isSome) else .stuck
  | .exc x M => if okExc fz x (excM M) = true then .exc x (putOut sl E (excM M)) else .stuck
  | .stuck => .stuck
@[simp] def callFin (s : FS) (os : List Opd) (E : Env) (c : Bool) : Rs (Opd × Env × Bool) := if os.length = s.n then (match argsD s.mu 0 os E with
  | none => .stuck
  | some ds => (match s.mu with
    | none => callEnd (argsFz none 0 os E) none E c (s.run ds)
    | some j => (match os[j]? with
      | some (.path i []) => if apart (some j) i 0 os E = true then callEnd (argsFz (some j) 0 os E) (some i) E c (s.run ds) else .stuck
      | _ => .stuck))) else .stuck
@[simp] def rCall (s : FS) (ra : AvR) : EvR := fun E => (ra E).bind fun a => callFin s a.1 a.2.1 a.2.2
section
variable [Tb] {K : PySem.W.Frag} {G H : Hp} {σ : St} {E : Env}
/-- the arguments as the callee has them: Q0, what is frozen for the call's time -/
theorem args_in {f : Fr} {fp : Nat → List Addr} (S : SR f G H σ E fp) (mu : Option Nat) : ∀ (os : List Opd) (j : Nat) (vs : List V) (q : List Addr) (ds : List D), OpsF f.K G H σ E os vs q → Ow f fp q → argsD mu j os E = some ds →
    ∃ Q0 : List Addr, vs.length = ds.length ∧ ds.length = os.length ∧ (∀ a ∈ Q0, (a ∈ q ∨ ∃ i, a ∈ fp i) ∧ G a = none ∧ ∃ o, H a = some o ∧ Own1 o) ∧ (argsFz mu j os E = true → Q0 = []) ∧
      (∀ (i : Nat), apart mu i j os E = true → ∀ a ∈ Q0, a ∉ fp i) ∧
      ∀ (k : Nat) (d : D) (v : V), ds[k]? = some d → vs[k]? = some v → if mu = some (j + k) then ∃ o qo, os[k]? = some o ∧ OpF f.K G H σ E o v qo ∧ o.res E = some d else d.fzd = true ∧ ∀ P : Addr → Prop, (∀ a ∈ Q0, P a) → Rp f.K (frz G H P) H d v []
  | [], j, vs, q, ds, O, w, e => by
    cases e
    obtain ⟨rfl, rfl⟩ := O
    exact ⟨[], rfl, rfl, (fun a h => nomatch h), (fun _ => rfl), (fun i _ a h => nomatch h), fun k d v h => nomatch h⟩
  | o :: os, j, vs, q, ds, O, w, e => by
    obtain ⟨v, r, q1, q2, e1, e2, h1, h2⟩ := O
    subst e1 e2
    have e : (match o.res E with
      | none => none
      | some d => (match argsD mu (j + 1) os E with
        | none => none
        | some ds => some ((if mu = some j then d else d.fz) :: ds))) = some ds := e
    cases er : o.res E with
    | none => rw [er] at e; cases e
    | some d =>
      rw [er] at e
      have e : (match argsD mu (j + 1) os E with
        | none => none
        | some ds => some ((if mu = some j then d else d.fz) :: ds)) = some ds := e
      cases ed : argsD mu (j + 1) os E with
      | none => rw [ed] at e; cases e
      | some ds' =>
        rw [ed] at e
        cases e
        obtain ⟨Q0, l1, l2, a1, a2, a3, a4⟩ := args_in S mu os (j + 1) r q2 ds' h2 w.right ed
        obtain ⟨q', rr, sq, hv, hpth⟩ := h1.rep S er
        by_cases hm : mu = some j
        · refine ⟨Q0, by simp [l1], by simp [l2], fun a h => ?_, fun h => ?_, fun i h => ?_, fun k d' v' hd hv' => ?_⟩
          · obtain ⟨b1, b2⟩ := a1 a h
            exact ⟨b1.imp (fun z => List.mem_append_right _ z) id, b2⟩
          · have h : ((if mu = some j then true else match o.res E with
              | some d => d.fzd
              | none => false) && argsFz mu (j + 1) os E) = true := h
            exact a2 (Bool.and_eq_true_iff.mp h).2
          · have h : ((if mu = some j then true else apart1 i o E) && apart mu i (j + 1) os E) = true := h
            exact a3 i (Bool.and_eq_true_iff.mp h).2
          · cases k with
            | zero =>
              have : (if mu = some j then d else d.fz) = d' := by simpa using hd
              rw [if_pos hm] at this
              subst this
              have : v = v' := by simpa using hv'
              subst this
              rw [if_pos (show mu = some (j + 0) from hm)]
              exact ⟨o, q1, rfl, h1, er⟩
            | succ k =>
              have := a4 k d' v' (by simpa using hd) (by simpa using hv')
              rw [show j + 1 + k = j + (k + 1) by omega] at this
              exact this
        · refine ⟨q' ++ Q0, by simp [l1], by simp [l2], fun a h => ?_, fun h => ?_, fun i h => ?_, fun k d' v' hd hv' => ?_⟩
          · rcases List.mem_append.mp h with h | h
            · exact ⟨(sq a h).imp (fun z => List.mem_append_left _ z) id, Rp.at d v q' rr a h⟩
            · obtain ⟨b1, b2⟩ := a1 a h
              exact ⟨b1.imp (fun z => List.mem_append_right _ z) id, b2⟩
          · have h : ((if mu = some j then true else match o.res E with
              | some d => d.fzd
              | none => false) && argsFz mu (j + 1) os E) = true := h
            rw [if_neg hm, er] at h
            have h' := Bool.and_eq_true_iff.mp h
            rw [a2 h'.2, Rp.nil_of d v q' h'.1 rr]
            rfl
          · have h : ((if mu = some j then true else apart1 i o E) && apart mu i (j + 1) os E) = true := h
            rw [if_neg hm] at h
            have h' := Bool.and_eq_true_iff.mp h
            intro a ha
            rcases List.mem_append.mp ha with ha | ha
            · cases o with
              | val d0 =>
                have := hv d0 rfl
                rw [this] at ha
                exact w.left.sep a ha i
              | path i' ks =>
                have h1' : (match (Opd.path i' ks).res E with
                  | some d => d.fzd || (i' != i)
                  | none => false) = true := h'.1
                rw [er] at h1'
                have h1' : (d.fzd || (i' != i)) = true := h1'
                cases hz : d.fzd with
                | true =>
                  rw [Rp.nil_of d v q' hz rr] at ha
                  cases ha
                | false =>
                  rw [hz] at h1'
                  have hne : i' ≠ i := by simpa using h1'
                  exact fun hi => hne (S.sep i' i a (hpth i' ks rfl a ha) hi)
            · exact a3 i h'.2 a ha
          · cases k with
            | zero =>
              have : (if mu = some j then d else d.fz) = d' := by simpa using hd
              rw [if_neg hm] at this
              subst this
              have : v = v' := by simpa using hv'
              subst this
              rw [if_neg (show ¬ mu = some (j + 0) from hm)]
              exact ⟨D.fzd_fz d, fun P hP => Rp.frz S.ex P d v q' rr fun p hp => hP p (List.mem_append_left _ hp)⟩
            | succ k =>
              have := a4 k d' v' (by simpa using hd) (by simpa using hv')
              rw [show j + 1 + k = j + (k + 1) by omega] at this
              split
              · rename_i hh
                rw [if_pos hh] at this
                obtain ⟨o', qo, b1, b2, b3⟩ := this
                exact ⟨o', qo, by simpa using b1, b2, b3⟩
              · rename_i hh
                rw [if_neg hh] at this
                exact ⟨this.1, fun P hP => this.2 P fun a ha => hP a (List.mem_append_right _ ha)⟩
/-- the callee's frame -/
noncomputable def calleeFr (f : Fr) (G H : Hp) (mu : Option Nat) (sl : List Addr) (Q0 : List Addr) (vs : List V) : Fr := { K := f.K, G0 := frz G H (· ∈ Q0), H0 := H, F := fun a => (∃ o, H a = some o ∧ NotT o) ∧ frz G H (· ∈ Q0) a = none ∧ a ∉ sl, pn := fun i => mu = some i, σ0 := vs.map some }
theorem callee_in {f : Fr} {fp : Nat → List Addr} (S : SR f G H σ E fp) {mu : Option Nat} {vs : List V} {ds : List D} {Q0 sl : List Addr} (hl : vs.length = ds.length) (hQ : ∀ a ∈ Q0, G a = none ∧ ∃ o, H a = some o ∧ Own1 o) (hsl : ∀ a ∈ sl, a ∉ Q0) (hnd : sl.Nodup) (hm0 : mu = none → sl = [])
    (ha : ∀ (k : Nat) (d : D) (v : V), ds[k]? = some d → vs[k]? = some v → if mu = some k then Rp f.K G H d v sl else d.fzd = true ∧ Rp f.K (frz G H (· ∈ Q0)) H d v []) (hmk : ∀ k, mu = some k → k < ds.length) :
    SR (calleeFr f G H mu sl Q0 vs) (frz G H (· ∈ Q0)) H (vs.map some) (ds.map some) (fun k => if mu = some k then sl else []) where
  tab := fun a h => by
    rcases h with h | h
    · exact S.tabF (fun a h => (hQ a h).2) a (.inl h)
    · exact h
  g0 := Same.refl _
  ex := frz_same2 S.ex _
  fr := fun a h => ⟨rfl, h.2.1, h.1⟩
  stb := fun a o ho hs => by
    by_cases z : a ∈ Q0
    · rw [frz_in z]; exact ho
    · rw [frz_out z]; exact S.stb a o ho hs
  pin := fun i _ => rfl
  slen := rfl
  len := by simp [hl]
  slot := fun k d e => by
    have e' : ds[k]? = some d := by
      rw [List.getElem?_map] at e
      cases h : ds[k]? with
      | none => rw [h] at e; cases e
      | some d' =>
        rw [h] at e
        have : some d' = some d := Option.some.inj e
        exact this
    have hk : k < vs.length := by rw [hl]; exact (List.getElem?_eq_some_iff.mp e').1
    have ev : vs[k]? = some vs[k] := List.getElem?_eq_getElem hk
    refine ⟨vs[k], by rw [List.getElem?_map, ev]; rfl, ?_⟩
    have := ha k d vs[k] e' ev
    split at this
    · rename_i hm
      simp only [if_pos hm]
      refine Rp.mono (frz_same S.ex _) d vs[k] sl this fun p hp => ⟨?_, rfl⟩
      rw [frz_out (hsl p hp)]
      exact (Rp.at d _ sl this p hp).1
    · rename_i hm
      simp only [if_neg hm]
      exact this.2
  none_ := fun k n => by
    split
    · rename_i hm
      have hk := hmk k hm
      exact absurd (by rw [List.getElem?_map, List.getElem?_eq_getElem hk]; rfl) (n ds[k])
    · rfl
  nd := fun k => by
    show (if mu = some k then sl else []).Nodup
    split
    · exact hnd
    · exact List.nodup_nil
  sep := fun k l a h1 h2 => by
    have h1 : a ∈ (if mu = some k then sl else []) := h1
    have h2 : a ∈ (if mu = some l then sl else []) := h2
    split at h1
    · rename_i e1
      split at h2
      · rename_i e2
        rw [e1] at e2
        exact Option.some.inj e2
      · cases h2
    · cases h1
  out := fun k a h z => by
    have h : a ∈ (if mu = some k then sl else []) := h
    split at h
    · exact z.2.2 h
    · cases h
def fpOut (mu i : Option Nat) (fp fp' : Nat → List Addr) : Nat → List Addr := match i with
  | none => fp
  | some k => fun l => if l = k then (match mu with
    | some j => fp' j
    | none => []) else fp l
/-- behind a call: the caller's slots again -/
theorem callee_out {f : Fr} {fp : Nat → List Addr} (S : SR f G H σ E fp) {mu : Option Nat} {vs : List V} {Q0 sl : List Addr} {n : Nat} {mo : Option D} {G' H' : Hp} {fp' : Nat → List Addr} (hQ : ∀ a ∈ Q0, G a = none ∧ ∃ o, H a = some o ∧ Own1 o) (hQF : ∀ a ∈ Q0, ¬ f.F a)
    (hsl : ∀ a ∈ sl, a ∉ Q0) (fz : Bool) (hfz : fz = true → Q0 = []) (S' : SR (calleeFr f G H mu sl Q0 vs) G' H' (vs.map some) (outE mu n mo) fp') (hmo : fz = false → ∀ m, mo = some m → m.nofz = true) (i : Option Nat)
    (hm : ∀ j, mu = some j → j < n ∧ ∃ k, i = some k ∧ sl = fp k ∧ k < E.length ∧ ∃ v, σ[k]? = some (some v) ∧ vs[j]? = some v) (hm0 : mu = none → i = none ∧ sl = []) :
    ∃ G2 fp2, SR f G2 H' σ (putOut i E mo) fp2 ∧ (∀ (d : D) (v : V) (q : List Addr), (fz = true ∨ d.nofz = true) → Rp f.K G' H' d v q → Ow (calleeFr f G H mu sl Q0 vs) fp' q → Rp f.K G2 H' d v q ∧ Ow f fp2 q) ∧ (mu = none → fp2 = fp ∧ Step G H G2 H') := by
  classical
  have gQ : ∀ a ∈ Q0, G' a = H a ∧ H' a = H a := fun a h => by
    obtain ⟨g, o, ho, hw⟩ := hQ a h
    have e1 : frz G H (· ∈ Q0) a = some o := (frz_in h).trans ho
    have e2 := S'.g0 a o e1
    exact ⟨e2.trans ho.symm, (S'.ex a o e2).trans ho.symm⟩
  have stk : ∀ a o, G' a = some o → Stb o → a ∉ Q0 := fun a o h hs z => by
    obtain ⟨g, u, hu, hw⟩ := hQ a z
    rw [(gQ a z).1, hu] at h
    have e : u = o := Option.some.inj h
    subst e
    cases u <;> simp [Own1, Stb] at hw hs
  have fF : ∀ a, (∃ o, H a = some o ∧ NotT o) → a ∉ Q0 → G a = none → a ∉ sl → H' a = H a ∧ G' a = none := fun a h1 h2 h3 h4 => by
    have : (calleeFr f G H mu sl Q0 vs).F a := ⟨h1, by rw [frz_out h2]; exact h3, h4⟩
    obtain ⟨b1, b2, b3⟩ := S'.fr a this
    exact ⟨b1, b2⟩
  let G2 : Hp := fun a => if a ∈ Q0 then none else G' a
  have g2in : ∀ a, a ∈ Q0 → G2 a = none := fun a h => if_pos h
  have g2out : ∀ a, a ∉ Q0 → G2 a = G' a := fun a h => if_neg h
  have sG : Same G G2 := fun a o h => by
    have hn : a ∉ Q0 := fun z => by rw [(hQ a z).1] at h; cases h
    rw [g2out a hn]
    exact S'.g0 a o (by rw [show (calleeFr f G H mu sl Q0 vs).G0 = frz G H (· ∈ Q0) from rfl, frz_out hn]; exact h)
  have reb : ∀ (d : D) (v : V) (q : List Addr), (fz = true ∨ d.nofz = true) → Rp f.K G' H' d v q → Rp f.K G2 H' d v q := fun d v q h r => by
    rcases h with h | h
    · have hq := hfz h
      have e : G2 = G' := by
        funext a
        exact g2out a (by rw [hq]; exact fun z => (nomatch z))
      rw [e]; exact r
    · refine Rp.rebase (fun a o h hs => by rw [g2out a (stk a o h hs)]; exact h) d v q h r fun p hp => ?_
      have := (Rp.at d v q r p hp).1
      by_cases z : p ∈ Q0
      · exact g2in p z
      · rw [g2out p z]; exact this
  -- the callee's own things are nobody else's
  have notMine : ∀ a, G' a = none → ¬ (calleeFr f G H mu sl Q0 vs).F a → a ∉ sl → (∀ k, a ∉ fp k) ∧ ¬ f.F a := fun a h1 h2 h3 => by
    have nQ : a ∉ Q0 := fun z => by
      obtain ⟨g, u, hu, _⟩ := hQ a z
      rw [(gQ a z).1, hu] at h1; cases h1
    refine ⟨fun k hk => ?_, fun hF => ?_⟩
    · obtain ⟨g, o, ho, hw⟩ := S.at k a hk
      exact h2 ⟨⟨o, ho, hw.notT⟩, by rw [frz_out nQ]; exact g, h3⟩
    · obtain ⟨_, g, hn⟩ := S.fr a hF
      exact h2 ⟨hn, by rw [frz_out nQ]; exact g, h3⟩
  let fp2 : Nat → List Addr := fpOut mu i fp fp'
  have keepSlot : ∀ (l : Nat) (d : D), E[l]? = some (some d) → (∀ a ∈ fp l, a ∉ sl) → ∃ v, σ[l]? = some (some v) ∧ Rp f.K G2 H' d v (fp l) := fun l d e hd => by
    obtain ⟨v, e1, r⟩ := S.slot l d e
    refine ⟨v, e1, Rp.mono sG d v _ r fun p hp => ?_⟩
    obtain ⟨g, o, ho, hw⟩ := S.at l p hp
    by_cases z : p ∈ Q0
    · exact ⟨g2in p z, (gQ p z).2⟩
    · obtain ⟨b1, b2⟩ := fF p ⟨o, ho, hw.notT⟩ z g (hd p hp)
      exact ⟨(g2out p z).trans b2, b1⟩
  have exG2 : Same G2 H' := fun a o h => by
    by_cases z : a ∈ Q0
    · rw [g2in a z] at h; cases h
    · rw [g2out a z] at h; exact S'.ex a o h
  have stb2 : ∀ a o, H' a = some o → Stb o → G2 a = some o := fun a o h hs => by
    have := S'.stb a o h hs
    rw [g2out a (stk a o this hs)]; exact this
  have slF : ∀ a ∈ sl, ¬ f.F a := fun a h z => by
    cases hmu : mu with
    | none => rw [(hm0 hmu).2] at h; cases h
    | some j =>
      obtain ⟨_, k, _, hs, _⟩ := hm j hmu
      rw [hs] at h
      exact S.out k a h z
  have fr2 : ∀ a, f.F a → H' a = f.H0 a ∧ G2 a = none ∧ ∃ o, H' a = some o ∧ NotT o := fun a h => by
    obtain ⟨b1, b2, b3⟩ := S.fr a h
    have nQ : a ∉ Q0 := fun z => hQF a z h
    obtain ⟨c1, c2⟩ := fF a b3 nQ b2 fun z => slF a z h
    exact ⟨c1.trans b1, (g2out a nQ).trans c2, by rw [c1]; exact b3⟩
  have tab2 : ∀ a, (Tb.T a ∨ (GxR.TabG H a ∧ G a = none)) → GxR.TabG H' a ∧ G2 a = none := fun a h => by
    have nQ : a ∉ Q0 := fun z => by
      obtain ⟨_, o, ho, hw⟩ := hQ a z
      obtain ⟨ps, e, _⟩ : GxR.TabG H a := h.elim (fun z => (S.tab a (.inl z)).1) And.left
      rw [ho] at e; cases e; exact hw
    have := S'.tab a (h.imp id fun z => ⟨z.1, by
      show frz G H (· ∈ Q0) a = none
      rw [frz_out nQ]; exact z.2⟩)
    exact ⟨this.1, (g2out a nQ).trans this.2⟩
  have tabS : ∀ a, (Tb.T a ∨ (GxR.TabG f.H0 a ∧ f.G0 a = none)) → GxR.TabG H' a ∧ G2 a = none := fun a h => tab2 a (h.imp id fun z => S.tab a (.inr z))
  have ow2 : ∀ (q : List Addr), (∀ a ∈ q, G' a = none) → Ow (calleeFr f G H mu sl Q0 vs) fp' q → Ow f fp2 q := fun q hg w => by
    refine ⟨w.nd, fun a ha z => ?_, fun a ha l hl => ?_⟩
    · by_cases hs : a ∈ sl
      · exact slF a hs z
      · exact (notMine a (hg a ha) (w.out a ha) hs).2 z
    · cases hi : i with
      | none =>
        have hl : a ∈ fpOut mu i fp fp' l := hl
        rw [hi] at hl
        have hl : a ∈ fp l := hl
        have hmu : mu = none := by
          cases hmu : mu with
          | none => rfl
          | some j =>
            obtain ⟨_, k, hk, _⟩ := hm j hmu
            rw [hi] at hk; cases hk
        have hs : a ∉ sl := by rw [(hm0 hmu).2]; exact fun z => nomatch z
        exact (notMine a (hg a ha) (w.out a ha) hs).1 l hl
      | some k =>
        have hl : a ∈ fpOut mu i fp fp' l := hl
        rw [hi] at hl
        cases hmu : mu with
        | none => rw [(hm0 hmu).1] at hi; cases hi
        | some j =>
          obtain ⟨_, k', hk, hsl', _⟩ := hm j hmu
          rw [hi] at hk
          cases hk
          rw [hmu] at hl
          have hl : a ∈ (if l = k then fp' j else fp l) := hl
          split at hl
          · exact w.sep a ha j hl
          · rename_i hne
            by_cases hs : a ∈ sl
            · rw [hsl'] at hs
              exact hne (S.sep k l a hs hl).symm
            · exact (notMine a (hg a ha) (w.out a ha) hs).1 l hl
  refine ⟨G2, fp2, ?_, fun d v q h r w => ⟨reb d v q h r, ow2 q (fun a ha => (Rp.at d v q r a ha).1) w⟩, fun hmu => ?_⟩
  · cases hi : i with
    | none =>
      have hmu : mu = none := by
        cases hmu : mu with
        | none => rfl
        | some j =>
          obtain ⟨_, k, hk, _⟩ := hm j hmu
          rw [hi] at hk; cases hk
      have hs : sl = [] := (hm0 hmu).2
      have e2 : fp2 = fp := by
        show fpOut mu i fp fp' = fp
        rw [hi]
        rfl
      rw [e2]
      exact ⟨S.g0.trans sG, exG2, fr2, stb2, S.pin, S.slen, S.len, fun l d e => keepSlot l d e (by rw [hs]; exact fun _ _ z => nomatch z), S.none_, S.nd, S.sep, S.out, tabS⟩
    | some k =>
      cases hmu : mu with
      | none => rw [(hm0 hmu).1] at hi; cases hi
      | some j =>
        obtain ⟨hjn, k', hk, hsl', hkE, v, hσ, hv⟩ := hm j hmu
        rw [hi] at hk
        cases hk
        have e2 : fp2 = fun l => if l = k then fp' j else fp l := by
          show fpOut mu i fp fp' = _
          rw [hi, hmu]
          rfl
        rw [e2]
        have eo : (outE mu n mo)[j]? = some mo := by
          rw [hmu]
          show ((List.replicate n none).set j mo)[j]? = some mo
          rw [List.getElem?_set_self (by simpa using hjn)]
        have dsl : ∀ l, l ≠ k → ∀ a ∈ fp l, a ∉ sl := fun l hl a ha z => by
          rw [hsl'] at z
          exact hl (S.sep l k a ha z)
        have at' : ∀ a ∈ fp' j, G' a = none ∧ ¬ (calleeFr f G H mu sl Q0 vs).F a := fun a ha => ⟨(S'.at j a ha).1, S'.out j a ha⟩
        show SR f G2 H' σ (E.set k mo) _
        refine ⟨S.g0.trans sG, exG2, fr2, stb2, S.pin, S.slen, by rw [List.length_set]; exact S.len, fun l d e => ?_, fun l hn => ?_, fun l => ?_, fun l m a h1 h2 => ?_, fun l a h => ?_, tabS⟩
        · by_cases hl : k = l
          · subst hl
            rw [List.getElem?_set_self hkE] at e
            have emo : mo = some d := Option.some.inj e
            rw [if_pos rfl]
            obtain ⟨v', ev', r'⟩ := S'.slot j d (by rw [eo, emo])
            have : v' = v := by
              rw [List.getElem?_map, hv] at ev'
              exact (Option.some.inj (Option.some.inj ev')).symm
            subst this
            refine ⟨v', hσ, reb d v' _ ?_ r'⟩
            cases hz : fz with
            | true => exact .inl rfl
            | false => exact .inr (hmo hz d emo)
          · rw [List.getElem?_set_ne hl] at e
            rw [if_neg (Ne.symm hl)]
            exact keepSlot l d e (dsl l (Ne.symm hl))
        · by_cases hl : k = l
          · subst hl
            rw [if_pos rfl]
            refine S'.none_ j fun d e => ?_
            rw [eo] at e
            exact hn d (by rw [List.getElem?_set_self hkE]; exact e)
          · rw [if_neg (Ne.symm hl)]
            exact S.none_ l fun d => by rw [← List.getElem?_set_ne hl]; exact hn d
        · show (if l = k then fp' j else fp l).Nodup
          split
          · exact S'.nd j
          · exact S.nd l
        · have h1 : a ∈ (if l = k then fp' j else fp l) := h1
          have h2 : a ∈ (if m = k then fp' j else fp m) := h2
          have cross : ∀ m', m' ≠ k → a ∈ fp' j → a ∈ fp m' → False := fun m' hm' h1 h2 => by
            obtain ⟨b1, b2⟩ := at' a h1
            exact (notMine a b1 b2 (dsl m' hm' a h2)).1 m' h2
          by_cases hl : l = k
          · by_cases hm' : m = k
            · rw [hl, hm']
            · rw [if_pos hl] at h1
              rw [if_neg hm'] at h2
              exact (cross m hm' h1 h2).elim
          · by_cases hm' : m = k
            · rw [if_neg hl] at h1
              rw [if_pos hm'] at h2
              exact (cross l hl h2 h1).elim
            · rw [if_neg hl] at h1
              rw [if_neg hm'] at h2
              exact S.sep l m a h1 h2
        · have h : a ∈ (if l = k then fp' j else fp l) := h
          split at h
          · intro z
            obtain ⟨b1, b2⟩ := at' a h
            by_cases hs : a ∈ sl
            · exact slF a hs z
            · exact (notMine a b1 b2 hs).2 z
          · exact S.out l a h
  · obtain ⟨hi, hs⟩ := hm0 hmu
    refine ⟨?_, sG, fun a o h nt => ?_, fun a o h nt => ?_, exG2, stb2, fun a h g => tab2 a (.inr ⟨h, g⟩)⟩
    · show fpOut mu i fp fp' = fp
      rw [hi]
      rfl
    · by_cases z : a ∈ Q0
      · exact (gQ a z).2.trans h
      · cases hg : G a with
        | none => exact (fF a ⟨o, h, nt⟩ z hg (by rw [hs]; exact fun z => (nomatch z))).1.trans h
        | some u =>
          have : u = o := by
            have := S.ex a u hg
            rw [h] at this
            exact (Option.some.inj this).symm
          subst this
          exact exG2 a u (sG a u hg)
    · by_cases z : a ∈ Q0
      · rw [g2in a z, (hQ a z).1]
      · cases hg : G a with
        | none => rw [g2out a z]; exact (fF a ⟨o, h, nt⟩ z hg (by rw [hs]; exact fun z => (nomatch z))).2
        | some u => exact sG a u hg
end
/-- an operand that is a whole slot -/
theorem slot_of {K : PySem.W.Frag} {G H : Hp} {σ : St} {E : Env} {i : Nat} {v : V} {q : List Addr} (h : OpF K G H σ E (.path i []) v q) : σ[i]? = some (some v) := by
  obtain ⟨_, v0, e, h⟩ := h
  have h : v = v0 := h
  rw [h]; exact e
section
variable [Tb] {X : Cx} {W : WX} {K : PySem.W.Frag}
/-- the callee's promise is what the caller goes on with -/
theorem callEnd_ok {f : Fr} {G H G1 H1 : Hp} {σ : St} {E E1 : Env} {fp fp1 : Nat → List Addr} {Q : VK} {s : FS} {vs : List V} {ds : List D} {Q0 sl : List Addr} {c1 : Bool} {fz : Bool} {i : Option Nat} {fpc : Nat → List Addr} (S1 : SR f G1 H1 σ E1 fp1) (k1 : c1 = false → Quiet G H G1 H1 E E1 fp fp1)
    (hQ : ∀ a ∈ Q0, G1 a = none ∧ ∃ o, H1 a = some o ∧ Own1 o) (hQF : ∀ a ∈ Q0, ¬ f.F a) (hsl : ∀ a ∈ sl, a ∉ Q0) (hfz : fz = true → Q0 = [])
    (hm : ∀ j, s.mu = some j → j < s.n ∧ ∃ k, i = some k ∧ sl = fp1 k ∧ k < E1.length ∧ ∃ v, σ[k]? = some (some v) ∧ vs[j]? = some v) (hm0 : s.mu = none → i = none ∧ sl = []) (hl : vs.length = s.n) (hd : ds.length = s.n)
    (Sc : SR (calleeFr f G1 H1 s.mu sl Q0 vs) (frz G1 H1 (· ∈ Q0)) H1 (vs.map some) (ds.map some) fpc) (hz : ∀ (i : Nat) (d : D), s.mu ≠ some i → ds[i]? = some d → d.fzd = true)
    (P : PostE f W σ Q G H E fp (callEnd fz i E1 c1 (s.run ds))) : spD f.K s vs H1 Q (WE W σ) := by
  refine ⟨hl, calleeFr f G1 H1 s.mu sl Q0 vs, _, ds, fpc, rfl, rfl, rfl, hd, Sc, hz, ?_⟩
  cases er : s.run ds with
  | stuck => rw [er] at P; exact P.elim
  | ok a =>
    obtain ⟨d, mo⟩ := a
    rw [er] at P
    have P : PostE f W σ Q G H E fp (if okOut fz d mo = true then .ok (.val d, putOut i E1 mo, c1 || i.isSome) else .stuck) := P
    split at P
    · rename_i ho
      intro v G' H' fp' q S' r w
      have ho' : fz = true ∨ (d.nofz = true ∧ ∀ m, mo = some m → m.nofz = true) := by
        unfold okOut at ho
        rcases Bool.or_eq_true_iff.mp ho with h | h
        · exact .inl h
        · obtain ⟨h1, h2⟩ := Bool.and_eq_true_iff.mp h
          refine .inr ⟨h1, fun m hm => ?_⟩
          rw [hm] at h2
          exact h2
      obtain ⟨G2, fp2, S2, k2, k3⟩ := callee_out S1 hQ hQF hsl fz hfz S' (fun h m hm => by
        rcases ho' with z | z
        · rw [h] at z; cases z
        · exact z.2 m hm) i hm hm0
      obtain ⟨r2, w2⟩ := k2 d v q (ho'.imp id fun z => z.1) r w
      refine P v G2 H' fp2 q S2 r2 w2 fun hc => ?_
      obtain ⟨hc1, hc2⟩ : c1 = false ∧ i.isSome = false := by simpa using hc
      have hi : i = none := by
        cases i with
        | none => rfl
        | some k => cases hc2
      have hmu : s.mu = none := by
        cases hmu : s.mu with
        | none => rfl
        | some j =>
          obtain ⟨_, k, hk, _⟩ := hm j hmu
          rw [hi] at hk; cases hk
      obtain ⟨e1, st⟩ := k3 hmu
      subst hi
      rw [e1]
      exact (k1 hc1).step st
    · exact P.elim
  | exc x M =>
    rw [er] at P
    have P : PostE f W σ Q G H E fp (if okExc fz x (excM M) = true then .exc x (putOut i E1 (excM M)) else .stuck) := P
    split at P
    · rename_i ho
      intro G' H' fp' dx S' r
      have ho' : fz = true ∨ (nofzL x.xs = true ∧ ∀ m, excM M = some m → m.nofz = true) := by
        unfold okExc at ho
        rcases Bool.or_eq_true_iff.mp ho with h | h
        · exact .inl h
        · obtain ⟨h1, h2⟩ := Bool.and_eq_true_iff.mp h
          refine .inr ⟨h1, fun m hm => ?_⟩
          rw [hm] at h2
          exact h2
      obtain ⟨G2, fp2, S2, k2, k3⟩ := callee_out S1 hQ hQF hsl fz hfz S' (fun h m hm => by
        rcases ho' with z | z
        · rw [h] at z; cases z
        · exact z.2 m hm) i hm hm0
      obtain ⟨us, hn, hx, hr⟩ := r
      -- the exception's fields over the caller's frozen heap: a tuple of them
      have hr2 : RpL f.K G2 H' x.xs us [] := by
        have gen : ∀ (xs : List D) (us : List V), (fz = true ∨ nofzL xs = true) → RpL f.K G' H' xs us [] → RpL f.K G2 H' xs us [] := by
          intro xs
          induction xs with
          | nil => intro us _ h; unfold RpL at h ⊢; exact h
          | cons d ds ih =>
            intro us hz h
            unfold RpL at h ⊢
            obtain ⟨y, r, f1, f2, e1, e2, h1, h2⟩ := h
            obtain ⟨rfl, rfl⟩ := List.append_eq_nil_iff.mp e2.symm
            have hz' : (fz = true ∨ d.nofz = true) ∧ (fz = true ∨ nofzL ds = true) := by
              rcases hz with z | z
              · exact ⟨.inl z, .inl z⟩
              · have := Bool.and_eq_true_iff.mp (show (d.nofz && nofzL ds) = true from z)
                exact ⟨.inr this.1, .inr this.2⟩
            exact ⟨y, r, [], [], e1, rfl, (k2 d y [] hz'.1 h1 .nil).1, ih r hz'.2 h2⟩
        exact gen x.xs us (ho'.imp id fun z => z.1) hr
      exact P G2 H' fp2 dx S2 ⟨us, hn, hx, hr2⟩
    · exact P.elim
theorem tCall_of {s : FS} {ra : AvR} (σ : St) (H : Hp) (Q : VK) (h : tE K W (rCall s ra) σ H Q) : tCallS (spD K s) (WE W) (tA K W ra) σ H Q := by
  obtain ⟨f, G, E, fp, ek, S, P⟩ := h
  refine ⟨f, G, E, fp, ek, S, ?_⟩
  unfold rCall at P
  cases ea : ra E with
  | stuck => rw [ea] at P; exact P
  | exc x E' => rw [ea] at P; exact P
  | ok a =>
    obtain ⟨os, E1, c1⟩ := a
    rw [ea] at P
    intro vs G1 H1 fp1 q S1 O1 W1 k1
    have P : PostE f W σ Q G H E fp (callFin s os E1 c1) := P
    unfold callFin at P
    split at P
    · rename_i hn
      cases ed : argsD s.mu 0 os E1 with
      | none => rw [ed] at P; exact P.elim
      | some ds =>
        rw [ed] at P
        obtain ⟨Q0, l1, l2, a1, a2, a3, a4⟩ := args_in S1 s.mu os 0 vs q ds O1 W1 ed
        have hQ : ∀ a ∈ Q0, G1 a = none ∧ ∃ o, H1 a = some o ∧ Own1 o := fun a h => (a1 a h).2
        have hQF : ∀ a ∈ Q0, ¬ f.F a := fun a h => (a1 a h).1.elim (W1.out a) fun ⟨i, z⟩ => S1.out i a z
        have hd : ds.length = s.n := l2.trans hn
        have hl : vs.length = s.n := l1.trans hd
        subst ek
        cases hmu : s.mu with
        | none =>
          have P : PostE f W σ Q G H E fp (callEnd (argsFz none 0 os E1) none E1 c1 (s.run ds)) := by rw [hmu] at P; exact P
          rw [hmu] at a2 a4
          have a4' : ∀ (k : Nat) (d : D) (v : V), ds[k]? = some d → vs[k]? = some v → d.fzd = true ∧ Rp f.K (frz G1 H1 (· ∈ Q0)) H1 d v [] := fun k d v h1 h2 => by
            have := a4 k d v h1 h2
            rw [if_neg (fun z => nomatch z)] at this
            exact ⟨this.1, this.2 _ fun a h => h⟩
          refine callEnd_ok (sl := []) (Q0 := Q0) S1 k1 hQ hQF (fun a h => nomatch h) a2 (fun j h => by rw [hmu] at h; cases h) (fun _ => ⟨rfl, rfl⟩) hl hd
            (callee_in S1 l1 hQ (fun a h => nomatch h) List.nodup_nil (fun _ => rfl) (fun k d v h1 h2 => by rw [if_neg (by rw [hmu]; exact fun z => nomatch z)]; exact a4' k d v h1 h2) (fun k h => by rw [hmu] at h; cases h)) (fun k d _ h1 => ?_) P
          have hk : k < vs.length := by rw [l1]; exact (List.getElem?_eq_some_iff.mp h1).1
          exact (a4' k d vs[k] h1 (List.getElem?_eq_getElem hk)).1
        | some j =>
          have P : PostE f W σ Q G H E fp (match os[j]? with
            | some (.path i []) => if apart (some j) i 0 os E1 = true then callEnd (argsFz (some j) 0 os E1) (some i) E1 c1 (s.run ds) else .stuck
            | _ => .stuck) := by rw [hmu] at P; exact P
          rw [hmu] at a2 a3 a4
          cases eo : os[j]? with
          | none => rw [eo] at P; exact P.elim
          | some o =>
            rw [eo] at P
            cases o with
            | val d => exact P.elim
            | path i ks =>
              cases ks with
              | cons k r => exact P.elim
              | nil =>
                have P : PostE f W σ Q G H E fp (if apart (some j) i 0 os E1 = true then callEnd (argsFz (some j) 0 os E1) (some i) E1 c1 (s.run ds) else .stuck) := P
                split at P
                · rename_i hap
                  have hj : j < ds.length := by rw [l2]; exact (List.getElem?_eq_some_iff.mp eo).1
                  have hjv : j < vs.length := by rw [l1]; exact hj
                  have hdj := List.getElem?_eq_getElem hj
                  have hvj := List.getElem?_eq_getElem hjv
                  have hjj := a4 j ds[j] vs[j] hdj hvj
                  rw [if_pos (by simp)] at hjj
                  obtain ⟨o', qo, eo', Oj, rj⟩ := hjj
                  rw [eo] at eo'
                  cases eo'
                  have hσ := slot_of Oj
                  have e6 : (match E1[i]? with | some (some d) => d.atP [] | _ => none) = some ds[j] := rj
                  have hE : E1[i]? = some (some ds[j]) := by
                    cases qE : E1[i]? with
                    | none => rw [qE] at e6; cases e6
                    | some oo =>
                      cases oo with
                      | none => rw [qE] at e6; cases e6
                      | some d0 =>
                        rw [qE] at e6
                        have : d0 = ds[j] := Option.some.inj e6
                        rw [this]
                  obtain ⟨v', hv', rr⟩ := S1.slot i ds[j] hE
                  rw [hσ] at hv'
                  have ev : vs[j] = v' := Option.some.inj (Option.some.inj hv')
                  subst ev
                  have hiE : i < E1.length := (List.getElem?_eq_some_iff.mp hE).1
                  have hsl : ∀ a ∈ fp1 i, a ∉ Q0 := fun a h z => a3 i hap a z h
                  have a4' : ∀ (k : Nat) (d : D) (v : V), ds[k]? = some d → vs[k]? = some v → if s.mu = some k then Rp f.K G1 H1 d v (fp1 i) else d.fzd = true ∧ Rp f.K (frz G1 H1 (· ∈ Q0)) H1 d v [] := fun k d v h1 h2 => by
                    by_cases hk : j = k
                    · subst hk
                      rw [if_pos hmu]
                      rw [hdj] at h1
                      rw [hvj] at h2
                      cases h1
                      cases h2
                      exact rr
                    · rw [if_neg (by rw [hmu]; exact fun z => hk (Option.some.inj z))]
                      have := a4 k d v h1 h2
                      rw [if_neg (by simp; exact hk)] at this
                      exact ⟨this.1, this.2 _ fun a h => h⟩
                  refine callEnd_ok (sl := fp1 i) (Q0 := Q0) S1 k1 hQ hQF hsl a2 (fun j' h => ?_) (fun h => by rw [hmu] at h; cases h) hl hd
                    (callee_in S1 l1 hQ hsl (S1.nd i) (fun h => by rw [hmu] at h; cases h) a4' (fun k h => by rw [hmu] at h; cases h; exact hj)) (fun k d hk h1 => ?_) P
                  · rw [hmu] at h
                    cases h
                    exact ⟨by rw [← hd]; exact hj, i, rfl, rfl, hiE, vs[j], hσ, hvj⟩
                  · have hkv : k < vs.length := by rw [l1]; exact (List.getElem?_eq_some_iff.mp h1).1
                    have := a4' k d vs[k] h1 (List.getElem?_eq_getElem hkv)
                    rw [if_neg hk] at this
                    exact this.1
                · exact P.elim
    · exact P.elim
theorem de_call {k : Nat} {g : Addr} {fd : FuncData} {ps : List Str} {s : FS} {x : Str} {p pos : Pos} {e : Expr} {es : List Expr} {ra : AvR} (F : FnOk X.prog X.w X.K X.mg X.base (L2.CX X.prog X.w) k g fd ps (spD X.K s)) (hr : Room k X.A) (hg : Gl X x) (hm : X.mg x = some (.ref g)) (hk : PySem.W.keepIn X.K (.ref g) = true) (hb : Binds X.K fd ps []) (tk : Takes X W)
    (ha : DA X W (e :: es) ra) (hdb : (x == ("__debug__" : Str)) = false := by decide) (he : starEach (e :: es) X.env = (false, eval e X.env) :: starEach es X.env := by rfl) (hpl : (backTo pos (starEach es X.env)).any (·.1) = false := by rfl) :
    DE X W (.Call (.Name x p) (e :: es) [] pos) (rCall s ra) := (pe_callS F hr hg hm hk hb (fun σ => passAt tk σ) ha hdb he hpl).weak tCall_of
end
end DV

namespace DV
open PySem L2 PyProof.Rows

/-! ### a def's body -/
@[simp] def mEnd (mu : Option Nat) (E : Env) : Option D := match mu with
  | none => none
  | some j => match E[j]? with
    | some o => o
    | none => none
@[simp] def startE (nl : Nat) (ds : List D) : Env := ds.map some ++ List.replicate (nl - ds.length) none
@[simp] def endDef (mu : Option Nat) : Rs (Fl × Env) → Rs (D × Option D)
  | .ok (.nx, E) => .ok (.non, mEnd mu E)
  | .ok (.rt d, E) => .ok (d, mEnd mu E)
  | .ok (.bk, _) => .stuck
  | .ok (.ct, _) => .stuck
  | .exc x E => .exc x [mEnd mu E]
  | .stuck => .stuck
/-- the body r run on data: nl local names -/
@[simp] def runDef (r : SvR) (nl : Nat) (mu : Option Nat) (ds : List D) : Rs (D × Option D) := endDef mu (r (startE nl ds))
section
variable [Tb] {f : Fr} {G H : Hp} {fp : Nat → List Addr}
theorem body_in {vs : List V} {ds : List D} {N : List Str} (S : SR f G H (vs.map some) (ds.map some) fp) (hl : vs.length = ds.length) (hN : ds.length ≤ N.length) (hp : ∀ i, f.pn i → i < vs.length) (hs : f.σ0 = vs.map some) :
    SR { f with σ0 := start N vs } G H (start N vs) (startE N.length ds) fp where
  tab := S.tab
  g0 := S.g0
  ex := S.ex
  fr := S.fr
  stb := S.stb
  pin := fun i hi => rfl
  slen := rfl
  len := by simp [startE, L2.start]; omega
  slot := fun i d e => by
    unfold startE at e
    by_cases hi : i < ds.length
    · rw [List.getElem?_append_left (by simpa using hi)] at e
      obtain ⟨v, e1, r⟩ := S.slot i d e
      refine ⟨v, ?_, r⟩
      unfold L2.start
      rw [List.getElem?_append_left (by simpa [hl] using hi)]
      exact e1
    · rw [List.getElem?_append_right (by simpa using hi)] at e
      have := List.mem_of_getElem? e
      simp at this
  none_ := fun i n => by
    refine S.none_ i fun d e => n d ?_
    unfold startE
    rw [List.getElem?_append_left (List.getElem?_eq_some_iff.mp e).1]
    exact e
  nd := S.nd
  sep := S.sep
  out := S.out
theorem body_out {vs : List V} {n : Nat} {mu : Option Nat} {N : List Str} {σ' : L2.St} {E' : Env} {G' H' : Hp} {fp' : Nat → List Addr} (hl : vs.length = n) (hp : f.pn = fun i => mu = some i) (hm : ∀ j, mu = some j → j < n) (hs : f.σ0 = vs.map some) (S' : SR { f with σ0 := start N vs } G' H' σ' E' fp') :
    SR f G' H' (vs.map some) (outE mu n (mEnd mu E')) (fun l => if mu = some l then fp' l else []) where
  tab := S'.tab
  g0 := S'.g0
  ex := S'.ex
  fr := S'.fr
  stb := S'.stb
  pin := fun i _ => by rw [hs]
  slen := by rw [hs]
  len := by
    cases mu with
    | none => simp [outE, hl]
    | some j => simp [outE, hl]
  slot := fun i d e => by
    cases mu with
    | none =>
      have := List.mem_of_getElem? e
      simp [outE] at this
    | some j =>
      have e : ((List.replicate n none).set j (mEnd (some j) E'))[i]? = some (some d) := e
      by_cases hij : j = i
      · subst hij
        rw [List.getElem?_set_self (by simpa using hm j rfl)] at e
        have em : mEnd (some j) E' = some d := Option.some.inj e
        have e2 : E'[j]? = some (some d) := by
          have em : (match E'[j]? with
            | some o => o
            | none => none) = some d := em
          cases q : E'[j]? with
          | none => rw [q] at em; cases em
          | some o => rw [q] at em; rw [show o = some d from em]
        obtain ⟨v, e3, r⟩ := S'.slot j d e2
        have e4 := S'.pin j (by show f.pn j; rw [hp])
        have e5 : (start N vs)[j]? = (vs.map some)[j]? := by
          unfold L2.start
          rw [List.getElem?_append_left (by simpa [hl] using hm j rfl)]
        refine ⟨v, ?_, by rw [if_pos rfl]; exact r⟩
        rw [← e5]
        exact e4.symm.trans e3
      · rw [List.getElem?_set_ne hij] at e
        have := List.mem_of_getElem? e
        simp at this
  none_ := fun i h => by
    split
    · rename_i hi
      subst hi
      refine S'.none_ i fun d e => h d ?_
      show ((List.replicate n none).set i (mEnd (some i) E'))[i]? = _
      rw [List.getElem?_set_self (by simpa using hm i rfl)]
      show some (match E'[i]? with
        | some o => o
        | none => none) = _
      rw [e]
    · rfl
  nd := fun i => by
    show (if mu = some i then fp' i else []).Nodup
    split
    · exact S'.nd i
    · exact List.nodup_nil
  sep := fun i j a h1 h2 => by
    have h1 : a ∈ (if mu = some i then fp' i else []) := h1
    have h2 : a ∈ (if mu = some j then fp' j else []) := h2
    split at h1
    · split at h2
      · exact S'.sep i j a h1 h2
      · cases h2
    · cases h1
  out := fun i a h => by
    have h : a ∈ (if mu = some i then fp' i else []) := h
    split at h
    · exact S'.out i a h
    · cases h
theorem Ow.toOut {mu : Option Nat} {fp' : Nat → List Addr} {σ0 : L2.St} {q : List Addr} (w : Ow { f with σ0 := σ0 } fp' q) : Ow f (fun l => if mu = some l then fp' l else []) q :=
  ⟨w.nd, w.out, fun a ha i hi => by
    have hi : a ∈ (if mu = some i then fp' i else []) := hi
    split at hi
    · exact w.sep a ha i hi
    · cases hi⟩
end
section
variable [Tb] {P : Program} {w : World} {K : PySem.W.Frag} {mg : Str → Option Value} {base : Heap}
/-- a def by its body, its code object told -/
theorem FunD.okc {x qual : Str} {params : Arguments} {body : List Stmt} {scope : Scope} {f : Addr} {fd : FuncData} {N ps : List Str} {k : Nat} {sp : Sp} (F : FunD K x qual params body scope [] [] f fd) (S : FnScope N ps scope) (len : ∀ vs H Q E, sp vs H Q E → vs.length = ps.length)
    (hbody : ∀ (cdv : Value), fd.code = cdv → ∀ (A : Around) (outer : List PySem.Env) (s : Shared) (H : Hp) (vs : List V) (Q : VK) (E : XK), Room k (A.deeper (envOfC qual scope s.heap.objs.size f cdv)) → sp vs H Q E →
      ∃ t, PSs (cxOf (L2.CX P w) P w K mg base N qual scope f cdv A outer s H E) body t ∧ t { nx := fun _ H' => Q .non H', rt := Q } (start N vs) H) : FnOk P w K mg base (L2.CX P w) (k + 1) f fd ps sp := by
  obtain ⟨oc, od, dV, kV, doc, pm, an, cdv, ct, osl, rfl, lk, hcd, _, _⟩ := F.ex
  exact fn_of lk hcd S len fun A outer s H vs Q E hr hsp => hbody cdv rfl A outer s H vs Q E hr hsp
/-- THE RULE for a def: its body as a function over data for each number of turns that whiles may have, and what that gives is the promise's -/
theorem fnD {x qual : Str} {params : Arguments} {body : List Stmt} {scope : Scope} {f : Addr} {fd : FuncData} {N ps : List Str} {k : Nat} {s : FS} (F : FunD K x qual params body scope [] [] f fd) (S : FnScope N ps scope) (r : Nat → SvR) (hn : s.n = ps.length) (hN : ps.length ≤ N.length) (hmu : ∀ j, s.mu = some j → j < s.n)
    (hb : ∀ (cdv : Value), fd.code = cdv → ∀ (A : Around) (outer : List PySem.Env) (sh : Shared) (H : Hp) (E : XK), Room k (A.deeper (envOfC qual scope sh.heap.objs.size f cdv)) →
      ∀ n, DSs (cxOf (L2.CX P w) P w K mg base N qual scope f cdv A outer sh H E) (fun i => s.mu = some i) (fun cls d _ H' => E cls d H') body (r n))
    (hrun : ∀ ds, ds.length = s.n → s.run ds ≠ .stuck → ∃ n, runDef (r n) N.length s.mu ds = s.run ds) : FnOk P w K mg base (L2.CX P w) (k + 1) f fd ps (spD K s) := by
  refine FunD.okc F S (fun vs H Q E h => h.1.trans hn) fun cdv hcd A outer sh H vs Q E hr h => ?_
  obtain ⟨h0, fr, G, ds, fp, h1, h2, h3, h4, h5, h6, h7⟩ := h
  have hst : s.run ds ≠ .stuck := fun z => by rw [z] at h7; exact h7
  obtain ⟨n, en⟩ := hrun ds h4 hst
  refine ⟨_, hb cdv hcd A outer sh H E hr n, { fr with σ0 := start N vs }, G, startE N.length ds, fp, h1, h2, body_in h5 (h0.trans h4.symm) (by rw [h4, hn]; exact hN) (fun i hi => by rw [h2] at hi; rw [h0]; exact hmu i hi) h3, ?_⟩
  have e : endDef s.mu (r n (startE N.length ds)) = s.run ds := en
  have hms : ∀ j, s.mu = some j → j < s.n := hmu
  cases er : r n (startE N.length ds) with
  | stuck => rw [er] at e; exact absurd e.symm hst
  | exc x E' =>
    rw [er] at e
    rw [← e] at h7
    intro σ' G' H' fp' dx S' rx
    exact h7 G' H' _ dx (body_out h0 h2 hms h3 S') rx
  | ok a =>
    obtain ⟨fl, E'⟩ := a
    rw [er] at e
    cases fl with
    | bk => exact absurd e.symm hst
    | ct => exact absurd e.symm hst
    | nx =>
      rw [← e] at h7
      intro σ' G' H' fp' S'
      exact h7 .non G' H' _ [] (body_out h0 h2 hms h3 S') .non .nil
    | rt d =>
      rw [← e] at h7
      intro v σ' G' H' fp' q S' rv wv
      exact h7 v G' H' _ q (body_out h0 h2 hms h3 S') rv wv.toOut
/-- a promise for less -/
theorem fnD_mono {f : Addr} {fd : FuncData} {ps : List Str} {k : Nat} {s t : FS} (h : s.le t) (F : FnOk P w K mg base (L2.CX P w) k f fd ps (spD K t)) : FnOk P w K mg base (L2.CX P w) k f fd ps (spD K s) := F.imp fun vs H Q E => spD.mono h vs H Q E
end
end DV

namespace DV
open PySem L2

/-! ### list comprehensions -/
@[simp] def clr : List Nat → Env → Env
  | [], E => E
  | i :: vs, E => (clr vs E).set i none
/-- the own names' slots as they were -/
@[simp] def back : List Nat → Env → Env → Env
  | [], _, E => E
  | i :: vs, E0, E => (back vs E0 E).set i (match E0[i]? with
    | some o => o
    | none => none)
theorem clr_length (E : Env) : ∀ vs : List Nat, (clr vs E).length = E.length
  | [] => rfl
  | i :: vs => by unfold clr; rw [List.length_set, clr_length E vs]
theorem back_length (E0 E : Env) : ∀ vs : List Nat, (back vs E0 E).length = E.length
  | [] => rfl
  | i :: vs => by unfold back; rw [List.length_set, back_length E0 E vs]
theorem clr_out {E : Env} {i : Nat} : ∀ {vs : List Nat}, i ∉ vs → (clr vs E)[i]? = E[i]?
  | [], _ => rfl
  | v :: vs, h => by
    unfold clr
    rw [List.getElem?_set_ne (fun z => h (by rw [z]; exact List.mem_cons_self))]
    exact clr_out fun z => h (List.mem_cons_of_mem _ z)
theorem clr_in {E : Env} {i : Nat} {d : D} : ∀ {vs : List Nat}, i ∈ vs → (clr vs E)[i]? ≠ some (some d)
  | v :: vs, h => by
    unfold clr
    by_cases hv : v = i
    · subst hv
      by_cases hl : v < (clr vs E).length
      · rw [List.getElem?_set_self hl]; exact fun z => nomatch z
      · rw [List.getElem?_eq_none (by simpa using hl)]; exact fun z => nomatch z
    · rw [List.getElem?_set_ne hv]
      rcases List.mem_cons.mp h with z | z
      · exact absurd z.symm hv
      · exact clr_in z
theorem back_out {E0 E : Env} {i : Nat} : ∀ {vs : List Nat}, i ∉ vs → (back vs E0 E)[i]? = E[i]?
  | [], _ => rfl
  | v :: vs, h => by
    unfold back
    rw [List.getElem?_set_ne (fun z => h (by rw [z]; exact List.mem_cons_self))]
    exact back_out fun z => h (List.mem_cons_of_mem _ z)
theorem back_in {E0 E : Env} {i : Nat} {d : D} : ∀ {vs : List Nat}, i ∈ vs → (back vs E0 E)[i]? = some (some d) → E0[i]? = some (some d)
  | v :: vs, h, e => by
    unfold back at e
    by_cases hv : v = i
    · subst hv
      by_cases hl : v < (back vs E0 E).length
      · rw [List.getElem?_set_self hl] at e
        have e := Option.some.inj e
        cases q : E0[v]? with
        | none => rw [q] at e; cases e
        | some o => rw [q] at e; rw [show o = some d from e]
      · rw [List.getElem?_eq_none (by simpa using hl)] at e; cases e
    · rw [List.getElem?_set_ne hv] at e
      rcases List.mem_cons.mp h with z | z
      · exact absurd z.symm hv
      · exact back_in z e
theorem back_has {E0 E : Env} {i : Nat} {d : D} : ∀ {vs : List Nat}, i ∈ vs → i < E.length → E0[i]? = some (some d) → (back vs E0 E)[i]? = some (some d)
  | v :: vs, h, hl, e => by
    unfold back
    by_cases hv : v = i
    · subst hv
      rw [List.getElem?_set_self (by rw [back_length]; exact hl), e]
    · rw [List.getElem?_set_ne hv]
      rcases List.mem_cons.mp h with z | z
      · exact absurd z.symm hv
      · exact back_has z hl e
theorem wipe_get {σ : L2.St} {i : Nat} : ∀ {vs : List Nat}, i ∉ vs → (wipe σ vs)[i]? = σ[i]?
  | [], _ => rfl
  | v :: vs, h => by
    unfold wipe
    rw [List.getElem?_set_ne (fun z => h (by rw [z]; exact List.mem_cons_self))]
    exact wipe_get fun z => h (List.mem_cons_of_mem _ z)
theorem wipe_own {σ : L2.St} {i : Nat} : ∀ {vs : List Nat}, i ∈ vs → (wipe σ vs)[i]? = if i < σ.length then some none else none
  | v :: vs, h => by
    unfold wipe
    by_cases hv : v = i
    · subst hv
      by_cases hl : v < σ.length
      · rw [List.getElem?_set_self (by rw [wipe_length]; exact hl), if_pos hl]
      · rw [List.getElem?_eq_none (by rw [List.length_set, wipe_length]; omega), if_neg hl]
    · rw [List.getElem?_set_ne hv]
      rcases List.mem_cons.mp h with z | z
      · exact absurd z.symm hv
      · exact wipe_own z
theorem wipe_eq {σ τ : L2.St} {vs : List Nat} (hl : τ.length = (wipe σ vs).length) (h : ∀ i, i ∉ vs → τ[i]? = (wipe σ vs)[i]?) : wipe τ vs = wipe σ vs := by
  rw [wipe_length] at hl
  apply List.ext_getElem?
  intro i
  by_cases hi : i ∈ vs
  · rw [wipe_own hi, wipe_own hi, hl]
  · rw [wipe_get hi, h i hi]
/-- the frame of a comprehension's block -/
def blkFr (f : Fr) (G H : Hp) (fp : Nat → List Addr) (vs : List Nat) (σ : L2.St) : Fr := { K := f.K, G0 := G, H0 := H, F := fun a => f.F a ∨ ∃ i ∈ vs, a ∈ fp i, pn := fun i => i ∉ vs, σ0 := wipe σ vs }
section
variable [Tb] {f : Fr} {G H G' H' : Hp} {σ σ2 : L2.St} {E E' : Env} {fp fp' : Nat → List Addr} {vs : List Nat}
theorem blk_in (S : SR f G H σ E fp) : SR (blkFr f G H fp vs σ) G H (wipe σ vs) (clr vs E) (fun i => if i ∈ vs then [] else fp i) where
  tab := fun a h => h.elim (fun z => S.tab a (.inl z)) id
  g0 := Same.refl _
  ex := S.ex
  fr := fun a h => by
    rcases h with h | ⟨i, hi, h⟩
    · exact ⟨rfl, (S.fr a h).2.1, (S.fr a h).2.2⟩
    · obtain ⟨g, o, ho, hw⟩ := S.at i a h
      exact ⟨rfl, g, o, ho, hw.notT⟩
  stb := S.stb
  pin := fun i _ => rfl
  slen := rfl
  len := by rw [clr_length, wipe_length]; exact S.len
  slot := fun i d e => by
    by_cases hi : i ∈ vs
    · exact absurd e (clr_in hi)
    · rw [clr_out hi] at e
      rw [if_neg hi, wipe_get hi]
      exact S.slot i d e
  none_ := fun i h => by
    by_cases hi : i ∈ vs
    · rw [if_pos hi]
    · rw [if_neg hi]
      exact S.none_ i fun d e => h d (by rw [clr_out hi]; exact e)
  nd := fun i => by
    show (if i ∈ vs then [] else fp i).Nodup
    split
    · exact List.nodup_nil
    · exact S.nd i
  sep := fun i j a h1 h2 => by
    have h1 : a ∈ (if i ∈ vs then [] else fp i) := h1
    have h2 : a ∈ (if j ∈ vs then [] else fp j) := h2
    split at h1
    · cases h1
    · split at h2
      · cases h2
      · exact S.sep i j a h1 h2
  out := fun i a h z => by
    have h : a ∈ (if i ∈ vs then [] else fp i) := h
    split at h
    · cases h
    · rename_i hi
      rcases z with z | ⟨j, hj, z⟩
      · exact S.out i a h z
      · exact hi (S.sep i j a h z ▸ hj)
/-- a turn's end: the own names' slots are forgotten -/
theorem blk_turn {G1 H1 : Hp} {fp1 : Nat → List Addr} (S : SR (blkFr f G1 H1 fp1 vs σ) G H σ2 E fp) : SR (blkFr f G1 H1 fp1 vs σ) G H (wipe σ vs) (clr vs E) (fun i => if i ∈ vs then [] else fp i) where
  tab := S.tab
  g0 := S.g0
  ex := S.ex
  fr := S.fr
  stb := S.stb
  pin := fun i _ => rfl
  slen := rfl
  len := by rw [clr_length, ← show σ2.length = (wipe σ vs).length from S.slen]; exact S.len
  slot := fun i d e => by
    by_cases hi : i ∈ vs
    · exact absurd e (clr_in hi)
    · rw [clr_out hi] at e
      rw [if_neg hi]
      obtain ⟨v, e1, r⟩ := S.slot i d e
      exact ⟨v, (S.pin i hi).symm.trans e1, r⟩
  none_ := fun i h => by
    by_cases hi : i ∈ vs
    · rw [if_pos hi]
    · rw [if_neg hi]
      exact S.none_ i fun d e => h d (by rw [clr_out hi]; exact e)
  nd := fun i => by
    show (if i ∈ vs then [] else fp i).Nodup
    split
    · exact List.nodup_nil
    · exact S.nd i
  sep := fun i j a h1 h2 => by
    have h1 : a ∈ (if i ∈ vs then [] else fp i) := h1
    have h2 : a ∈ (if j ∈ vs then [] else fp j) := h2
    split at h1
    · cases h1
    · split at h2
      · cases h2
      · exact S.sep i j a h1 h2
  out := fun i a h z => by
    have h : a ∈ (if i ∈ vs then [] else fp i) := h
    split at h
    · cases h
    · exact S.out i a h z
theorem Ow.forget {q : List Addr} (w : Ow f fp q) : Ow f (fun i => if i ∈ vs then [] else fp i) q := w.sub fun i a h => by
  have h : a ∈ (if i ∈ vs then [] else fp i) := h
  split at h
  · cases h
  · exact h
/-- the comprehension's end: the caller's slots -/
theorem blk_out {G1 H1 : Hp} {E1 : Env} {fp1 : Nat → List Addr} (S : SR f G1 H1 σ E1 fp1) (S' : SR (blkFr f G1 H1 fp1 vs σ) G H (wipe σ vs) E fp) (hE : ∀ i ∈ vs, ∀ d, E[i]? ≠ some (some d)) (hl : E.length = E1.length) :
    SR f G H σ (back vs E1 E) (fun i => if i ∈ vs then fp1 i else fp i) ∧ ∀ q, Ow (blkFr f G1 H1 fp1 vs σ) fp q → Ow f (fun i => if i ∈ vs then fp1 i else fp i) q := by
  have own : ∀ i ∈ vs, ∀ a ∈ fp1 i, G a = none ∧ H a = H1 a := fun i hi a ha => by
    obtain ⟨h1, h2, _⟩ := S'.fr a (.inr ⟨i, hi, ha⟩)
    exact ⟨h2, h1⟩
  refine ⟨⟨S.g0.trans S'.g0, S'.ex, fun a h => ?_, S'.stb, S.pin, S.slen, by rw [back_length, hl]; exact S.len, fun i d e => ?_, fun i h => ?_, fun i => ?_, fun i j a h1 h2 => ?_, fun i a h z => ?_, fun a h => S'.tab a (h.imp id fun z => S.tab a (.inr z))⟩, fun q w => ⟨w.nd, fun a ha z => w.out a ha (.inl z), fun a ha i hi => ?_⟩⟩
  · obtain ⟨h1, h2, h3⟩ := S'.fr a (.inl h)
    exact ⟨h1.trans (S.fr a h).1, h2, h3⟩
  · by_cases hi : i ∈ vs
    · have e1 := back_in hi e
      rw [if_pos hi]
      obtain ⟨v, e2, r⟩ := S.slot i d e1
      exact ⟨v, e2, Rp.mono S'.g0 d v _ r (own i hi)⟩
    · rw [back_out hi] at e
      rw [if_neg hi]
      obtain ⟨v, e2, r⟩ := S'.slot i d e
      rw [wipe_get hi] at e2
      exact ⟨v, e2, r⟩
  · by_cases hi : i ∈ vs
    · rw [if_pos hi]
      refine S.none_ i fun d e => h d (back_has hi ?_ e)
      rw [hl]
      exact (List.getElem?_eq_some_iff.mp e).1
    · rw [if_neg hi]
      exact S'.none_ i fun d e => h d (by rw [back_out hi]; exact e)
  · show (if i ∈ vs then fp1 i else fp i).Nodup
    split
    · exact S.nd i
    · exact S'.nd i
  · have h1 : a ∈ (if i ∈ vs then fp1 i else fp i) := h1
    have h2 : a ∈ (if j ∈ vs then fp1 j else fp j) := h2
    by_cases hi : i ∈ vs
    · rw [if_pos hi] at h1
      by_cases hj : j ∈ vs
      · rw [if_pos hj] at h2
        exact S.sep i j a h1 h2
      · rw [if_neg hj] at h2
        exact absurd (.inr ⟨i, hi, h1⟩) (S'.out j a h2)
    · rw [if_neg hi] at h1
      by_cases hj : j ∈ vs
      · rw [if_pos hj] at h2
        exact absurd (.inr ⟨j, hj, h2⟩) (S'.out i a h1)
      · rw [if_neg hj] at h2
        exact S'.sep i j a h1 h2
  · have h : a ∈ (if i ∈ vs then fp1 i else fp i) := h
    split at h
    · exact S.out i a h z
    · exact S'.out i a h (.inl z)
  · have hi : a ∈ (if i ∈ vs then fp1 i else fp i) := hi
    split at hi
    · rename_i hv
      exact w.out a ha (.inr ⟨i, hv, hi⟩)
    · exact w.sep a ha i hi
end
@[simp] def lcStep (acc : List D) (o : Opd × Env × Bool) : Rs (Env × List D) := match toVal o.1 o.2.1 with
  | some (d, E3, _) => if acc.length < sizeLine then .ok (E3, acc ++ [d]) else .stuck
  | none => .stuck
/-- an exception can't leave a comprehension here -/
@[simp] def noX {α : Type} (r : Rs α) : Rs α := match r with
  | .ok a => .ok a
  | _ => .stuck
@[simp] def lcTurn (vs : List Nat) (g : GvR) (t : TvR) (re : EvR) (d : D) (E : Env) (acc : List D) : Rs (Env × List D) := match g d E with
  | none => .stuck
  | some E1 => (noX (t E1)).bind fun b => if b.1 = true then (noX (re b.2.1)).bind fun o => lcStep acc o else .ok (b.2.1, acc)
def lcLoop (vs : List Nat) (g : GvR) (t : TvR) (re : EvR) : List D → Env → List D → Rs (Env × List D)
  | [], E, acc => .ok (E, acc)
  | d :: ds, E, acc => (lcTurn vs g t re d E acc).bind fun r => lcLoop vs g t re ds (clr vs r.1) r.2
@[simp] def rLc (vs : List Nat) (ri : IvR) (g : GvR) (t : TvR) (re : EvR) : EvR := fun E =>
  (ri E).bind fun a => (lcLoop vs g t re a.1 (clr vs a.2) []).bind fun r => if r.1.length = a.2.length then .ok (.val (.lst true r.2), back vs a.2 r.1, true) else .stuck
@[simp] def tYesD : TvR := fun E => .ok (true, E, false)
abbrev W0 : WX := fun _ _ _ _ => False
section
variable [Tb] {X : Cx} {W : WX} {K : PySem.W.Frag}
theorem lcLoop_nox {vs : List Nat} {g : GvR} {t : TvR} {re : EvR} {x : Xc} {E1 : Env} : ∀ (ds : List D) (E : Env) (acc : List D), lcLoop vs g t re ds E acc ≠ .exc x E1
  | [], E, acc => fun z => nomatch z
  | d :: ds, E, acc => fun z => by
    have z : (lcTurn vs g t re d E acc).bind (fun r => lcLoop vs g t re ds (clr vs r.1) r.2) = .exc x E1 := z
    cases h : lcTurn vs g t re d E acc with
    | stuck => rw [h] at z; cases z
    | ok r => rw [h] at z; exact lcLoop_nox ds _ _ z
    | exc y E' =>
      unfold lcTurn at h
      cases hg : g d E with
      | none => rw [hg] at h; cases h
      | some E2 =>
        rw [hg] at h
        have h : (noX (t E2)).bind (fun b => if b.1 = true then (noX (re b.2.1)).bind fun o => lcStep acc o else .ok (b.2.1, acc)) = .exc y E' := h
        cases ht : t E2 with
        | stuck => rw [ht] at h; cases h
        | exc _ _ => rw [ht] at h; cases h
        | ok b =>
          rw [ht] at h
          have h : (if b.1 = true then (noX (re b.2.1)).bind fun o => lcStep acc o else .ok (b.2.1, acc)) = .exc y E' := h
          split at h
          · cases hr : re b.2.1 with
            | stuck => rw [hr] at h; cases h
            | exc _ _ => rw [hr] at h; cases h
            | ok o =>
              rw [hr] at h
              have h : lcStep acc o = .exc y E' := h
              unfold lcStep at h
              split at h
              · split at h <;> cases h
              · cases h
          · cases h
theorem tLc_of {vs : List Nat} {ri : IvR} {g : GvR} {t : TvR} {re : EvR} (σ : L2.St) (H : Hp) (Q : VK) (h : tE K W (rLc vs ri g t re) σ H Q) : tLc (tI K W ri) (tG K (fun i => i ∉ vs) g) (tT K W0 t) (tE K W0 re) vs σ H Q := by
  obtain ⟨f, G, E, fp, ek, S, P⟩ := h
  refine ⟨f, G, E, fp, ek, S, ?_⟩
  unfold rLc at P
  cases ea : ri E with
  | stuck => rw [ea] at P; exact P
  | exc x E' => rw [ea] at P; exact P
  | ok a =>
    obtain ⟨ds, E1⟩ := a
    rw [ea] at P
    intro J G1 H1 fp1 S1 IT Dl hD
    have P : PostE f W σ Q G H E fp ((lcLoop vs g t re ds (clr vs E1) []).bind fun r => if r.1.length = E1.length then .ok (.val (.lst true r.2), back vs E1 r.1, true) else .stuck) := P
    cases el : lcLoop vs g t re ds (clr vs E1) [] with
    | stuck => rw [el] at P; exact P.elim
    | exc x E' => exact absurd el (lcLoop_nox ds _ _)
    | ok r =>
      obtain ⟨Ef, accf⟩ := r
      rw [el] at P
      have P : PostE f W σ Q G H E fp (if Ef.length = E1.length then .ok (.val (.lst true accf), back vs E1 Ef, true) else .stuck) := P
      split at P
      · rename_i hlen
        subst ek
        have SB := blk_in (vs := vs) S1
        have st0 := step_lst (o := .lst []) SB.ex SB.stb (fun z => z) hD
        have S0 := SB.step st0
        have FD : ∀ q, (∀ a ∈ q, a = Dl) → q.Nodup → Ow (blkFr f G1 H1 fp1 vs σ) (fun i => if i ∈ vs then [] else fp1 i) q := fun q hq hn => SB.fresh hn fun p hp => by rw [hq p hp]; exact hD
        refine ⟨fun i m H => m = ds.length - i ∧ i ≤ ds.length ∧ ∃ G E fp acc us q, SR (blkFr f G1 H1 fp1 vs σ) G H (wipe σ vs) E fp ∧ H Dl = some (.lst us) ∧ G Dl = none ∧ RpL f.K G H acc us q ∧ Ow (blkFr f G1 H1 fp1 vs σ) fp (Dl :: q) ∧ lcLoop vs g t re (ds.drop i) E acc = .ok (Ef, accf) ∧ (∀ i ∈ vs, ∀ d, E[i]? ≠ some (some d)),
          ⟨ds.length, by simp, Nat.zero_le _, G1, clr vs E1, _, [], [], [], S0, upd_same, same_none SB.ex hD, by unfold RpL; exact ⟨rfl, rfl⟩, FD [Dl] (fun a h => by simpa using h) (by simp), el, fun i hi d => clr_in hi⟩, ?_⟩
        rintro i m H2 ⟨rfl, hi, G2, E2, fp2, acc, us, q, S2, hDl, gDl, rl, w2, eloop, hown⟩
        by_cases hlt : i < ds.length
        · refine .inr ⟨IT.goes i G2 H2 hlt S2.g0 S2.ex, fun H => ∃ G E fp acc us q, SR (blkFr f G1 H1 fp1 vs σ) G H (wipe σ vs) E fp ∧ H Dl = some (.lst us) ∧ G Dl = none ∧ RpL f.K G H acc us q ∧ Ow (blkFr f G1 H1 fp1 vs σ) fp (Dl :: q) ∧ lcLoop vs g t re (ds.drop (i + 1)) E acc = .ok (Ef, accf) ∧ (∀ i ∈ vs, ∀ d, E[i]? ≠ some (some d)),
            fun H' h => ⟨ds.length - (i + 1), by omega, rfl, hlt, h⟩, fun x H' y => ?_⟩
          have hd : ds[i]? = some ds[i] := List.getElem?_eq_getElem hlt
          obtain ⟨G3, st, r3⟩ := IT.yields i G2 H2 x H' ds[i] hd S2.g0 S2.ex S2.stb y
          have S3 := S2.step st
          have hDl3 : H' Dl = some (.lst us) := st.eh Dl _ hDl trivial
          have gDl3 : G3 Dl = none := (st.old Dl _ hDl trivial).trans gDl
          have rl3 := rl.step st
          have w3 := w2
          have atq : ∀ p ∈ Dl :: q, G3 p = none ∧ ∃ o, H' p = some o ∧ NotT o := fun p hp => by
            rcases List.mem_cons.mp hp with z | z
            · rw [z]; exact ⟨gDl3, _, hDl3, trivial⟩
            · obtain ⟨g', o, ho, hw⟩ := RpL.at acc us q rl3 p z
              exact ⟨g', o, ho, hw.notT⟩
          have S4 := S3.push atq w3
          have atD : ∀ {G5 H5 : Hp} {σ5 : L2.St} {E5 : Env} {fp5 : Nat → List Addr}, SR ((blkFr f G1 H1 fp1 vs σ).push G3 H' (Dl :: q)) G5 H5 σ5 E5 fp5 → SR (blkFr f G1 H1 fp1 vs σ) G5 H5 σ5 E5 fp5 ∧ H5 Dl = some (.lst us) ∧ G5 Dl = none ∧ RpL f.K G5 H5 acc us q ∧ Ow (blkFr f G1 H1 fp1 vs σ) fp5 (Dl :: q) := fun {G5 H5 σ5 E5 fp5} S5 => by
            obtain ⟨w5, k5, s5⟩ := SR.pushed w3 S5
            refine ⟨S3.pop S5, (k5 Dl List.mem_cons_self).2.trans hDl3, (k5 Dl List.mem_cons_self).1, RpL.mono s5 acc us q rl3 fun p hp => k5 p (List.mem_cons_of_mem _ hp), w5⟩
          rw [List.drop_eq_getElem_cons hlt] at eloop
          have eloop : (lcTurn vs g t re ds[i] E2 acc).bind (fun r => lcLoop vs g t re (ds.drop (i + 1)) (clr vs r.1) r.2) = .ok (Ef, accf) := eloop
          cases et : lcTurn vs g t re ds[i] E2 acc with
          | stuck => rw [et] at eloop; cases eloop
          | exc _ _ => rw [et] at eloop; cases eloop
          | ok rt =>
            obtain ⟨E6, acc6⟩ := rt
            rw [et] at eloop
            have eloop : lcLoop vs g t re (ds.drop (i + 1)) (clr vs E6) acc6 = .ok (Ef, accf) := eloop
            unfold lcTurn at et
            refine ⟨(blkFr f G1 H1 fp1 vs σ).push G3 H' (Dl :: q), G3, E2, fp2, ds[i], [], rfl, rfl, S4, r3, .nil, ?_⟩
            cases eg : g ds[i] E2 with
            | none => rw [eg] at et; cases et
            | some E3 =>
              rw [eg] at et
              have et : (noX (t E3)).bind (fun b => if b.1 = true then (noX (re b.2.1)).bind fun o => lcStep acc o else .ok (b.2.1, acc)) = .ok (E6, acc6) := et
              intro σ5 G5 H5 fp5 S5
              refine ⟨wipe_eq S5.slen fun i hi => S5.pin i hi, ?_⟩
              refine ⟨(blkFr f G1 H1 fp1 vs σ).push G3 H' (Dl :: q), G5, E3, fp5, rfl, S5, ?_⟩
              cases ett : t E3 with
              | stuck => rw [ett] at et; cases et
              | exc _ _ => rw [ett] at et; cases et
              | ok b =>
                obtain ⟨b, E4, c4⟩ := b
                rw [ett] at et
                have et : (if b = true then (noX (re E4)).bind fun o => lcStep acc o else .ok (E4, acc)) = .ok (E6, acc6) := et
                intro G6 H6 fp6 S6 k6
                cases b with
                | false =>
                  cases et
                  obtain ⟨S7, d7, g7, r7, w7⟩ := atD S6
                  exact ⟨G6, clr vs _, _, _, us, q, blk_turn S7, d7, g7, r7, w7.forget, eloop, fun i hi d => clr_in hi⟩
                | true =>
                  have et : (noX (re E4)).bind (fun o => lcStep acc o) = .ok (E6, acc6) := et
                  refine ⟨(blkFr f G1 H1 fp1 vs σ).push G3 H' (Dl :: q), G6, E4, fp6, rfl, S6, ?_⟩
                  cases er : re E4 with
                  | stuck => rw [er] at et; cases et
                  | exc _ _ => rw [er] at et; cases et
                  | ok o =>
                    obtain ⟨o, E5, c5⟩ := o
                    rw [er] at et
                    have et : lcStep acc (o, E5, c5) = .ok (E6, acc6) := et
                    intro v8 G8 H8 fp8 q8 S8 O8 w8 k8
                    unfold lcStep at et
                    cases ev : toVal o E5 with
                    | none => rw [show toVal (o, E5, c5).1 (o, E5, c5).2.1 = none from ev] at et; cases et
                    | some pv =>
                      obtain ⟨d, E7, c7⟩ := pv
                      rw [show toVal (o, E5, c5).1 (o, E5, c5).2.1 = some (d, E7, c7) from ev] at et
                      have et : (if acc.length < sizeLine then .ok (E7, acc ++ [d]) else .stuck) = (.ok (E6, acc6) : Rs (Env × List D)) := et
                      split at et
                      · rename_i hz
                        cases et
                        obtain ⟨G9, fp9, S9, s9, k9, b9, r9, z9⟩ := toVal_ok S8 O8 w8 ev
                        have w9 := w8.sub b9
                        obtain ⟨S10, d10, g10, r10, w10⟩ := atD S9
                        refine ⟨us, d10, by rw [r10.len']; exact hz, ?_⟩
                        -- the new item
                        have nDq8 : Dl ∉ q8 := fun z => w9.out Dl z (.inr List.mem_cons_self)
                        have nDq : Dl ∉ q := (List.nodup_cons.mp w10.nd).1
                        have dq : ∀ a ∈ q, a ∉ q8 := fun a ha z => w9.out a z (.inr (List.mem_cons_of_mem _ ha))
                        have w9' : Ow (blkFr f G1 H1 fp1 vs σ) fp9 q8 := ⟨w9.nd, fun a ha z => w9.out a ha (.inl z), w9.sep⟩
                        have wq : Ow (blkFr f G1 H1 fp1 vs σ) fp9 ((Dl :: q) ++ q8) := w10.append w9' fun a ha z => by
                          rcases List.mem_cons.mp ha with y | y
                          · exact nDq8 (y ▸ z)
                          · exact dq a y z
                        -- the list is written: it is nobody's but this frame's
                        have S11 : SR (blkFr f G1 H1 fp1 vs σ) G9 (upd H8 Dl (.lst (us ++ [v8]))) σ5 E6 fp9 := by
                          refine ⟨S10.g0, fun a o h => ?_, fun a h => ?_, fun a o h z => ?_, S10.pin, S10.slen, S10.len, fun j d' e => ?_, S10.none_, S10.nd, S10.sep, S10.out, S10.tabU d10 trivial⟩
                          · have : a ≠ Dl := fun z => by rw [z, g10] at h; cases h
                            rw [upd_ne this]; exact S10.ex a o h
                          · have : a ≠ Dl := fun z => w10.out Dl List.mem_cons_self (z ▸ h)
                            rw [upd_ne this]; exact S10.fr a h
                          · by_cases ha : a = Dl
                            · subst ha; rw [upd_same] at h; cases h; cases z
                            · rw [upd_ne ha] at h; exact S10.stb a o h z
                          · obtain ⟨v, e1, r⟩ := S10.slot j d' e
                            exact ⟨v, e1, r.off fun z => w10.sep Dl List.mem_cons_self j z⟩
                        exact ⟨G9, clr vs E6, _, acc ++ [d], us ++ [v8], q ++ q8, blk_turn S11, upd_same, g10, RpL.append acc (r10.off nDq) (RpL.one.mpr (Rp.off r9 nDq8)), (by rw [← List.cons_append]; exact wq.forget), eloop, fun i hi d => clr_in hi⟩
                      · cases et
        · have e : i = ds.length := by omega
          subst e
          refine .inl ⟨IT.stops G2 H2 S2.g0 S2.ex, ?_⟩
          rw [List.drop_length] at eloop
          have eloop : (.ok (E2, acc) : Rs (Env × List D)) = .ok (Ef, accf) := eloop
          cases eloop
          obtain ⟨Sf, kf⟩ := blk_out S1 S2 hown hlen
          exact P (.ref Dl) G2 H2 _ (Dl :: q) Sf (Rp.own_lst gDl hDl rl) (kf _ w2) fun hc => nomatch hc
      · exact P.elim
theorem tYes_of (σ : L2.St) (H : Hp) (Q : Bool → Hp → Prop) (h : tT K W tYesD σ H Q) : tYes σ H Q := by
  obtain ⟨f, G, E, fp, ek, S, P⟩ := h
  exact P G H fp S fun _ => .refl S
abbrev DTs [Tb] (X : Cx) (W : WX) (ifs : List Expr) (r : TvR) : Prop := PTs X ifs (tT X.K W r)
theorem dts_nil : DTs X W [] tYesD := ⟨fun pins s σ H Q I w => pts_nil.run pins s σ H Q I (tYes_of σ H Q w)⟩
theorem dts_one {c : Expr} {r : TvR} (h : DT X W c r) : DTs X W [c] r := pts_one h
/-- [elt for target in iter if ..] -/
theorem de_lc {elt tg iter : Expr} {ifs : List Expr} {scope : Scope} {own : List (Str × Nat)} {pos : Pos} {ri : IvR} {g : GvR} {t : TvR} {re : EvR} (hc : X.calm = true) (hN : X.N.Nodup) (hi : DI X W tg iter ri) (ok : BlkOk X.N X.env.scope scope own)
    (hg : ∀ (s : Shared) (H : Hp) (C : Addr) (cl : List (Str × Addr)) (fp : List Addr), DG (X.blk s H scope (compEnvC scope cl C X.env) fp) (fun i => i ∉ own.map (·.2)) tg g) (ht : ∀ (s : Shared) (H : Hp) (C : Addr) (cl : List (Str × Addr)) (fp : List Addr), DTs (X.blk s H scope (compEnvC scope cl C X.env) fp) W0 ifs t)
    (he : ∀ (s : Shared) (H : Hp) (C : Addr) (cl : List (Str × Addr)) (fp : List Addr), DE (X.blk s H scope (compEnvC scope cl C X.env) fp) W0 elt re) (hs : ∀ x, foldedSetIterable iter X.env x = pure x := by intro _; rfl) :
    DE X W (.ListComp elt [⟨tg, iter, ifs, 0⟩] scope pos) (rLc (own.map (·.2)) ri g t re) := (pe_lc hc hN hi ok hg ht he hs).weak tLc_of
/-- name = [..] on one line -/
theorem ds_setLc {pn : Nat → Prop} {i : Nat} {y : Str} {py : Pos} {elt tg iter : Expr} {ifs : List Expr} {scope : Scope} {own : List (Str × Nat)} {pos spos : Pos} {ri : IvR} {g : GvR} {t : TvR} {re : EvR} (np : ¬ pn i) (hc : X.calm = true) (hN : X.N.Nodup) (hy : X.N[i]? = some y) (hyl : X.env.scope.names.lookup y = some .local)
    (hsw : swapsWith (.ListComp elt [⟨tg, iter, ifs, 0⟩] scope pos) (some (.Name y py)) spos.line X.env = pure true) (hi : DI X W tg iter ri) (ok : BlkOk X.N X.env.scope scope own)
    (hg : ∀ (s : Shared) (H : Hp) (C : Addr) (cl : List (Str × Addr)) (fp : List Addr), DG (X.blk s H scope (compEnvC scope cl C X.env) fp) (fun i => i ∉ own.map (·.2)) tg g) (ht : ∀ (s : Shared) (H : Hp) (C : Addr) (cl : List (Str × Addr)) (fp : List Addr), DTs (X.blk s H scope (compEnvC scope cl C X.env) fp) W0 ifs t)
    (he : ∀ (s : Shared) (H : Hp) (C : Addr) (cl : List (Str × Addr)) (fp : List Addr), DE (X.blk s H scope (compEnvC scope cl C X.env) fp) W0 elt re) (hs : ∀ x, foldedSetIterable iter X.env x = pure x := by intro _; rfl) :
    DS X pn W (.Assign [.Name y py] (.ListComp elt [⟨tg, iter, ifs, 0⟩] scope pos) spos) (sSet i (rLc (own.map (·.2)) ri g t re)) :=
  (ps_setLc hc hN hy hyl hsw hi ok hg ht he hs).weak fun D σ H h => by
    obtain ⟨f, G, E, fp, ek, ep, S, P⟩ := h
    have := tSet_of (W := W) (K := X.K) (r := rLc (own.map (·.2)) ri g t re) np D σ H ⟨f, G, E, fp, ek, ep, S, P⟩
    exact tLc_of σ H _ this
end
end DV

namespace DV
open PySem L2

/-! ### more operators -/
open Classical in
noncomputable def mulOk (i j : Int) : Bool := decide (CMul i j)
open Classical in
noncomputable def divOk (j : Int) : Bool := @decide (0 < j ∧ j < 1073741824) (Classical.propDecidable _)
noncomputable abbrev opMul : D → D → Option D := opIC (fun i j => mulOk i j) fun i j => .int (i * j)
theorem mulB_ok {i j : Int} (h : nuMulB i j = true) : CMul i j := by
  unfold nuMulB at h
  simp only [Bool.or_eq_true, Bool.and_eq_true, decide_eq_true_eq] at h
  exact h
theorem rp_mul {K : PySem.W.Frag} : RP2 K (rI CMul fun i j => .int (i * j)) opMul := rp_IC (fun _ _ h => @of_decide_eq_true _ (Classical.propDecidable _) h) fun _ _ _ _ => .int _
noncomputable abbrev opFdiv : D → D → Option D := opIC (fun _ j => divOk j) fun i j => .int (i / j)
theorem rp_fdiv {K : PySem.W.Frag} : RP2 K (rI CDiv fun i j => .int (i / j)) opFdiv := rp_IC (fun _ j h => @of_decide_eq_true (0 < j ∧ j < 1073741824) (Classical.propDecidable _) h) fun _ _ _ _ => .int _
@[simp] def opNeg : D → Option D
  | .int i => some (.int (-i))
  | _ => none
theorem rp_neg {K : PySem.W.Frag} : RP1 K (rU fun i => .int (-i)) opNeg := by
  intro G H x a d qa Q ex stb ha eo q
  cases a with
  | int i =>
    cases eo
    exact ⟨i, ha.int_inv, q _ G H [] (.refl ex stb) (.int _) List.nodup_nil fun _ h => nomatch h⟩
  | _ => cases eo
/-! ### == -/
mutual
def D.py : D → Option PyData
  | .non => some .none
  | .bl b => some (.bool b)
  | .int i => some (.int i)
  | .str x => some (.str x)
  | .tup xs => match pyL xs with
    | some ys => some (.tuple ys)
    | none => none
  | .lst _ xs => match pyL xs with
    | some ys => some (.list ys)
    | none => none
  | .obj _ _ _ _ => none
def pyL : List D → Option (List PyData)
  | [] => some []
  | d :: ds => match d.py with
    | some y => (match pyL ds with
      | some ys => some (y :: ys)
      | none => none)
    | none => none
end
mutual
theorem D.py_dp {K : PySem.W.Frag} {G H : Hp} (ex : Same G H) : ∀ (d : D) (v : V) (q : List Addr) (y : PyData), Rp K G H d v q → d.py = some y → Dp K H v y
  | .non, v, q, y, r, e => by
    cases e
    rw [r.non_inv]
    exact .non
  | .bl b, v, q, y, r, e => by
    cases e
    rw [r.bl_inv]
    exact .bl b
  | .int i, v, q, y, r, e => by
    cases e
    rw [r.int_inv]
    exact .int i
  | .str x, v, q, y, r, e => by
    cases e
    rw [r.str_inv]
    exact .str x
  | .tup xs, v, q, y, r, e => by
    have e : (match pyL xs with
      | some ys => some (PyData.tuple ys)
      | none => none) = some y := by rw [← e]; rw [D.py]
    obtain ⟨a, vs, rfl, hs, _, hl⟩ := r.tup_inv ex
    cases ep : pyL xs with
    | none => rw [ep] at e; cases e
    | some ys =>
      rw [ep] at e
      cases e
      exact .tup hs (pyL_dp ex xs vs q ys hl ep)
  | .lst m xs, v, q, y, r, e => by
    have e : (match pyL xs with
      | some ys => some (PyData.list ys)
      | none => none) = some y := by rw [← e]; rw [D.py]
    obtain ⟨a, vs, f, rfl, hs, hl, _⟩ := r.lst_inv ex
    cases ep : pyL xs with
    | none => rw [ep] at e; cases e
    | some ys =>
      rw [ep] at e
      cases e
      exact .lst hs (pyL_dp ex xs vs f ys hl ep)
  | .obj _ _ _ _, v, q, y, r, e => by
    rw [D.py] at e
    cases e
theorem pyL_dp {K : PySem.W.Frag} {G H : Hp} (ex : Same G H) : ∀ (ds : List D) (vs : List V) (q : List Addr) (ys : List PyData), RpL K G H ds vs q → pyL ds = some ys → DpAll K H vs ys
  | [], vs, q, ys, r, e => by
    rw [pyL] at e
    cases e
    rw [r.len0.1]
    exact .nil
  | d :: ds, vs, q, ys, r, e => by
    have e : (match d.py with
      | some y => (match pyL ds with
        | some ys => some (y :: ys)
        | none => none)
      | none => none) = some ys := by rw [← e]; rw [pyL]
    unfold RpL at r
    obtain ⟨v, vs', f1, f2, rfl, rfl, h1, h2⟩ := r
    cases ep : d.py with
    | none => rw [ep] at e; cases e
    | some y =>
      rw [ep] at e
      cases ep2 : pyL ds with
      | none => rw [ep2] at e; cases e
      | some ys' =>
        rw [ep2] at e
        cases e
        exact .cons (D.py_dp ex d v f1 y h1 ep) (pyL_dp ex ds vs' f2 ys' h2 ep2)
end
def D.eqv (a b : D) : Option Bool := match a.py, b.py with
  | some x, some y => if (SeqAt.shaped x && SeqAt.shaped y) = true then some (PyData.eqv x y) else none
  | _, _ => none
@[simp] def opEq (a b : D) : Option D := match a.eqv b with
  | some k => some (.bl k)
  | none => none
@[simp] def opNe (a b : D) : Option D := match a.eqv b with
  | some k => some (.bl (!k))
  | none => none
theorem eqv_inv {a b : D} {k : Bool} (h : a.eqv b = some k) : ∃ x y, a.py = some x ∧ b.py = some y ∧ SeqAt.shaped x = true ∧ SeqAt.shaped y = true ∧ k = PyData.eqv x y := by
  unfold D.eqv at h
  cases ea : a.py with
  | none => rw [ea] at h; cases h
  | some x =>
    cases eb : b.py with
    | none => rw [ea, eb] at h; cases h
    | some y =>
      rw [ea, eb] at h
      have h : (if (SeqAt.shaped x && SeqAt.shaped y) = true then some (PyData.eqv x y) else none) = some k := h
      split at h
      · rename_i hs
        cases h
        have hs' := Bool.and_eq_true_iff.mp hs
        exact ⟨x, y, rfl, rfl, hs'.1, hs'.2, rfl⟩
      · cases h
theorem rp_eq {K : PySem.W.Frag} : RP2 K (rEqD K) opEq := by
  intro G H x y a b d qa qb Q ex stb ha hb eo q
  unfold opEq at eo
  cases ee : a.eqv b with
  | none => rw [ee] at eo; cases eo
  | some k =>
    rw [ee] at eo
    cases eo
    obtain ⟨u, w, e1, e2, s1, s2, rfl⟩ := eqv_inv ee
    exact ⟨u, w, D.py_dp ex a x qa u ha e1, D.py_dp ex b y qb w hb e2, s1, s2, q _ G H [] (.refl ex stb) (.bl _) List.nodup_nil fun _ h => nomatch h⟩
theorem rp_ne {K : PySem.W.Frag} : RP2 K (rNeD K) opNe := by
  intro G H x y a b d qa qb Q ex stb ha hb eo q
  unfold opNe at eo
  cases ee : a.eqv b with
  | none => rw [ee] at eo; cases eo
  | some k =>
    rw [ee] at eo
    cases eo
    obtain ⟨u, w, e1, e2, s1, s2, rfl⟩ := eqv_inv ee
    exact ⟨u, w, D.py_dp ex a x qa u ha e1, D.py_dp ex b y qb w hb e2, s1, s2, q _ G H [] (.refl ex stb) (.bl _) List.nodup_nil fun _ h => nomatch h⟩
@[simp] def D.isNon : D → Bool
  | .non => true
  | _ => false
theorem Rp.non_dec {K : PySem.W.Frag} {G H : Hp} {d : D} {v : V} {q : List Addr} (ex : Same G H) (r : Rp K G H d v q) : decide (v = .non) = d.isNon := by
  cases d with
  | non => rw [r.non_inv]; rfl
  | bl b => rw [r.bl_inv]; rfl
  | int b => rw [r.int_inv]; rfl
  | str b => rw [r.str_inv]; rfl
  | tup xs =>
    obtain ⟨a, xs, rfl, _⟩ := r.tup_inv ex
    rfl
  | lst m xs =>
    obtain ⟨a, xs, f, rfl, _⟩ := r.lst_inv ex
    rfl
  | obj m C ns xs =>
    unfold Rp at r
    obtain ⟨a, dx, vs, h, _⟩ := r
    subst h
    rfl
@[simp] def opIsN : D → D → Option D
  | d, .non => some (.bl d.isNon)
  | _, _ => none
@[simp] def opNotN : D → D → Option D
  | d, .non => some (.bl (!d.isNon))
  | _, _ => none
theorem rp_isN {K : PySem.W.Frag} : RP2 K (fun x y H Q => y = .non ∧ Q (.bl (decide (x = .non))) H) opIsN := by
  intro G H x y a b d qa qb Q ex stb ha hb eo q
  cases b with
  | non =>
    cases eo
    refine ⟨hb.non_inv, ?_⟩
    rw [ha.non_dec ex]
    exact q _ G H [] (.refl ex stb) (.bl _) List.nodup_nil fun _ h => nomatch h
  | _ => cases eo
theorem rp_notN {K : PySem.W.Frag} : RP2 K (fun x y H Q => y = .non ∧ Q (.bl (!decide (x = .non))) H) opNotN := by
  intro G H x y a b d qa qb Q ex stb ha hb eo q
  cases b with
  | non =>
    cases eo
    refine ⟨hb.non_inv, ?_⟩
    rw [ha.non_dec ex]
    exact q _ G H [] (.refl ex stb) (.bl _) List.nodup_nil fun _ h => nomatch h
  | _ => cases eo
end DV

namespace DV
open PySem L2

/-! ### lists of ints -/
def intsD : List D → Option (List Int)
  | [] => some []
  | .int i :: ds => (match intsD ds with
    | some ns => some (i :: ns)
    | none => none)
  | _ :: _ => none
theorem intsD_map : ∀ ns : List Int, intsD (ns.map D.int) = some ns
  | [] => rfl
  | n :: ns => by
    show (match intsD (ns.map D.int) with
      | some ns => some (n :: ns)
      | none => none) = _
    rw [intsD_map ns]
theorem intsD_inv : ∀ {ds : List D} {ns : List Int}, intsD ds = some ns → ds = ns.map D.int
  | [], ns, h => by cases h; rfl
  | .int i :: ds, ns, h => by
    have h : (match intsD ds with
      | some ns => some (i :: ns)
      | none => none) = some ns := h
    cases e : intsD ds with
    | none => rw [e] at h; cases h
    | some ms =>
      rw [e] at h
      cases h
      rw [intsD_inv e]
      rfl
  | .non :: _, _, h => nomatch h
  | .bl _ :: _, _, h => nomatch h
  | .str _ :: _, _, h => nomatch h
  | .tup _ :: _, _, h => nomatch h
  | .lst _ _ :: _, _, h => nomatch h
  | .obj _ _ _ _ :: _, _, h => nomatch h
section
variable {K : PySem.W.Frag} {G H : Hp}
theorem RpL.ints : ∀ {ns : List Int} {vs : List V} {q : List Addr}, RpL K G H (ns.map D.int) vs q → vs = ns.map V.int
  | [], vs, q, h => h.len0.1
  | n :: ns, vs, q, h => by
    have h : RpL K G H (D.int n :: ns.map D.int) vs q := h
    unfold RpL at h
    obtain ⟨v, r, f1, f2, rfl, rfl, h1, h2⟩ := h
    rw [h1.int_inv, RpL.ints h2]
    rfl
theorem RpL.ofInts : ∀ (ns : List Int), RpL K G H (ns.map D.int) (ns.map V.int) []
  | [] => by
    unfold RpL
    exact ⟨rfl, rfl⟩
  | n :: ns => by
    show RpL K G H (D.int n :: ns.map D.int) _ _
    unfold RpL
    exact ⟨.int n, ns.map V.int, [], [], rfl, rfl, .int n, RpL.ofInts ns⟩
theorem RpA.one {ds : List D} {vs : List V} {d : D} (h : RpA K G H [d] vs) : ∃ v q, vs = [v] ∧ Rp K G H d v q := by
  obtain ⟨v, r, rfl, ⟨q, hq⟩, hr⟩ := h
  cases (show r = [] from hr)
  exact ⟨v, q, rfl, hq⟩
theorem RpA.two {vs : List V} {d e : D} (h : RpA K G H [d, e] vs) : ∃ v q w p, vs = [v, w] ∧ Rp K G H d v q ∧ Rp K G H e w p := by
  obtain ⟨v, r, rfl, ⟨q, hq⟩, hr⟩ := h
  obtain ⟨w, p, rfl, hp⟩ := RpA.one (ds := []) hr
  exact ⟨v, q, w, p, rfl, hq, hp⟩
theorem RpA.three {vs : List V} {d e g : D} (h : RpA K G H [d, e, g] vs) : ∃ v q w p x o, vs = [v, w, x] ∧ Rp K G H d v q ∧ Rp K G H e w p ∧ Rp K G H g x o := by
  obtain ⟨v, r, rfl, ⟨q, hq⟩, hr⟩ := h
  obtain ⟨w, p, x, o, rfl, hp, ho⟩ := RpA.two hr
  exact ⟨v, q, w, p, x, o, rfl, hq, hp, ho⟩
end
/-! ### built-ins -/
@[simp] def bLen : List D → Option D
  | [.lst _ xs] => some (.int xs.length)
  | [.tup xs] => some (.int xs.length)
  | [.str z] => if z.length ≤ sizeLine then some (.int z.length) else none
  | _ => none
def rLen (K : PySem.W.Frag) : List V → Hp → VK → Prop := fun xs H Q => (∃ p ys, xs = [.ref p] ∧ (SqL K H p ys ∨ SqT K H p ys) ∧ Q (.int ys.length) H) ∨ ∃ z, xs = [.str z] ∧ z.length ≤ sizeLine ∧ Q (.int z.length) H
theorem call_len {X : Cx} : CallR X (.builtin "len") (rLen X.K) := call_len_seq.or call_len_str
section
variable {K : PySem.W.Frag}
theorem rp_len : RPn K (rLen K) bLen := by
  intro G H vs ds d Q ex stb ha eo q
  have fin : ∀ i : Int, d = .int i → Q (.int i) H := fun i e => by
    subst e
    exact q _ G H [] (.refl ex stb) (.int _) List.nodup_nil fun _ h => nomatch h
  match ds, ha, eo with
  | [.lst m xs], ha, eo =>
    cases eo
    obtain ⟨v, p, rfl, r⟩ := RpA.one (ds := []) ha
    obtain ⟨a, ys, f, rfl, h1, h2, _⟩ := r.lst_inv ex
    exact .inl ⟨a, ys, rfl, .inl h1, fin _ (by rw [RpL.len _ _ _ h2])⟩
  | [.tup xs], ha, eo =>
    cases eo
    obtain ⟨v, p, rfl, r⟩ := RpA.one (ds := []) ha
    obtain ⟨a, ys, rfl, h1, _, h2⟩ := r.tup_inv ex
    exact .inl ⟨a, ys, rfl, .inr h1, fin _ (by rw [RpL.len _ _ _ h2])⟩
  | [.str z], ha, eo =>
    have eo : (if z.length ≤ sizeLine then some (D.int z.length) else none) = some d := eo
    split at eo
    · cases eo
      obtain ⟨v, p, rfl, r⟩ := RpA.one (ds := []) ha
      rw [r.str_inv]
      exact .inr ⟨z, rfl, by assumption, fin _ rfl⟩
    · cases eo
  | [.non], _, eo => exact nomatch eo
  | [.bl _], _, eo => exact nomatch eo
  | [.int _], _, eo => exact nomatch eo
  | [.obj _ _ _ _], _, eo => exact nomatch eo
  | [], _, eo => exact nomatch eo
  | a :: _ :: _, _, eo => cases a <;> exact nomatch eo
/-- the list elements of one list or tuple argument -/
@[simp] def seq1 : List D → Option (Bool × List D)
  | [.lst _ xs] => some (true, xs)
  | [.tup xs] => some (false, xs)
  | _ => none
theorem seq1_inv {ds : List D} {b : Bool} {xs : List D} (h : seq1 ds = some (b, xs)) : (b = true ∧ ∃ m, ds = [.lst m xs]) ∨ (b = false ∧ ds = [.tup xs]) := by
  match ds, h with
  | [.lst m xs], h => cases h; exact .inl ⟨rfl, m, rfl⟩
  | [.tup xs], h => cases h; exact .inr ⟨rfl, rfl⟩
  | [.non], h => exact nomatch h
  | [.bl _], h => exact nomatch h
  | [.int _], h => exact nomatch h
  | [.str _], h => exact nomatch h
  | [.obj _ _ _ _], h => exact nomatch h
  | [], h => exact nomatch h
  | a :: _ :: _, h => cases a <;> exact nomatch h
theorem seq1_rep {G H : Hp} {ds : List D} {b : Bool} {xs : List D} {vs : List V} (ex : Same G H) (h : seq1 ds = some (b, xs)) (ha : RpA K G H ds vs) : ∃ a ys q, vs = [.ref a] ∧ RpL K G H xs ys q ∧ (b = true → SqL K H a ys) ∧ (b = false → SqT K H a ys ∧ SqT K G a ys) := by
  rcases seq1_inv h with ⟨rfl, m, rfl⟩ | ⟨rfl, rfl⟩
  · obtain ⟨v, p, rfl, r⟩ := RpA.one (ds := []) ha
    obtain ⟨a, ys, f, rfl, h1, h2, _⟩ := r.lst_inv ex
    exact ⟨a, ys, f, rfl, h2, fun _ => h1, fun z => nomatch z⟩
  · obtain ⟨v, p, rfl, r⟩ := RpA.one (ds := []) ha
    obtain ⟨a, ys, rfl, h1, h3, h2⟩ := r.tup_inv ex
    exact ⟨a, ys, p, rfl, h2, fun z => (nomatch z), fun _ => ⟨h1, h3⟩⟩
@[simp] def bList (ds : List D) : Option D := match seq1 ds with
  | some (_, xs) => if fzdL xs = true then some (.lst true xs) else none
  | none => none
@[simp] def bTuple (ds : List D) : Option D := match seq1 ds with
  | some (_, xs) => if fzdL xs = true then some (.tup xs) else none
  | none => none
theorem rp_list : RPn K (fun xs H Q => ∃ p ys, xs = [.ref p] ∧ (SqL K H p ys ∨ SqT K H p ys) ∧ ∀ l, H l = none → Q (.ref l) (upd H l (.lst ys))) bList := by
  intro G H vs ds d Q ex stb ha eo q
  unfold bList at eo
  cases es : seq1 ds with
  | none => rw [es] at eo; cases eo
  | some bx =>
    obtain ⟨b, xs⟩ := bx
    rw [es] at eo
    have eo : (if fzdL xs = true then some (D.lst true xs) else none) = some d := eo
    split at eo
    · rename_i hz
      cases eo
      obtain ⟨a, ys, q0, rfl, hl, h1, h2⟩ := seq1_rep ex es ha
      have hl := hl.fz0 hz
      refine ⟨a, ys, rfl, ?_, fun l hp => ?_⟩
      · cases b with
        | true => exact .inl (h1 rfl)
        | false => exact .inr (h2 rfl).1
      · exact q _ G _ [l] (step_lst ex stb (fun z => z) hp) (Rp.newLst ex hp hl) (by simp) fun r hr => by
          have : r = l := by simpa using hr
          rw [this]; exact hp
    · cases eo
theorem rp_tuple : RPn K (fun xs H Q => ∃ p ys, xs = [.ref p] ∧ ((SqL K H p ys ∧ ∀ l, H l = none → Q (.ref l) (upd H l (.tup ys))) ∨ (SqT K H p ys ∧ Q (.ref p) H))) bTuple := by
  intro G H vs ds d Q ex stb ha eo q
  unfold bTuple at eo
  cases es : seq1 ds with
  | none => rw [es] at eo; cases eo
  | some bx =>
    obtain ⟨b, xs⟩ := bx
    rw [es] at eo
    have eo : (if fzdL xs = true then some (D.tup xs) else none) = some d := eo
    split at eo
    · rename_i hz
      cases eo
      obtain ⟨a, ys, q0, rfl, hl, h1, h2⟩ := seq1_rep ex es ha
      have hl := hl.fz0 hz
      cases b with
      | true => exact ⟨a, ys, rfl, .inl ⟨h1 rfl, fun l hp => q _ _ _ [] (step_tup ex stb hp) (Rp.newTup ex stb hp hl) List.nodup_nil fun _ h => nomatch h⟩⟩
      | false =>
        refine ⟨a, ys, rfl, .inr ⟨(h2 rfl).1, q _ G H [] (.refl ex stb) ?_ List.nodup_nil fun _ h => nomatch h⟩⟩
        unfold Rp
        exact ⟨a, ys, rfl, (h2 rfl).2, hl⟩
    · cases eo
/-! sorted, min, max, sum of ints -/
def ins1 (n : Int) : List Int → List Int
  | [] => [n]
  | m :: ms => if n ≤ m then n :: m :: ms else m :: ins1 n ms
def sortI : List Int → List Int
  | [] => []
  | n :: ns => ins1 n (sortI ns)
theorem ins1_perm (n : Int) : ∀ ms : List Int, (ins1 n ms).Perm (n :: ms)
  | [] => .refl _
  | m :: ms => by
    unfold ins1
    split
    · exact .refl _
    · exact ((ins1_perm n ms).cons m).trans (.swap n m ms)
theorem sortI_perm : ∀ ns : List Int, (sortI ns).Perm ns
  | [] => .refl _
  | n :: ns => (ins1_perm n _).trans ((sortI_perm ns).cons n)
theorem ins1_sorted (n : Int) : ∀ ms : List Int, ms.Pairwise (· ≤ ·) → (ins1 n ms).Pairwise (· ≤ ·)
  | [], _ => List.pairwise_singleton _ _
  | m :: ms, h => by
    obtain ⟨h1, h2⟩ := List.pairwise_cons.mp h
    unfold ins1
    split
    · rename_i hle
      refine List.pairwise_cons.mpr ⟨fun a ha => ?_, h⟩
      rcases List.mem_cons.mp ha with rfl | ha
      · exact hle
      · exact Int.le_trans hle (h1 a ha)
    · rename_i hle
      refine List.pairwise_cons.mpr ⟨fun a ha => ?_, ins1_sorted n ms h2⟩
      rcases List.mem_cons.mp ((ins1_perm n ms).mem_iff.mp ha) with rfl | ha
      · omega
      · exact h1 a ha
theorem sortI_sorted : ∀ ns : List Int, (sortI ns).Pairwise (· ≤ ·)
  | [] => .nil
  | n :: ns => ins1_sorted n _ (sortI_sorted ns)
theorem sorted_uniq : ∀ {xs ys : List Int}, xs.Perm ys → xs.Pairwise (· ≤ ·) → ys.Pairwise (· ≤ ·) → xs = ys
  | [], ys, p, _, _ => (List.nil_perm.mp p).symm
  | x :: xs, [], p, _, _ => by simpa using p.length_eq
  | x :: xs, y :: ys, p, hx, hy => by
    obtain ⟨a1, a2⟩ := List.pairwise_cons.mp hx
    obtain ⟨b1, b2⟩ := List.pairwise_cons.mp hy
    have h1 : x ≤ y := by
      rcases List.mem_cons.mp (p.mem_iff.mpr List.mem_cons_self) with h | h
      · omega
      · exact a1 y h
    have h2 : y ≤ x := by
      rcases List.mem_cons.mp (p.mem_iff.mp List.mem_cons_self) with h | h
      · omega
      · exact b1 x h
    have : x = y := by omega
    subst this
    rw [sorted_uniq (List.Perm.cons_inv p) a2 b2]
def bSorted (ds : List D) : Option D := match ds with
  | [.lst _ xs] => (match intsD xs with
    | some ns => some (.lst true ((sortI ns).map D.int))
    | none => none)
  | _ => none
/-- one list of ints -/
def ints1 (ds : List D) : Option (List Int) := match ds with
  | [.lst _ xs] => intsD xs
  | _ => none
theorem ints1_rep {G H : Hp} {ds : List D} {ns : List Int} {vs : List V} (ex : Same G H) (h : ints1 ds = some ns) (ha : RpA K G H ds vs) : ∃ a, vs = [.ref a] ∧ SqL K H a (ns.map V.int) := by
  match ds, h, ha with
  | [.lst m xs], h, ha =>
    have h : intsD xs = some ns := h
    have := intsD_inv h
    subst this
    obtain ⟨v, p, rfl, r⟩ := RpA.one (ds := []) ha
    obtain ⟨a, ys, f, rfl, h1, h2, _⟩ := r.lst_inv ex
    have := h2.ints
    subst this
    exact ⟨a, rfl, h1⟩
  | [.tup xs], h, _ => exact nomatch h
  | [.non], h, _ => exact nomatch h
  | [.bl _], h, _ => exact nomatch h
  | [.int _], h, _ => exact nomatch h
  | [.str _], h, _ => exact nomatch h
  | [.obj _ _ _ _], h, _ => exact nomatch h
  | [], h, _ => exact nomatch h
  | a :: _ :: _, h, _ => cases a <;> exact nomatch h
theorem bSorted_eq (ds : List D) : bSorted ds = (ints1 ds).map fun ns => .lst true ((sortI ns).map D.int) := by
  match ds with
  | [.lst m xs] =>
    show (match intsD xs with
      | some ns => some (D.lst true ((sortI ns).map D.int))
      | none => none) = (intsD xs).map _
    cases intsD xs <;> rfl
  | [.tup xs] => rfl
  | [.non] => rfl
  | [.bl _] => rfl
  | [.int _] => rfl
  | [.str _] => rfl
  | [.obj _ _ _ _] => rfl
  | [] => rfl
  | a :: _ :: _ => cases a <;> rfl
theorem rp_sorted : RPn K (rSortedI K) bSorted := by
  intro G H vs ds d Q ex stb ha eo q
  rw [bSorted_eq] at eo
  cases es : ints1 ds with
  | none => rw [es] at eo; cases eo
  | some ns =>
    rw [es] at eo
    cases eo
    obtain ⟨a, rfl, hs⟩ := ints1_rep ex es ha
    refine ⟨a, ns, rfl, hs, fun ns' p h1 h2 hp => ?_⟩
    have : ns' = sortI ns := sorted_uniq (h1.trans (sortI_perm ns).symm) h2 (sortI_sorted ns)
    subst this
    exact q _ G _ [p] (step_lst ex stb (fun z => z) hp) (Rp.newLst ex hp (RpL.ofInts _)) (by simp) fun r hr => by
      have : r = p := by simpa using hr
      rw [this]; exact hp
def maxL (n : Int) (ns : List Int) : Int := ns.foldl (fun a b => if b > a then b else a) n
def minL (n : Int) (ns : List Int) : Int := ns.foldl (fun a b => if b < a then b else a) n
theorem maxL_spec : ∀ (ns : List Int) (n : Int), maxL n ns ∈ n :: ns ∧ ∀ y ∈ n :: ns, y ≤ maxL n ns
  | [], n => ⟨by simp [maxL], by simp [maxL]⟩
  | m :: ms, n => by
    obtain ⟨h1, h2⟩ := maxL_spec ms (if m > n then m else n)
    refine ⟨?_, fun y hy => ?_⟩
    · show maxL (if m > n then m else n) ms ∈ _
      rcases List.mem_cons.mp h1 with h | h
      · rw [h]; split <;> simp
      · simp [h]
    · show y ≤ maxL (if m > n then m else n) ms
      have h3 := h2 _ List.mem_cons_self
      rcases List.mem_cons.mp hy with rfl | hy
      · split at h3 <;> split <;> omega
      · rcases List.mem_cons.mp hy with rfl | hy
        · split at h3 <;> split <;> omega
        · exact h2 y (List.mem_cons_of_mem _ hy)
theorem minL_spec : ∀ (ns : List Int) (n : Int), minL n ns ∈ n :: ns ∧ ∀ y ∈ n :: ns, minL n ns ≤ y
  | [], n => ⟨by simp [minL], by simp [minL]⟩
  | m :: ms, n => by
    obtain ⟨h1, h2⟩ := minL_spec ms (if m < n then m else n)
    refine ⟨?_, fun y hy => ?_⟩
    · show minL (if m < n then m else n) ms ∈ _
      rcases List.mem_cons.mp h1 with h | h
      · rw [h]; split <;> simp
      · simp [h]
    · show minL (if m < n then m else n) ms ≤ y
      have h3 := h2 _ List.mem_cons_self
      rcases List.mem_cons.mp hy with rfl | hy
      · split at h3 <;> split <;> omega
      · rcases List.mem_cons.mp hy with rfl | hy
        · split at h3 <;> split <;> omega
        · exact h2 y (List.mem_cons_of_mem _ hy)
theorem maxL_uniq {n m : Int} {ns : List Int} (h1 : m ∈ n :: ns) (h2 : ∀ y ∈ n :: ns, y ≤ m) : m = maxL n ns := by
  obtain ⟨a, b⟩ := maxL_spec ns n
  have := b m h1
  have := h2 _ a
  omega
theorem minL_uniq {n m : Int} {ns : List Int} (h1 : m ∈ n :: ns) (h2 : ∀ y ∈ n :: ns, m ≤ y) : m = minL n ns := by
  obtain ⟨a, b⟩ := minL_spec ns n
  have := b m h1
  have := h2 _ a
  omega
/-- two or three ints, or one list of some -/
@[simp] def intsA (ds : List D) : Option (Int × List Int) := match ds with
  | [.int a, .int b] => some (a, [b])
  | [.int a, .int b, .int c] => some (a, [b, c])
  | ds => (match ints1 ds with
    | some (n :: ns) => some (n, ns)
    | _ => none)
def bMax (ds : List D) : Option D := (intsA ds).map fun p => .int (maxL p.1 p.2)
def bMin (ds : List D) : Option D := (intsA ds).map fun p => .int (minL p.1 p.2)
theorem intsA_inv {ds : List D} {p : Int × List Int} (h : intsA ds = some p) : (∃ a b, ds = [.int a, .int b] ∧ p = (a, [b])) ∨ (∃ a b c, ds = [.int a, .int b, .int c] ∧ p = (a, [b, c])) ∨ ints1 ds = some (p.1 :: p.2) := by
  unfold intsA at h
  split at h
  · cases h; exact .inl ⟨_, _, rfl, rfl⟩
  · cases h; exact .inr (.inl ⟨_, _, _, rfl, rfl⟩)
  · split at h
    · cases h; exact .inr (.inr (by assumption))
    · cases h
def rMaxA (K : PySem.W.Frag) : List V → Hp → VK → Prop := fun xs H Q => (∃ i j, xs = [.int i, .int j] ∧ Q (.int (if j > i then j else i)) H) ∨ rNuC3 nuMax3 xs H Q ∨ rMax K xs H Q
def rMinA (K : PySem.W.Frag) : List V → Hp → VK → Prop := fun xs H Q => (∃ i j, xs = [.int i, .int j] ∧ Q (.int (if j < i then j else i)) H) ∨ rNuC3 nuMin3 xs H Q ∨ rMin K xs H Q
theorem call_max {X : Cx} (hc : X.calm = true) : CallR X (.builtin "max") (rMaxA X.K) := (call_max2 hc).or ((call_max3Nu hc).or (cr_max hc))
theorem call_min {X : Cx} (hc : X.calm = true) : CallR X (.builtin "min") (rMinA X.K) := (call_min2 hc).or ((call_min3Nu hc).or (cr_min hc))
theorem rp_max : RPn K (rMaxA K) bMax := by
  intro G H vs ds d Q ex stb ha eo q
  unfold bMax at eo
  cases es : intsA ds with
  | none => rw [es] at eo; cases eo
  | some p =>
    rw [es] at eo
    cases eo
    have q := q (.int (maxL p.1 p.2)) G H [] (.refl ex stb) (.int _) List.nodup_nil fun _ h => nomatch h
    rcases intsA_inv es with ⟨a, b, rfl, rfl⟩ | ⟨a, b, c, rfl, rfl⟩ | h
    · obtain ⟨v, _, w, _, rfl, h1, h2⟩ := RpA.two ha
      rw [h1.int_inv, h2.int_inv]
      exact .inl ⟨a, b, rfl, q⟩
    · obtain ⟨v, _, w, _, x, _, rfl, h1, h2, h3⟩ := RpA.three ha
      rw [h1.int_inv, h2.int_inv, h3.int_inv]
      refine .inr (.inl ⟨_, _, _, .int (maxL a [b, c]), rfl, ?_, q⟩)
      unfold maxL nuMax3 nuMax2 nuLt nuCB
      simp only [Option.map, Option.bind, List.foldl]
      by_cases h1 : a < b <;> simp [h1] <;> split <;> simp_all
    · obtain ⟨a, rfl, hs⟩ := ints1_rep ex h ha
      refine .inr (.inr ⟨a, _, rfl, hs, by simp, fun m h1 h2 => ?_⟩)
      rw [maxL_uniq h1 h2]
      exact q
theorem rp_min : RPn K (rMinA K) bMin := by
  intro G H vs ds d Q ex stb ha eo q
  unfold bMin at eo
  cases es : intsA ds with
  | none => rw [es] at eo; cases eo
  | some p =>
    rw [es] at eo
    cases eo
    have q := q (.int (minL p.1 p.2)) G H [] (.refl ex stb) (.int _) List.nodup_nil fun _ h => nomatch h
    rcases intsA_inv es with ⟨a, b, rfl, rfl⟩ | ⟨a, b, c, rfl, rfl⟩ | h
    · obtain ⟨v, _, w, _, rfl, h1, h2⟩ := RpA.two ha
      rw [h1.int_inv, h2.int_inv]
      exact .inl ⟨a, b, rfl, q⟩
    · obtain ⟨v, _, w, _, x, _, rfl, h1, h2, h3⟩ := RpA.three ha
      rw [h1.int_inv, h2.int_inv, h3.int_inv]
      refine .inr (.inl ⟨_, _, _, .int (minL a [b, c]), rfl, ?_, q⟩)
      unfold minL nuMin3 nuMin2 nuLt nuCB
      simp only [Option.map, Option.bind, List.foldl]
      by_cases h1 : b < a <;> simp [h1] <;> split <;> simp_all
    · obtain ⟨a, rfl, hs⟩ := ints1_rep ex h ha
      refine .inr (.inr ⟨a, _, rfl, hs, by simp, fun m h1 h2 => ?_⟩)
      rw [minL_uniq h1 h2]
      exact q
def bSum (ds : List D) : Option D := (ints1 ds).map fun ns => .int ns.sum
theorem rp_sum : RPn K (rSum K) bSum := by
  intro G H vs ds d Q ex stb ha eo q
  unfold bSum at eo
  cases es : ints1 ds with
  | none => rw [es] at eo; cases eo
  | some ns =>
    rw [es] at eo
    cases eo
    obtain ⟨a, rfl, hs⟩ := ints1_rep ex es ha
    exact ⟨a, ns, rfl, hs, q _ G H [] (.refl ex stb) (.int _) List.nodup_nil fun _ h => nomatch h⟩
@[simp] def bAbs : List D → Option D
  | [.int i] => some (.int (if i < 0 then -i else i))
  | _ => none
theorem rp_abs : RPn K (fun xs H Q => ∃ i, xs = [.int i] ∧ Q (.int (if i < 0 then -i else i)) H) bAbs := by
  intro G H vs ds d Q ex stb ha eo q
  unfold bAbs at eo
  split at eo
  · cases eo
    obtain ⟨v, _, rfl, h1⟩ := RpA.one (ds := []) ha
    rw [h1.int_inv]
    exact ⟨_, rfl, q _ G H [] (.refl ex stb) (.int _) List.nodup_nil fun _ h => nomatch h⟩
  · cases eo
@[simp] def bInt : List D → Option D
  | [.int i] => some (.int i)
  | [.bl k] => some (.int (if k then 1 else 0))
  | _ => none
theorem rp_int : RPn K (fun xs H Q => (∃ i, xs = [.int i] ∧ Q (.int i) H) ∨ ∃ k, xs = [.bl k] ∧ Q (.int (if k then 1 else 0)) H) bInt := by
  intro G H vs ds d Q ex stb ha eo q
  unfold bInt at eo
  split at eo
  · cases eo
    obtain ⟨v, _, rfl, h1⟩ := RpA.one (ds := []) ha
    rw [h1.int_inv]
    exact .inl ⟨_, rfl, q _ G H [] (.refl ex stb) (.int _) List.nodup_nil fun _ h => nomatch h⟩
  · cases eo
    obtain ⟨v, _, rfl, h1⟩ := RpA.one (ds := []) ha
    rw [h1.bl_inv]
    exact .inr ⟨_, rfl, q _ G H [] (.refl ex stb) (.int _) List.nodup_nil fun _ h => nomatch h⟩
  · cases eo
end
end DV

namespace DV
open PySem L2

/-! ### isinstance -/
inductive Tn where
  | int | bool | str | list | tuple
def Tn.str' : Tn → String
  | .int => "int"
  | .bool => "bool"
  | .str => "str"
  | .list => "list"
  | .tuple => "tuple"
@[simp] def D.isTn : Tn → D → Option Bool
  | _, .non => some false
  | .bool, .bl _ => some true
  | .int, .bl _ => some true
  | .int, .int _ => some true
  | .str, .str _ => some true
  | .list, .lst _ _ => some true
  | .tuple, .tup _ => some true
  | _, .obj _ _ _ _ => none
  | _, _ => some false
def tyName : D → String
  | .non => "NoneType"
  | .bl _ => "bool"
  | .int _ => "int"
  | .str _ => "str"
  | .tup _ => "tuple"
  | .lst _ _ => "list"
  | .obj _ _ _ _ => ""
theorem kit_tab : ∀ (t : Tn) (d : D) (b : Bool), d.isTn t = some b → kitB (tyName d) t.str' = some b := by
  intro t d b h
  cases t <;> cases d <;> cases h <;> simp only [tyName, Tn.str'] <;> decide +kernel
theorem tyx_of {K : PySem.W.Frag} {G H : Hp} {d : D} {v : V} {q : List Addr} {t : Tn} {b : Bool} (ex : Same G H) (r : Rp K G H d v q) (h : d.isTn t = some b) : TyX K H v (.type (tyName d)) := by
  cases d with
  | non => rw [r.non_inv]; exact .base .non
  | bl x => rw [r.bl_inv]; exact .base (.bl x)
  | int x => rw [r.int_inv]; exact .base (.int x)
  | str x => rw [r.str_inv]; exact .base (.str x)
  | tup xs =>
    obtain ⟨a, vs, rfl, hs, _⟩ := r.tup_inv ex
    rcases hs with (hs | ⟨o, hs⟩) | ⟨o, its, n, h1, h2, _⟩
    · exact .base (.tup hs)
    · exact .fTuple hs
    · exact .kTuple h1 h2
  | lst m xs =>
    obtain ⟨a, vs, f, rfl, hs, _⟩ := r.lst_inv ex
    rcases hs with (hs | ⟨o, hs⟩) | ⟨o, its, n, h1, h2, _⟩
    · exact .base (.lst hs)
    · exact .base (.frz hs)
    · exact .kList h1 h2
  | obj _ _ _ _ => cases t <;> exact nomatch h
@[simp] def opIsi (t : Tn) (d : D) : Option D := (d.isTn t).map .bl
theorem rp_isi {K : PySem.W.Frag} {t : Tn} : RP1 K (fun x H Q => rIsi K [x, .ty t.str'] H Q) (opIsi t) := by
  intro G H x a d qa Q ex stb ha eo q
  unfold opIsi at eo
  cases e : a.isTn t with
  | none => rw [e] at eo; cases eo
  | some b =>
    rw [e] at eo
    cases eo
    exact ⟨x, .ty t.str', _, _, b, rfl, .ty _, tyx_of ex ha e, kit_ty (kit_tab t a b e), q _ G H [] (.refl ex stb) (.bl _) List.nodup_nil fun _ h => nomatch h⟩
/-- isinstance(e, T) -/
def tIsi (K : PySem.W.Frag) (T : String) (te : TE) : TE := fun σ H Q => te σ H fun x H1 => rIsi K [x, .ty T] H1 Q
theorem de_isi [Tb] {X : Cx} {W : WX} {t : Tn} {e : Expr} {ra : EvR} {x : Str} {p p2 pos : Pos} (hg : Gl X "isinstance") (hm : X.mg "isinstance" = none) (hg2 : Gl X x) (hm2 : X.mg x = none) (hv2 : bootBuiltins x = some (.type t.str')) (ha : DE X W e ra)
    (hn : x ≠ "__name__" := by decide) (hdb : (x == ("__debug__" : Str)) = false := by decide) (he : starEach [e, .Name x p2] X.env = (false, eval e X.env) :: starEach [.Name x p2] X.env := by rfl) (hpl : (backTo pos (starEach [Expr.Name x p2] X.env)).any (·.1) = false := by rfl) :
    DE X W (.Call (.Name "isinstance" p) [e, .Name x p2] [] pos) (r1 (opIsi t) ra) := by
  have hA : PA X [e, .Name x p2] _ := pa_cons ha (pa_cons (pe_bltn hg2 hm2 hv2 (v := .ty t.str') rfl hn hdb) pa_nil rfl) he
  exact (pe_callB call_isi hg hm rfl hA (by decide) (by decide) he hpl).weak fun σ H Q h => tE1 (rp_isi (t := t)) σ H Q h
end DV

namespace DV
open PySem L2

/-! ### xs[i] = v -/
section
variable {K : PySem.W.Frag} {G H : Hp}
theorem RpL.setV : ∀ (ds : List D) (xs : List V) (fp : List Addr) (k : Nat), RpL K G H ds xs fp → fp.Nodup → ∀ (e' : D) (v : V) (q : List Addr), Rp K G H e' v q → q.Nodup → (∀ a ∈ q, a ∉ fp) →
    ∃ fp', RpL K G H (ds.set k e') (xs.set k v) fp' ∧ fp'.Nodup ∧ ∀ a ∈ fp', a ∈ fp ∨ a ∈ q
  | [], xs, fp, k, r, n, e', v, q, rq, nq, dj => by
    obtain ⟨rfl, rfl⟩ := r.len0
    exact ⟨[], r, .nil, fun a h => nomatch h⟩
  | d :: ds, xs, fp, 0, r, n, e', v, q, rq, nq, dj => by
    unfold RpL at r
    obtain ⟨x, r', f1, f2, e1, e2, h1, h2⟩ := r
    subst e1 e2
    have n' := List.nodup_append.mp n
    refine ⟨q ++ f2, ?_, List.nodup_append.mpr ⟨nq, n'.2.1, fun a ha b hb z => dj a ha (z ▸ List.mem_append_right _ hb)⟩, fun a ha => ?_⟩
    · show RpL K G H (e' :: ds) (v :: r') _
      unfold RpL
      exact ⟨v, r', q, f2, rfl, rfl, rq, h2⟩
    · rcases List.mem_append.mp ha with z | z
      · exact .inr z
      · exact .inl (List.mem_append_right _ z)
  | d :: ds, xs, fp, k + 1, r, n, e', v, q, rq, nq, dj => by
    unfold RpL at r
    obtain ⟨x, r', f1, f2, e1, e2, h1, h2⟩ := r
    subst e1 e2
    have n' := List.nodup_append.mp n
    obtain ⟨f3, r3, n3, s3⟩ := RpL.setV ds r' f2 k h2 n'.2.1 e' v q rq nq fun a ha z => dj a ha (List.mem_append_right _ z)
    refine ⟨f1 ++ f3, ?_, List.nodup_append.mpr ⟨n'.1, n3, fun a ha b hb z => ?_⟩, fun a ha => ?_⟩
    · show RpL K G H (d :: ds.set k e') (x :: r'.set k v) _
      unfold RpL
      exact ⟨x, r'.set k v, f1, f3, rfl, rfl, h1, r3⟩
    · subst z
      rcases s3 a hb with y | y
      · exact n'.2.2 a ha a y rfl
      · exact dj a y (List.mem_append_left _ ha)
    · rcases List.mem_append.mp ha with z | z
      · exact .inl (List.mem_append_left _ z)
      · exact (s3 a z).imp (List.mem_append_right _) id
end
def muSet : Mu := fun e ds => match e, ds with
  | .lst true xs, [.int k, d] => (match ixN xs.length k with
    | some j => some (.lst true (xs.set j d), .non)
    | none => none)
  | _, _ => none
def rSetM : V → List V → Hp → VK → Prop := fun x vs H Q => ∃ i v, vs = [i, v] ∧ rSetL x i v H fun H' => Q .non H'
theorem rm_set {K : PySem.W.Frag} : RM K rSetM muSet := by
  intro G H x vs e e' r ds q qs Q ex re rs nd em k
  unfold muSet at em
  split at em
  · rename_i xs i d
    split at em
    · rename_i j hj
      cases em
      obtain ⟨p, ys, f, e1, e2, g, hh, rl⟩ := re.lst_own
      unfold RpL at rs
      obtain ⟨u, r0, f1, f2, rfl, rfl, h1, h2⟩ := rs
      obtain ⟨v, rfl, rv⟩ := h2.len1
      have hf1 : f1 = [] := Rp.nil_of (.int i) u f1 rfl h1
      subst hf1
      rw [h1.int_inv]
      subst e2
      rw [List.nil_append] at nd k
      have n' := List.nodup_append.mp nd
      have np : p ∉ f := (List.nodup_cons.mp n'.1).1
      have nq : p ∉ f2 := fun z => n'.2.2 p List.mem_cons_self p z rfl
      obtain ⟨f3, r3, n3, s3⟩ := RpL.setV xs ys f j rl (List.nodup_cons.mp n'.1).2 d v f2 rv n'.2.1 fun a ha z => n'.2.2 a (List.mem_cons_of_mem _ z) a ha rfl
      have np3 : p ∉ f3 := fun z => (s3 p z).elim np nq
      refine ⟨.int i, v, rfl, p, ys, i, j, e1, rfl, hh, by rw [rl.len']; exact hj, k p (.lst (ys.set j v)) .non (p :: f3) [] (fun z => z) List.mem_cons_self (fun a ha z => nq (z ▸ ha)) ?_ (List.nodup_cons.mpr ⟨np3, n3⟩) (fun a ha => ?_) .non List.nodup_nil fun _ h => nomatch h⟩
      · rw [e1]
        exact Rp.own_lst g upd_same (r3.off np3)
      · rcases List.mem_cons.mp ha with z | z
        · exact .inl (z ▸ List.mem_cons_self)
        · exact (s3 a z).imp (List.mem_cons_of_mem _) id
    · cases em
  · cases em
def gSubD (ro ri : EvR) : GvR := fun d E => match (ro E).bind fun a => (ri a.2.1).bind fun b => mutArgs muSet a.1 ([b.1, .val d], b.2.1, b.2.2) with
  | .ok (_, E', _) => some E'
  | _ => none
theorem SR.fewer [Tb] {f : Fr} {F : Addr → Prop} {G H : Hp} {σ : St} {E : Env} {fp : Nat → List Addr} (S : SR f G H σ E fp) (h : ∀ a, F a → f.F a) : SR { f with F := F } G H σ E fp where
  tab := S.tab
  g0 := S.g0
  ex := S.ex
  fr := fun a ha => S.fr a (h a ha)
  stb := S.stb
  pin := S.pin
  slen := S.slen
  len := S.len
  slot := S.slot
  none_ := S.none_
  nd := S.nd
  sep := S.sep
  out := fun i a hi z => S.out i a hi (h a z)
theorem tGSub_of [Tb] {K : PySem.W.Frag} {pn : Nat → Prop} {W : WX} {ro ri : EvR} (v : V) (σ : St) (H : Hp) (Q : St → Hp → Prop) (h : tG K pn (gSubD ro ri) v σ H Q) : gSub (tE K W ro) (tE K W ri) rSetL v σ H Q := by
  obtain ⟨f, G, E, fp, d, q, ek, ep, S, r, w, P⟩ := h
  subst ek
  unfold gSubD at P
  have S0 := S.push (fun p hp => ⟨(Rp.at d v q r p hp).1, by obtain ⟨_, o, ho, hw⟩ := Rp.at d v q r p hp; exact ⟨o, ho, hw.notT⟩⟩) w
  refine ⟨f.push G H q, G, E, fp, rfl, S0, ?_⟩
  cases ea : ro E with
  | stuck => rw [ea] at P; exact P.elim
  | exc x E' => rw [ea] at P; exact P.elim
  | ok a =>
    obtain ⟨oa, E1, c1⟩ := a
    rw [ea] at P
    intro v1 G1 H1 fp1 q1 S1 O1 W1 k1
    have S1' := S1.push O1.at W1
    refine ⟨(f.push G H q).push G1 H1 q1, G1, E1, fp1, rfl, S1', ?_⟩
    have P : PostG f Q (match (ri E1).bind fun b => mutArgs muSet oa ([b.1, .val d], b.2.1, b.2.2) with
      | .ok (_, E', _) => some E'
      | _ => none) := P
    cases eb : ri E1 with
    | stuck => rw [eb] at P; exact P.elim
    | exc x E' => rw [eb] at P; exact P.elim
    | ok b =>
      obtain ⟨ob, E2, c2⟩ := b
      rw [eb] at P
      intro v2 G2 H2 fp2 q2 S2 O2 W2 k2
      have P : PostG f Q (match mutArgs muSet oa ([ob, .val d], E2, c2) with
        | .ok (_, E', _) => some E'
        | _ => none) := P
      have S1p : SR f G1 H1 σ E1 fp1 := S.pop S1
      obtain ⟨w1, hq1, sg1⟩ := SR.pushed w S1
      have S2b : SR (f.push G1 H1 q1) G2 H2 σ E2 fp2 := SR.fewer (f := (f.push G H q).push G1 H1 q1) (F := fun a => f.F a ∨ a ∈ q1) S2 fun a ha => ha.imp .inl id
      have hq2 : ∀ p ∈ q, G2 p = none ∧ H2 p = H p := fun p hp => by
        have := S2.fr p (.inl (.inr hp))
        exact ⟨this.2.1, this.1.trans (hq1 p hp).2⟩
      have sg2 : Same G G2 := sg1.trans S2.g0
      have rd : Rp f.K G2 H2 d v q := Rp.mono sg2 d v q r fun p hp => ⟨(hq2 p hp).1, (hq2 p hp).2⟩
      have W2b : Ow (f.push G1 H1 q1) fp2 (q2 ++ q) := by
        refine Ow.append ⟨W2.nd, fun a ha z => W2.out a ha (z.imp .inl id), W2.sep⟩ ⟨w.nd, fun a ha z => ?_, fun a ha i hi => S2.out i a hi (.inl (.inr ha))⟩ fun p hp hq => W2.out p hp (.inl (.inr hq))
        rcases z with z | z
        · exact w.out a ha z
        · exact W1.out a z (.inr ha)
      have O2b : OpsF f.K G2 H2 σ E2 [ob, .val d] [v2, v] (q2 ++ q) := ⟨v2, [v], q2, q, rfl, rfl, O2, v, [], q, [], rfl, (List.append_nil q).symm, rd, rfl, rfl⟩
      have M : rSetM v1 [v2, v] H2 (fun _ H3 => Q σ H3) := by
        refine mut_end (f := f) (W := fun _ _ _ _ => True) (G := G1) (H := H1) (E := E1) (fp := fp1) (rm_set (K := f.K)) S1p O1 S2b O2b W2b (fun c => k2 c) ?_
        cases em : mutArgs muSet oa ([ob, .val d], E2, c2) with
        | stuck => rw [em] at P; exact P.elim
        | exc x E' => rw [em] at P; exact P.elim
        | ok m =>
          obtain ⟨o3, E3, c3⟩ := m
          rw [em] at P
          exact fun v3 G3 H3 fp3 q3 S3 O3 W3 k3 => P σ G3 H3 fp3 S3
      obtain ⟨i', v', e1, e2⟩ := M
      cases e1
      exact e2
theorem dg_sub [Tb] {X : Cx} {pn : Nat → Prop} {W : WX} {o i : Expr} {ro ri : EvR} {pos : Pos} (ho : DE X W o ro) (hi : DE X W i ri) (ha : ∀ v, assign (.Subscript o i pos) X.env v = (do
      let ov ← holding [v] (eval o X.env)
      let iv ← holding [v, ov] (eval i X.env)
      standAt pos
      holding [v, ov, iv] (setItem ov iv v)
      release [v, ov, iv] []) := by intro _; rfl) : DG X pn (.Subscript o i pos) (gSubD ro ri) := (pg_sub ho hi set_list ha).weak fun v σ H Q h => tGSub_of v σ H Q h
end DV

namespace DV
open PySem L2

/-! ### promises by a parameter -/
open Classical in
/-- a def's worth: at the arguments enc a it gives out a, where P a -/
noncomputable def specF {α : Type} (n : Nat) (mu : Option Nat) (enc : α → List D) (P : α → Prop) (out : α → Rs (D × Option D)) : FS :=
  ⟨n, mu, fun ds => if h : ∃ a, P a ∧ enc a = ds then out h.choose else .stuck⟩
open Classical in
theorem specF_at {α : Type} {n : Nat} {mu : Option Nat} {enc : α → List D} {P : α → Prop} {out : α → Rs (D × Option D)} (inj : ∀ a b, enc a = enc b → a = b) {a : α} (h : P a) : (specF n mu enc P out).run (enc a) = out a := by
  have e : ∃ b, P b ∧ enc b = enc a := ⟨a, h, rfl⟩
  show (if h : ∃ b, P b ∧ enc b = enc a then out h.choose else .stuck) = _
  rw [dif_pos e, inj _ _ e.choose_spec.2]
open Classical in
theorem specF_inv {α : Type} {n : Nat} {mu : Option Nat} {enc : α → List D} {P : α → Prop} {out : α → Rs (D × Option D)} {ds : List D} (h : (specF n mu enc P out).run ds ≠ .stuck) : ∃ a, P a ∧ enc a = ds ∧ (specF n mu enc P out).run ds = out a := by
  have h' : (if h : ∃ a, P a ∧ enc a = ds then out h.choose else .stuck) ≠ .stuck := h
  by_cases e : ∃ a, P a ∧ enc a = ds
  · exact ⟨e.choose, e.choose_spec.1, e.choose_spec.2, dif_pos e⟩
  · rw [dif_neg e] at h'
    exact absurd rfl h'
/-- one slot is what is left of the frame -/
theorem SR.outMu [Tb] {f : Fr} {G H H' : Hp} {σ : L2.St} {E : Env} {fp : Nat → List Addr} (S : SR f G H σ E fp) {i n : Nat} {v : V} {d' : D} (hv : σ[i]? = some (some v)) (hn : n ≤ σ.length) (hk : ∀ a, a ∉ fp i → H' a = H a) (hs : ∀ a ∈ fp i, ∀ o, H' a = some o → ¬ Stb o) (r : Rp f.K G H' d' v (fp i)) (hi : i < n) :
    SR f G H' σ (outE (some i) n (some d')) (fun l => if l = i then fp i else []) where
  g0 := S.g0
  ex := fun a o h => by
    have : a ∉ fp i := fun z => by
      have := (S.at i a z).1
      rw [h] at this
      cases this
    rw [hk a this]
    exact S.ex a o h
  fr := fun a h => by
    obtain ⟨h1, h2, h3⟩ := S.fr a h
    rw [hk a fun z => S.out i a z h]
    exact ⟨h1, h2, h3⟩
  stb := fun a o h z => by
    by_cases ha : a ∈ fp i
    · exact absurd z (hs a ha o h)
    · rw [hk a ha] at h
      exact S.stb a o h z
  tab := fun a h => by
    obtain ⟨⟨ps, e, z⟩, g⟩ := S.tab a h
    refine ⟨⟨ps, ?_, z⟩, g⟩
    rw [hk a fun y => by
      obtain ⟨_, o, ho, hw⟩ := S.at i a y
      rw [e] at ho
      cases ho
      exact hw]
    exact e
  pin := S.pin
  slen := S.slen
  len := by
    show ((List.replicate n none).set i (some d')).length ≤ _
    simpa using hn
  slot := fun j d e => by
    have e : ((List.replicate n none).set i (some d'))[j]? = some (some d) := e
    by_cases hij : i = j
    · subst hij
      rw [List.getElem?_set_self (by simpa using hi)] at e
      cases e
      rw [if_pos rfl]
      exact ⟨v, hv, r⟩
    · rw [List.getElem?_set_ne hij] at e
      have := List.mem_of_getElem? e
      simp at this
  none_ := fun j h => by
    split
    · rename_i e
      subst e
      refine absurd ?_ (h d')
      show ((List.replicate n none).set j (some d'))[j]? = _
      rw [List.getElem?_set_self (by simpa using hi)]
    · rfl
  nd := fun j => by
    show (if j = i then fp i else []).Nodup
    split
    · exact S.nd i
    · exact List.nodup_nil
  sep := fun j k a h1 h2 => by
    have h1 : a ∈ (if j = i then fp i else []) := h1
    have h2 : a ∈ (if k = i then fp i else []) := h2
    split at h1
    · split at h2
      · rename_i e1 e2
        rw [e1, e2]
      · cases h2
    · cases h1
  out := fun j a h => by
    have h : a ∈ (if j = i then fp i else []) := h
    split at h
    · exact S.out i a h
    · cases h
/-! ### the law's draws (of laws whose draws take a row of cells and a seed) -/
def dropZ : List Int → List Int
  | [] => []
  | c :: cs => if c = 0 then dropZ cs else c :: cs
/-- the draw, the cells and the seed behind it -/
def draw1 (cells : List Int) (seed m : Int) : Int × List Int × Int := match dropZ cells with
  | c :: cs => (c % m, c / m :: cs, seed)
  | [] => ((seed * 48271 + 12345) % 2147483647 / 64 % m, [], (seed * 48271 + 12345) % 2147483647)
structure Dr where
  cells : List Int
  seed : Int
def Dr.d (s : Dr) : D := .lst true [.lst true (s.cells.map D.int), .int s.seed]
def Dr.val (s : Dr) (m : Int) : Int := (draw1 s.cells s.seed m).1
def Dr.nxt (s : Dr) (m : Int) : Dr := ⟨(draw1 s.cells s.seed m).2.1, (draw1 s.cells s.seed m).2.2⟩
noncomputable def fsDraw : FS := specF (α := Dr × Int) 2 (some 0) (fun a => [a.1.d, .int a.2]) (fun a => 0 < a.2 ∧ a.2 < 1073741824) (fun a => .ok (.int (a.1.val a.2), some (a.1.nxt a.2).d))
theorem Dr.inj {s t : Dr} (h : s.d = t.d) : s = t := by
  unfold Dr.d at h
  injection h with _ h
  injection h with h1 h2
  injection h1 with _ h1
  injection h2 with h2 _
  injection h2 with h2
  have := congrArg intsD h1
  rw [intsD_map, intsD_map] at this
  cases s
  cases t
  simp only at *
  cases this
  subst h2
  rfl
theorem fsDraw_at (s : Dr) {m : Int} (h1 : 0 < m) (h2 : m < 1073741824) : fsDraw.run [s.d, .int m] = .ok (.int (s.val m), some (s.nxt m).d) :=
  specF_at (α := Dr × Int) (n := 2) (mu := some 0) (enc := fun a => [a.1.d, .int a.2]) (P := fun a => 0 < a.2 ∧ a.2 < 1073741824) (out := fun a => .ok (.int (a.1.val a.2), some (a.1.nxt a.2).d)) (fun a b e => by
    obtain ⟨s, m⟩ := a
    obtain ⟨t, n⟩ := b
    injection e with e1 e2
    injection e2 with e2 _
    injection e2 with e2
    have := Dr.inj e1
    simp only at this e2
    rw [this, e2]) (a := (s, m)) ⟨h1, h2⟩
theorem Dr.val_range (s : Dr) {m : Int} (h : 0 < m) : 0 ≤ s.val m ∧ s.val m < m := by
  unfold Dr.val draw1
  split
  · exact ⟨Int.emod_nonneg _ (by omega), Int.emod_lt_of_pos _ h⟩
  · exact ⟨Int.emod_nonneg _ (by omega), Int.emod_lt_of_pos _ h⟩
theorem ixN_0 (n : Nat) : ixN (n + 1) 0 = some 0 := by
  unfold ixN
  rw [if_pos (by decide), if_pos (by omega)]
  rfl
theorem atI_0 {α : Type} (x : α) (xs : List α) : atI (x :: xs) 0 = some x := by
  unfold atI
  rw [List.length_cons, ixN_0]
  rfl
abbrev rMulI : R2 := rI CMul fun i j => .int (i * j)
abbrev rFdivI : R2 := rI CDiv fun i j => .int (i / j)
abbrev rModI : R2 := rI (fun _ j => 0 < j) fun i j => .int (i % j)
abbrev rAddI : R2 := rI0 fun i j => .int (i + j)
abbrev rGtI : R2 := rI0 fun i j => .bl (decide (j < i))
abbrev rInt1 : List V → Hp → VK → Prop := fun xs H Q => (∃ i, xs = [.int i] ∧ Q (.int i) H) ∨ ∃ k, xs = [.bl k] ∧ Q (.int (if k then 1 else 0)) H
/-- what the def's text does -/
def tDraw (K : PySem.W.Frag) : TS :=
  tSeq (tAsg (tOp (rIx K) (tVar 0) (tC (.int 0))) (gName 2))
    (tSeq (tWhile (tAnd (tTest (tOp rGtI (tCB (rLen K) (tCons (tVar 2) tNil)) (tC (.int 0)))) (tTest (tOp rEq (tOp (rIx K) (tVar 2) (tC (.int 0))) (tC (.int 0))))) (tDrop (tBM K "list" rPopAt (tVar 2) (tCons (tC (.int 0)) tNil))))
      (tSeq (tIfS (tTest (tOp rGtI (tCB (rLen K) (tCons (tVar 2) tNil)) (tC (.int 0))))
          (tSeq (tAsg (tOp (rIx K) (tVar 2) (tC (.int 0))) (gName 3))
            (tSeq (tAsg (tOp rFdivI (tVar 3) (tVar 1)) (gSub (tVar 2) (tC (.int 0)) rSetL))
              (tRet (tOp rModI (tCB rInt1 (tCons (tVar 3) tNil)) (tVar 1)))))
          tNext)
        (tSeq (tAsg (tOp rModI (tCB rInt1 (tCons (tOp rAddI (tOp rMulI (tOp (rIx K) (tVar 0) (tC (.int 1))) (tC (.int 48271))) (tC (.int 12345))) tNil)) (tC (.int 2147483647))) (gName 4))
          (tSeq (tAsg (tVar 4) (gSub (tVar 0) (tC (.int 1)) rSetL))
            (tRet (tOp rModI (tCB rInt1 (tCons (tOp rFdivI (tVar 4) (tC (.int 64))) tNil)) (tVar 1)))))))
theorem pure_draw [Tb] {K : PySem.W.Frag} {N : List Str} (hN : N.length = 5) (vs : List V) (H : Hp) (Q : VK) (E : XK) (h : spD K fsDraw vs H Q E) (bk ct : L2.St → Hp → Prop) :
    tDraw K { nx := fun _ H' => Q .non H', rt := Q, bk := bk, ct := ct } (start N vs) H := by
  obtain ⟨h0, fr, G, ds, fp, ek, h2, h3, h4, S, h6, h7⟩ := h
  have hst : fsDraw.run ds ≠ .stuck := fun z => by rw [z] at h7; exact h7
  obtain ⟨⟨s, m⟩, ⟨m1, m2⟩, rfl, er⟩ := specF_inv hst
  rw [show fsDraw.run _ = _ from er] at h7
  clear er hst
  subst ek
  have h7 : ∀ v G' H' fp' q, SR fr G' H' (vs.map some) (outE (some 0) 2 (some (s.nxt m).d)) fp' → Rp fr.K G' H' (.int (s.val m)) v q → Ow fr fp' q → Q v H' := h7
  match vs, h0, S, h3, h7 with
  | [v0, v1], _, S, h3, h7 =>
    obtain ⟨v, e, r0⟩ := S.slot 0 s.d rfl
    cases e
    obtain ⟨v, e, r1⟩ := S.slot 1 (.int m) rfl
    cases e
    have r1 := r1.int_inv
    subst r1
    obtain ⟨p, ys, f, rfl, e2, gp, hp, rl⟩ := Rp.lst_own r0
    unfold RpL at rl
    obtain ⟨x, r, f1, f2, rfl, rfl, hx, rl⟩ := rl
    obtain ⟨y, rfl, hy⟩ := rl.len1
    have hf2 : f2 = [] := Rp.nil_of (.int s.seed) y f2 rfl hy
    subst hf2
    have hy := hy.int_inv
    subst hy
    obtain ⟨c, zs, f3, rfl, e3, gc, hc, rz⟩ := Rp.lst_own hx
    have hf3 : f3 = [] := by
      refine RpL.nil_of (s.cells.map D.int) zs f3 ?_ rz
      clear rz hx e3 S r0 e2 h7 h6 h4 h3
      induction s.cells with
      | nil => rfl
      | cons a b ih => exact ih
    subst hf3
    have hz := rz.ints
    subst hz
    subst e3
    have e2 : fp 0 = [p, c] := by rw [e2]; rfl
    have hpc : p ≠ c := by
      have := S.nd 0
      rw [e2] at this
      exact fun z => (List.nodup_cons.mp this).1 (by rw [z]; exact List.mem_cons_self)
    have hcp : c ≠ p := Ne.symm hpc
    -- the end
    have fin : ∀ (H' : Hp) (t : Dr) (i : Int), t = s.nxt m → i = s.val m → (∀ a, a ≠ p → a ≠ c → H' a = H a) → H' p = some (.lst [.ref c, .int t.seed]) → H' c = some (.lst (t.cells.map V.int)) → Q (.int i) H' := fun H' t i et ei k1 k2 k3 => by
      subst et ei
      have ro : Rp fr.K G H' (s.nxt m).d (.ref p) (fp 0) := by
        rw [e2]
        refine Rp.own_lst gp k2 ?_
        unfold RpL
        refine ⟨.ref c, [.int (s.nxt m).seed], [c], [], rfl, rfl, Rp.own_lst gc k3 (RpL.ofInts _), RpL.one.mpr (.int _)⟩
      refine h7 (.int (s.val m)) G H' (fun l => if l = 0 then fp 0 else []) [] (S.outMu (i := 0) (n := 2) (v := .ref p) rfl (Nat.le_refl 2) (fun a ha => ?_) (fun a ha o ho => ?_) ro (by decide)) (.int _) .nil
      · rw [e2] at ha
        exact k1 a (fun z => ha (by rw [z]; exact List.mem_cons_self)) fun z => ha (by rw [z]; exact List.mem_cons_of_mem _ List.mem_cons_self)
      · rw [e2] at ha
        rcases List.mem_cons.mp ha with rfl | ha
        · rw [k2] at ho
          cases ho
          exact fun z => z
        · rcases List.mem_cons.mp ha with rfl | ha
          · rw [k3] at ho
            cases ho
            exact fun z => z
          · cases ha
    have es : start N [V.ref p, .int m] = [some (V.ref p), some (.int m), none, none, none] := by
      unfold L2.start
      rw [hN]
      rfl
    rw [es]
    refine ⟨.ref p, rfl, .inl ⟨p, _, 0, .ref c, rfl, rfl, .of hp, rfl, ?_⟩⟩
    refine ⟨fun n σ' H' => σ' = [some (V.ref p), some (.int m), some (.ref c), none, none] ∧ ∃ cs : List Int, n = cs.length ∧ dropZ cs = dropZ s.cells ∧ H' c = some (.lst (cs.map V.int)) ∧ ∀ a, a ≠ c → H' a = H a, ⟨_, rfl, s.cells, rfl, rfl, hc, fun _ _ => rfl⟩, ?_⟩
    rintro n σ' H' ⟨rfl, cs, rfl, hz, hc', hk⟩
    have hp' : H' p = some (.lst [.ref c, .int s.seed]) := (hk p hpc).trans hp
    have len0 : ∀ (k : Int) (cs : List Int), decide ((0 : Int) < (((k :: cs).map V.int).length : Int)) = true := fun k cs => decide_eq_true (by simp)
    -- behind the loop
    have after : cs = dropZ s.cells → tSeq (tIfS (tTest (tOp rGtI (tCB (rLen fr.K) (tCons (tVar 2) tNil)) (tC (.int 0))))
          (tSeq (tAsg (tOp (rIx fr.K) (tVar 2) (tC (.int 0))) (gName 3))
            (tSeq (tAsg (tOp rFdivI (tVar 3) (tVar 1)) (gSub (tVar 2) (tC (.int 0)) rSetL))
              (tRet (tOp rModI (tCB rInt1 (tCons (tVar 3) tNil)) (tVar 1)))))
          tNext)
        (tSeq (tAsg (tOp rModI (tCB rInt1 (tCons (tOp rAddI (tOp rMulI (tOp (rIx fr.K) (tVar 0) (tC (.int 1))) (tC (.int 48271))) (tC (.int 12345))) tNil)) (tC (.int 2147483647))) (gName 4))
          (tSeq (tAsg (tVar 4) (gSub (tVar 0) (tC (.int 1)) rSetL))
            (tRet (tOp rModI (tCB rInt1 (tCons (tOp rFdivI (tVar 4) (tC (.int 64))) tNil)) (tVar 1))))) { nx := fun _ H' => Q .non H', rt := Q, bk := bk, ct := ct } [some (V.ref p), some (.int m), some (.ref c), none, none] H' := fun ecs => by
      cases cs with
      | nil =>
        refine ⟨.ref c, rfl, .inl ⟨c, _, rfl, .inl (SqL.of hc'), _, _, rfl, rfl, false, rfl, ?_⟩⟩
        refine ⟨.ref p, rfl, .inl ⟨p, _, 1, .int s.seed, rfl, rfl, .of hp', rfl, ?_⟩⟩
        refine ⟨_, _, rfl, rfl, mulB_ok (by simp [nuMulB]), _, _, rfl, rfl, .inl ⟨_, rfl, _, _, rfl, rfl, (show (0 : Int) < 2147483647 by decide), ?_⟩⟩
        refine ⟨_, rfl, .ref p, rfl, p, _, 1, 1, rfl, rfl, hp', rfl, ?_⟩
        refine ⟨_, rfl, _, _, rfl, rfl, ⟨by decide, by decide⟩, .inl ⟨_, rfl, .int m, rfl, _, _, rfl, rfl, m1, ?_⟩⟩
        refine fin _ ⟨[], (s.seed * 48271 + 12345) % 2147483647⟩ _ ?_ ?_ (fun a h1 h2 => ?_) ?_ ?_
        · unfold Dr.nxt draw1
          rw [← ecs]
        · unfold Dr.val draw1
          rw [← ecs]
        · rw [upd_ne h1, hk a h2]
        · exact upd_same
        · rw [upd_ne hcp]
          exact hc'
      | cons k cs =>
        refine ⟨.ref c, rfl, .inl ⟨c, _, rfl, .inl (SqL.of hc'), _, _, rfl, rfl, true, congrArg V.bl (len0 k cs), ?_⟩⟩
        refine ⟨.ref c, rfl, .inl ⟨c, _, 0, .int k, rfl, rfl, .of hc', atI_0 _ _, ?_⟩⟩
        refine ⟨.int k, rfl, .int m, rfl, _, _, rfl, rfl, ⟨m1, m2⟩, .ref c, rfl, c, _, 0, 0, rfl, rfl, hc', ixN_0 _, ?_⟩
        refine ⟨.int k, rfl, .inl ⟨_, rfl, .int m, rfl, _, _, rfl, rfl, m1, ?_⟩⟩
        refine fin _ ⟨k / m :: cs, s.seed⟩ _ ?_ ?_ (fun a h1 h2 => ?_) ?_ ?_
        · unfold Dr.nxt draw1
          rw [← ecs]
        · unfold Dr.val draw1
          rw [← ecs]
        · rw [upd_ne h2, hk a h2]
        · rw [upd_ne hpc]
          exact hp'
        · exact upd_same
    cases cs with
    | nil =>
      refine ⟨.ref c, rfl, .inl ⟨c, _, rfl, .inl (SqL.of hc'), _, _, rfl, rfl, false, rfl, ?_⟩⟩
      exact after hz
    | cons k cs =>
      refine ⟨.ref c, rfl, .inl ⟨c, _, rfl, .inl (SqL.of hc'), _, _, rfl, rfl, true, congrArg V.bl (len0 k cs), ?_⟩⟩
      refine ⟨.ref c, rfl, .inl ⟨c, _, 0, .int k, rfl, rfl, .of hc', atI_0 _ _, rfl, _, rfl, ?_⟩⟩
      by_cases hk0 : k = 0
      · subst hk0
        refine ⟨fun σ' H' => σ' = [some (V.ref p), some (.int m), some (.ref c), none, none] ∧ dropZ cs = dropZ s.cells ∧ H' c = some (.lst (cs.map V.int)) ∧ ∀ a, a ≠ c → H' a = H a, fun σ'' H'' h => ⟨cs.length, Nat.lt_succ_self _, h.1, cs, rfl, h.2⟩, ?_⟩
        refine ⟨.ref c, rfl, .inl ⟨rfl, _, .of hc'⟩, c, _, 0, 0, .int 0, rfl, rfl, hc', by decide, by decide, ?_, rfl, rfl, ?_, upd_same, fun a ha => by rw [upd_ne ha, hk a ha]⟩
        · exact (ixN_seq (n := (V.int 0 :: cs.map V.int).length) (i := 0) (j := 0) (ixN_0 _)).1
        · rw [← hz]
          rfl
      · have e : decide (V.int k = V.int 0) = false := decide_eq_false fun z => hk0 (by injection z)
        rw [e]
        refine after ?_
        rw [← hz]
        unfold dropZ
        rw [if_neg hk0]
end DV

namespace DV
open PySem L2

/-! ### a def that may be called by its name -/
def Cal [Tb] (P : Program) (w : World) (K : PySem.W.Frag) (mg : Str → Option Value) (base : Heap) (k : Nat) (x : Str) (ps : List Str) (s : FS) : Prop :=
  ∃ (g : Addr) (gd : FuncData), FnOk P w K mg base (L2.CX P w) k g gd ps (spD K s) ∧ PySem.W.keepIn K (.ref g) = true ∧ Binds K gd ps [] ∧ mg x = some (.ref g)
/-- a law's def: exceptions forgotten -/
def CXE : CXT := fun _ _ _ E _ _ => ∃ c d H', E c d H'
theorem FnOk.toE {P : Program} {w : World} {K : PySem.W.Frag} {mg : Str → Option Value} {base : Heap} {k : Nat} {f : Addr} {fd : FuncData} {ps : List Str} {sp : Sp} (F : FnOk P w K mg base (L2.CX P w) k f fd ps sp) : FnOk P w K mg base CXE k f fd ps sp :=
  ⟨F.len, fun A outer s H args us vs Q E hr he hb hv hs => codeAny_mono (F.run A outer s H args us vs Q E hr he hb hv hs) fun r s' h => by
    cases r with
    | error e =>
      obtain ⟨_, _, H', c, d, _, _, _, _, _, _, _, hE⟩ := h
      exact ⟨c, d, H', hE⟩
    | ok v => cases v <;> exact h⟩
@[simp] theorem fzdL_ints : ∀ ns : List Int, fzdL (ns.map D.int) = true
  | [] => rfl
  | _ :: ns => fzdL_ints ns
/-- the law's promise at a script -/
theorem law_script [Tb] {K : PySem.W.Frag} {s : FS} {H : Hp} {a : Addr} {ns : List Int} {E : XK} (hT : ∀ p, Tb.T p → GxR.TabG H p) (h1 : s.n = 1) (h2 : s.mu = none) (hS : SqL K H a (ns.map V.int)) (hr : ∃ mo, s.run [.lst false (ns.map D.int)] = .ok (.bl true, mo)) : spD K s [.ref a] H (fun v _ => v = .bl true) E := by
  classical
  obtain ⟨mo, hr⟩ := hr
  let G : Hp := fun p => if Tb.T p then none else H p
  have gT : ∀ p, Tb.T p → G p = none := fun p h => if_pos h
  have gN : ∀ p o, H p = some o → NotT o → G p = some o := fun p o h n => by
    show (if Tb.T p then none else H p) = _
    rw [if_neg fun z => ?_]
    · exact h
    · obtain ⟨ps, e, _⟩ := hT p z
      rw [h] at e
      cases e
      exact n
  have hG : SqL K G a (ns.map V.int) := by
    rcases hS with (h | ⟨o, h⟩) | h
    · exact .inl (.inl (gN _ _ h trivial))
    · exact .inl (.inr ⟨o, gN _ _ h trivial⟩)
    · exact .inr h
  refine ⟨h1.symm, { K := K, G0 := G, H0 := fun _ => none, F := fun _ => False, pn := fun i => s.mu = some i, σ0 := [some (.ref a)] }, G, [.lst false (ns.map D.int)], fun _ => [], rfl, rfl, rfl, h1.symm,
    { g0 := Same.refl _, ex := fun p o h => ?_, fr := fun _ h => h.elim, stb := fun p o h z => gN p o h ?_, pin := fun _ _ => rfl, slen := rfl, len := Nat.le_refl _, slot := fun i d e => ?_, none_ := fun _ _ => rfl, nd := fun _ => List.nodup_nil, sep := fun _ _ _ h => (nomatch h), out := fun _ _ h => (nomatch h), tab := fun p h => ?_ }, fun i d _ e => ?_, ?_⟩
  · have h : (if Tb.T p then none else H p) = some o := h
    split at h
    · cases h
    · exact h
  · cases o <;> simp [Stb, NotT] at z ⊢
  · match i, e with
    | 0, e =>
      cases e
      refine ⟨.ref a, rfl, ?_⟩
      unfold Rp
      exact ⟨a, ns.map V.int, rfl, by simp only [Bool.false_eq_true, if_false]; exact ⟨trivial, hG, RpL.ofInts ns⟩⟩
  · rcases h with h | ⟨⟨ps, e, _⟩, _⟩
    · exact ⟨hT p h, gT p h⟩
    · cases e
  · match i, e with
    | 0, e =>
      cases e
      show fzdL (ns.map D.int) = true
      exact fzdL_ints ns
  · rw [hr]
    intro v G' H' fp' q _ r _
    exact r.bl_inv
end DV

namespace DV
open PySem L2

/-! ### reading data -/
def D.i : D → Int
  | .int i => i
  | _ => 0
def D.b : D → Bool
  | .bl b => b
  | _ => false
def D.l : D → List D
  | .tup xs => xs
  | .lst _ xs => xs
  | _ => []
@[simp] def lsI (ns : List Int) : D := .lst false (ns.map D.int)
def tpI (ns : List Int) : D := .tup (ns.map D.int)
theorem map_i (ns : List Int) : (ns.map D.int).map D.i = ns := by
  rw [List.map_map]
  exact List.map_id ns
theorem map_b (ns : List Bool) : (ns.map D.bl).map D.b = ns := by
  rw [List.map_map]
  exact List.map_id ns
@[simp] theorem fzdL_bls : ∀ ns : List Bool, fzdL (ns.map D.bl) = true
  | [] => rfl
  | _ :: ns => fzdL_bls ns
theorem fzdL_map {α : Type} {g : α → D} (h : ∀ a, (g a).fzd = true) : ∀ xs : List α, fzdL (xs.map g) = true
  | [] => rfl
  | x :: xs => by
    show ((g x).fzd && fzdL (xs.map g)) = true
    rw [h x, fzdL_map h xs]
    rfl
mutual
/-- what is frozen is its own frozen form -/
theorem D.fz_id : ∀ d : D, d.fzd = true → d.fz = d
  | .non, _ => rfl
  | .bl _, _ => rfl
  | .int _, _ => rfl
  | .str _, _ => rfl
  | .tup xs, h => by
    unfold D.fz
    rw [fzL_id xs h]
  | .lst m xs, h => by
    have h : m = false ∧ fzdL xs = true := by
      unfold D.fzd at h
      simpa using h
    unfold D.fz
    rw [fzL_id xs h.2, h.1]
  | .obj m C ns xs, h => by
    have h : m = false ∧ fzdL xs = true := by
      unfold D.fzd at h
      simpa using h
    unfold D.fz
    rw [fzL_id xs h.2, h.1]
theorem fzL_id : ∀ ds : List D, fzdL ds = true → fzL ds = ds
  | [], _ => rfl
  | d :: ds, h => by
    have h : d.fzd = true ∧ fzdL ds = true := by
      unfold fzdL at h
      simpa using h
    unfold fzL
    rw [D.fz_id d h.1, fzL_id ds h.2]
end
theorem specF_dec {α : Type} {n : Nat} {mu : Option Nat} {enc : α → List D} {P : α → Prop} {out : α → Rs (D × Option D)} (dec : List D → α) (hd : ∀ a, dec (enc a) = a) {a : α} (h : P a) : (specF n mu enc P out).run (enc a) = out a :=
  specF_at (fun a b e => by rw [← hd a, ← hd b, e]) h
theorem specF_run {α : Type} {n : Nat} {mu : Option Nat} {enc : α → List D} {P : α → Prop} {out : α → Rs (D × Option D)} {r : Nat → SvR} {nl : Nat} (hr : ∀ a, P a → ∃ k, runDef (r k) nl mu (enc a) = out a) :
    ∀ ds, ds.length = (specF n mu enc P out).n → (specF n mu enc P out).run ds ≠ .stuck → ∃ k, runDef (r k) nl (specF n mu enc P out).mu ds = (specF n mu enc P out).run ds := fun ds _ h => by
  obtain ⟨a, pa, rfl, e⟩ := specF_inv h
  rw [e]
  exact hr a pa
end DV

namespace DV
open PySem L2

/-! ### mirrors are run by simp -/
@[simp] def sTurn (g : GvR) (body : SvR) (d : D) (E : Env) : Rs (Fl × Env) := match g d E with
  | some E1 => body E1
  | none => .stuck
theorem sLoop_eq (g : GvR) (body : SvR) (d : D) (ds : List D) (E : Env) : sLoop g body (d :: ds) E = (sTurn g body d E).bind fun r => match r.1 with
    | .nx => sLoop g body ds r.2
    | .ct => sLoop g body ds r.2
    | .bk => .ok (.nx, r.2)
    | .rt d => .ok (.rt d, r.2) := by
  unfold sTurn
  show (match g d E with
    | none => Rs.stuck
    | some E1 => (body E1).bind fun r => match r.1 with
      | .nx => sLoop g body ds r.2
      | .ct => sLoop g body ds r.2
      | .bk => .ok (.nx, r.2)
      | .rt d => .ok (.rt d, r.2)) = _
  cases g d E <;> rfl
section
variable {g : GvR} {body : SvR} {d : D} {ds : List D} {E E2 : Env} {x : D}
theorem sLoop_nil : sLoop g body [] E = .ok (.nx, E) := rfl
theorem sLoop_nx (h : sTurn g body d E = .ok (.nx, E2)) : sLoop g body (d :: ds) E = sLoop g body ds E2 := by rw [sLoop_eq, h]; rfl
theorem sLoop_ct (h : sTurn g body d E = .ok (.ct, E2)) : sLoop g body (d :: ds) E = sLoop g body ds E2 := by rw [sLoop_eq, h]; rfl
theorem sLoop_bk (h : sTurn g body d E = .ok (.bk, E2)) : sLoop g body (d :: ds) E = .ok (.nx, E2) := by rw [sLoop_eq, h]; rfl
theorem sLoop_rt (h : sTurn g body d E = .ok (.rt x, E2)) : sLoop g body (d :: ds) E = .ok (.rt x, E2) := by rw [sLoop_eq, h]; rfl
end
@[simp] theorem gTup_tup (n : Nat) (gs : GsR) (ds : List D) (E : Env) : gTupD n gs (.tup ds) E = if ds.length = n then gs ds E else none := rfl
/-! whiles -/
theorem sWhile_false {t : TvR} {b : SvR} {E E2 : Env} {c : Bool} {n : Nat} (h : t E = .ok (false, E2, c)) : sWhile t b (n + 1) E = .ok (.nx, E2) := by
  show ((t E).bind fun b' => _) = _
  rw [h]
  rfl
theorem sWhile_true {t : TvR} {b : SvR} {E E2 E3 : Env} {c : Bool} {n : Nat} (h : t E = .ok (true, E2, c)) (h2 : b E2 = .ok (.nx, E3)) : sWhile t b (n + 1) E = sWhile t b n E3 := by
  show ((t E).bind fun b' => _) = _
  rw [h]
  show ((b E2).bind fun r => _) = _
  rw [h2]
  rfl
/-! lists of ints, of bools -/
@[simp] theorem fzL_ints (ns : List Int) : fzL (ns.map D.int) = ns.map D.int := fzL_id _ (fzdL_ints ns)
@[simp] theorem fzL_bls (ns : List Bool) : fzL (ns.map D.bl) = ns.map D.bl := fzL_id _ (fzdL_bls ns)
@[simp] theorem nofzL_ints : ∀ ns : List Int, nofzL (ns.map D.int) = true
  | [] => rfl
  | _ :: ns => nofzL_ints ns
@[simp] theorem nofzL_bls : ∀ ns : List Bool, nofzL (ns.map D.bl) = true
  | [] => rfl
  | _ :: ns => nofzL_bls ns
def rangeI (lo : Int) (n : Nat) : List Int := (List.range n).map fun i => lo + (i : Nat)
theorem rangeD_eq (lo : Int) (n : Nat) : rangeD lo n = (rangeI lo n).map D.int := by
  unfold rangeD rangeI
  rw [List.map_map]
  rfl
theorem rangeI_zero (lo : Int) : rangeI lo 0 = [] := rfl
theorem rangeI_succ (lo : Int) (n : Nat) : rangeI lo (n + 1) = lo :: rangeI (lo + 1) n := by
  unfold rangeI
  rw [List.range_succ_eq_map, List.map_cons, List.map_map]
  congr 1
  · simp
  · refine List.map_congr_left fun i _ => ?_
    show lo + ((i + 1 : Nat) : Int) = lo + 1 + (i : Int)
    omega
/-- a number of no great size -/
def Bnd (j : Int) : Prop := -1000000 ≤ j ∧ j < 1000000
open Classical in
noncomputable def rng1 (o : Option (List D)) (E : Env) : Rs (List D × Env) := match o with
  | some [.int j] => if InR j then .ok (rangeD 0 j.toNat, E) else .stuck
  | _ => .stuck
open Classical in
noncomputable def rng2 (o : Option (List D)) (E : Env) : Rs (List D × Env) := match o with
  | some [.int i, .int j] => if InR i ∧ InR j then .ok (rangeD i (j - i).toNat, E) else .stuck
  | _ => .stuck
@[simp] theorem rRange1_eq (ra : AvR) (E : Env) : rRange1 ra E = (ra E).bind fun a => rng1 (resL a.1 a.2.1) a.2.1 := rfl
@[simp] theorem rRange2_eq (ra : AvR) (E : Env) : rRange2 ra E = (ra E).bind fun a => rng2 (resL a.1 a.2.1) a.2.1 := rfl
theorem inR_of {j : Int} (h : Bnd j) : InR j := by
  unfold Bnd at h
  unfold InR
  omega
open Classical in
@[simp] theorem rng1_ok {j : Int} (h : Bnd j) (E : Env) : rng1 (some [.int j]) E = .ok ((rangeI 0 j.toNat).map D.int, E) := by
  rw [← rangeD_eq]
  show (if InR j then Rs.ok (rangeD 0 j.toNat, E) else .stuck) = _
  exact if_pos (inR_of h)
open Classical in
@[simp] theorem rng2_ok {i j : Int} (h : Bnd i) (h2 : Bnd j) (E : Env) : rng2 (some [.int i, .int j]) E = .ok ((rangeI i (j - i).toNat).map D.int, E) := by
  rw [← rangeD_eq]
  show (if InR i ∧ InR j then Rs.ok (rangeD i (j - i).toNat, E) else .stuck) = _
  exact if_pos ⟨inR_of h, inR_of h2⟩
theorem ixP_lst {m : Bool} {α : Type} {g : α → D} {ns : List α} {i : Nat} {x : α} (h : ns[i]? = some x) : ixP (.lst m (ns.map g)) (.int i) = some (i, g x) := by
  show ((ixN (ns.map g).length i).bind fun j => ((ns.map g)[j]?).map fun d => (j, d)) = _
  have hi : i < ns.length := (List.getElem?_eq_some_iff.mp h).1
  unfold ixN
  rw [List.length_map, if_pos (by omega), if_pos (by omega)]
  show ((ns.map g)[(i : Int).toNat]?).map _ = _
  rw [List.getElem?_map, Int.toNat_natCast, h]
  rfl
theorem ixP_tup {α : Type} {g : α → D} {ns : List α} {i : Nat} {x : α} (h : ns[i]? = some x) : ixP (.tup (ns.map g)) (.int i) = some (i, g x) := ixP_lst (m := true) h
theorem ixP_some {α : Type} {g : α → D} {ns : List α} {i : Int} {x : α} (h : atI ns i = some x) : ∃ j, ixP (.tup (ns.map g)) (.int i) = some (j, g x) := by
  unfold atI at h
  cases e : ixN ns.length i with
  | none => rw [e] at h; cases h
  | some j =>
    rw [e] at h
    refine ⟨j, ?_⟩
    show ((ixN (ns.map g).length i).bind fun j => ((ns.map g)[j]?).map fun d => (j, d)) = _
    rw [List.length_map, e]
    have h : ns[j]? = some x := h
    show ((ns.map g)[j]?).map _ = _
    rw [List.getElem?_map, h]
    rfl
/-- a display's place -/
theorem ixP_d {m : Bool} {ds : List D} {i : Nat} {x : D} (h : ds[i]? = some x) : ixP (.lst m ds) (.int i) = some (i, x) := by
  have := ixP_lst (m := m) (g := id) h
  rw [List.map_id] at this
  exact this
theorem ixP_dt {ds : List D} {i : Nat} {x : D} (h : ds[i]? = some x) : ixP (.tup ds) (.int i) = some (i, x) := ixP_d (m := true) h
/-! == -/
theorem pyL_ints : ∀ ns : List Int, pyL (ns.map D.int) = some (ns.map PyData.int)
  | [] => rfl
  | n :: ns => by
    show pyL (D.int n :: ns.map D.int) = _
    rw [pyL]
    simp only [D.py, pyL_ints ns]
    rfl
theorem eqv_ints : ∀ ns ms : List Int, PyData.eqvAll (ns.map PyData.int) (ms.map PyData.int) = decide (ns = ms)
  | [], [] => rfl
  | [], _ :: _ => rfl
  | _ :: _, [] => rfl
  | n :: ns, m :: ms => by
    show (PyData.eqv (.int n) (.int m) && PyData.eqvAll (ns.map PyData.int) (ms.map PyData.int)) = _
    rw [eqv_ints ns ms]
    show ((n == m) && _) = _
    by_cases h : n = m
    · subst h
      simp
    · simp [h]
theorem sh_int (i : Int) : SeqAt.shaped (.int i) = true := by simp [SeqAt.shaped, PyData.canLay0, PyData.depth]
theorem sh_bl (i : Bool) : SeqAt.shaped (.bool i) = true := by simp [SeqAt.shaped, PyData.canLay0, PyData.depth]
theorem sh_non : SeqAt.shaped .none = true := by simp [SeqAt.shaped, PyData.canLay0, PyData.depth]
@[simp] theorem D.eqv_int (i j : Int) : D.eqv (.int i) (.int j) = some (decide (i = j)) := by
  simp [D.eqv, D.py, sh_int, PyData.eqv]
  by_cases h : i = j <;> simp [h]
@[simp] theorem D.eqv_int_non (i : Int) : D.eqv (.int i) .non = some false := by simp [D.eqv, D.py, sh_int, sh_non, PyData.eqv]
@[simp] theorem D.eqv_non_int (i : Int) : D.eqv .non (.int i) = some false := by simp [D.eqv, D.py, sh_int, sh_non, PyData.eqv]
@[simp] theorem D.eqv_non : D.eqv .non .non = some true := by simp [D.eqv, D.py, sh_non, PyData.eqv]
@[simp] theorem D.eqv_bl (i j : Bool) : D.eqv (.bl i) (.bl j) = some (decide (i = j)) := by cases i <;> cases j <;> simp [D.eqv, D.py, sh_bl, PyData.eqv]
@[simp] theorem D.eqv_lst (m k : Bool) (ns ms : List Int) : D.eqv (.lst m (ns.map D.int)) (.lst k (ms.map D.int)) = some (decide (ns = ms)) := by
  unfold D.eqv
  rw [D.py, D.py, pyL_ints, pyL_ints]
  show (if (SeqAt.shaped (.list (ns.map PyData.int)) && SeqAt.shaped (.list (ms.map PyData.int))) = true then some (PyData.eqv (.list (ns.map PyData.int)) (.list (ms.map PyData.int))) else none) = _
  rw [PySem.W.shaped_ints, PySem.W.shaped_ints]
  simp [PyData.eqv, eqv_ints]
theorem shaped_tints (ns : List Int) : SeqAt.shaped (.tuple (ns.map PyData.int)) = true := by
  have h1 := PySem.W.depthAll_ints ns
  have h2 : PyData.depth (.tuple (ns.map PyData.int)) ≤ 64 := by simp only [PyData.depth]; omega
  show (PyData.canLay0 (.tuple (ns.map PyData.int)) && decide (PyData.depth (.tuple (ns.map PyData.int)) ≤ 64)) = true
  rw [Bool.and_eq_true]
  exact ⟨by simp only [PyData.canLay0]; exact PySem.W.canLayAll0_ints ns, decide_eq_true h2⟩
@[simp] theorem D.eqv_tup (ns ms : List Int) : D.eqv (.tup (ns.map D.int)) (.tup (ms.map D.int)) = some (decide (ns = ms)) := by
  unfold D.eqv
  rw [D.py, D.py, pyL_ints, pyL_ints]
  show (if (SeqAt.shaped (.tuple (ns.map PyData.int)) && SeqAt.shaped (.tuple (ms.map PyData.int))) = true then some (PyData.eqv (.tuple (ns.map PyData.int)) (.tuple (ms.map PyData.int))) else none) = _
  rw [shaped_tints, shaped_tints]
  simp [PyData.eqv, eqv_ints]
/-! the draw -/
@[simp] theorem Dr.d_nofz (s : Dr) : s.d.nofz = true := by
  show (true && ((true && nofzL (s.cells.map D.int)) && (true && true))) = true
  rw [nofzL_ints]
  rfl
@[simp] theorem fsDraw_n : fsDraw.n = 2 := rfl
@[simp] theorem fsDraw_mu : fsDraw.mu = some 0 := rfl
theorem mulOk_r (i j : Int) (h : -1000000000 < j ∧ j < 1000000000) : mulOk i j = true := by
  refine @decide_eq_true _ (Classical.propDecidable _) (.inr ?_)
  omega
theorem mulOk_l (i j : Int) (h : -1000000000 < i ∧ i < 1000000000) : mulOk i j = true := by
  refine @decide_eq_true _ (Classical.propDecidable _) (.inl ?_)
  omega
theorem divOk_of {j : Int} (h : 0 < j ∧ j < 1073741824) : divOk j = true := @decide_eq_true _ (Classical.propDecidable _) h
theorem size_big {n : Nat} (h : n < 100000) : n < sizeLine := by rw [sizeLine_eq]; omega
theorem le_size {n : Nat} (h : n ≤ 100) : n ≤ sizeLine := by rw [sizeLine_eq]; omega
@[simp] theorem le_size0 : 0 ≤ sizeLine := Nat.zero_le _
@[simp] theorem le_size1 : 1 ≤ sizeLine := le_size (by decide)
@[simp] theorem le_size2 : 2 ≤ sizeLine := le_size (by decide)
@[simp] theorem le_size3 : 3 ≤ sizeLine := le_size (by decide)
@[simp] theorem le_size4 : 4 ≤ sizeLine := le_size (by decide)
@[simp] theorem le_size5 : 5 ≤ sizeLine := le_size (by decide)
@[simp] theorem le_size6 : 6 ≤ sizeLine := le_size (by decide)
@[simp] theorem le_size7 : 7 ≤ sizeLine := le_size (by decide)
@[simp] theorem le_size8 : 8 ≤ sizeLine := le_size (by decide)
@[simp] theorem fzdL_mapI {α : Type} (f : α → Int) (xs : List α) : fzdL (xs.map fun a => D.int (f a)) = true := fzdL_map (fun _ => rfl) xs
@[simp] theorem fzdL_mapC {α : Type} (f : α → Int) (xs : List α) : fzdL (xs.map (D.int ∘ f)) = true := fzdL_map (fun _ => rfl) xs
/-- the first or the second of two -/
def pickI (a b i : Int) : Int := if i = 0 then a else b
theorem pick_ix (m : Bool) (a b : Int) {i : Int} (h : 0 ≤ i ∧ i < 2) : ∃ j, ixP (.lst m [.int a, .int b]) (.int i) = some (j, .int (pickI a b i)) := by
  have : i = ((i.toNat : Nat) : Int) := by omega
  have hi : i.toNat = 0 ∨ i.toNat = 1 := by omega
  rcases hi with h0 | h0
  · rw [this, h0]
    exact ⟨0, ixP_d rfl⟩
  · rw [this, h0]
    exact ⟨1, ixP_d rfl⟩
/-! comprehensions -/
theorem lcLoop_nil {vs : List Nat} {g : GvR} {t : TvR} {re : EvR} {E : Env} {acc : List D} : lcLoop vs g t re [] E acc = .ok (E, acc) := rfl
theorem lcLoop_cons {vs : List Nat} {g : GvR} {t : TvR} {re : EvR} {E E2 : Env} {d : D} {ds acc acc2 : List D} (h : lcTurn vs g t re d E acc = .ok (E2, acc2)) : lcLoop vs g t re (d :: ds) E acc = lcLoop vs g t re ds (clr vs E2) acc2 := by
  show ((lcTurn vs g t re d E acc).bind fun r => _) = _
  rw [h]
  rfl
end DV

namespace DV
open PySem L2

/-! ### a < b < c, ints -/
def D.asInt : D → Option Int
  | .int i => some i
  | _ => none
@[simp] def rChain (op op' : D → D → Option D) (ra rb rc : EvR) : EvR := fun E => (ra E).bind fun a => match a.1.res a.2.1 with
  | some (.int i) => (rb a.2.1).bind fun b => (match b.1.res b.2.1 with
    | some (.int j) => (match op (.int i) (.int j) with
      | some (.bl true) => (rc b.2.1).bind fun c => (match c.1.res c.2.1 with
        | some z => (match op' (.int j) z with
          | some d => .ok (.val d, c.2.1, (a.2.2 || b.2.2) || c.2.2)
          | none => .stuck)
        | none => .stuck)
      | some (.bl false) => .ok (.val (.bl false), b.2.1, a.2.2 || b.2.2)
      | _ => .stuck)
    | _ => .stuck)
  | _ => .stuck
section
variable [Tb] {K : PySem.W.Frag} {W : WX}
theorem tChain_of {r r' : R2} {op op' : D → D → Option D} {ra rb rc : EvR} (rp : RP2 K r op) (rp' : RP2 K r' op') (σ : L2.St) (H : Hp) (Q : VK) (h : tE K W (rChain op op' ra rb rc) σ H Q) : tChain r r' (tE K W ra) (tE K W rb) (tE K W rc) σ H Q := by
  obtain ⟨f, G, E, fp, ek, S, P⟩ := h
  refine ⟨f, G, E, fp, ek, S, ?_⟩
  unfold rChain at P
  cases ea : ra E with
  | stuck => rw [ea] at P; exact P
  | exc x E' => rw [ea] at P; exact P
  | ok a =>
    obtain ⟨oa, E1, c1⟩ := a
    rw [ea] at P
    intro v1 G1 H1 fp1 q1 S1 O1 W1 k1
    cases er : oa.res E1 with
    | none => simp only [Rs.bind, er] at P; exact P.elim
    | some d1 =>
      obtain ⟨q', r1, _⟩ := O1.rep S1 er
      cases d1 with
      | int i =>
        have e1 := r1.int_inv
        subst e1
        refine ⟨f, G1, E1, fp1, ek, S1, ?_⟩
        simp only [Rs.bind, er] at P
        cases eb : rb E1 with
        | stuck => rw [eb] at P; exact P
        | exc x E' => rw [eb] at P; exact P
        | ok b =>
          obtain ⟨ob, E2, c2⟩ := b
          rw [eb] at P
          intro v2 G2 H2 fp2 q2 S2 O2 W2 k2
          cases er2 : ob.res E2 with
          | none => simp only [er2] at P; exact P.elim
          | some d2 =>
            obtain ⟨q2', r2, _⟩ := O2.rep S2 er2
            cases d2 with
            | int j =>
              have e2 := r2.int_inv
              subst e2
              simp only [er2] at P
              cases eo : op (.int i) (.int j) with
              | none => simp only [eo] at P; exact P.elim
              | some d =>
                subst ek
                refine rp G2 H2 _ _ (.int i) (.int j) d [] [] _ S2.ex S2.stb (.int i) (.int j) eo fun v G3 H3 q3 st rv hn hf => ?_
                cases d with
                | bl k =>
                  have ev := rv.bl_inv
                  refine ⟨k, ev, ?_⟩
                  have S3 := S2.step st
                  cases k with
                  | true =>
                    simp only [eo] at P
                    rw [if_pos rfl]
                    refine ⟨f, G3, E2, fp2, rfl, S3, ?_⟩
                    cases ec : rc E2 with
                    | stuck => rw [ec] at P; exact P
                    | exc x E' => rw [ec] at P; exact P
                    | ok c =>
                      obtain ⟨oc, E3, c3⟩ := c
                      rw [ec] at P
                      intro v4 G4 H4 fp4 q4 S4 O4 W4 k4
                      cases er3 : oc.res E3 with
                      | none => simp only [er3] at P; exact P.elim
                      | some z =>
                        obtain ⟨q4', r4, _⟩ := O4.rep S4 er3
                        simp only [er3] at P
                        cases eo2 : op' (.int j) z with
                        | none => simp only [eo2] at P; exact P.elim
                        | some d' =>
                          simp only [eo2] at P
                          refine rp' G4 H4 _ _ (.int j) z d' [] q4' _ S4.ex S4.stb (.int j) r4 eo2 fun v5 G5 H5 q5 st5 r5 hn5 hf5 => ?_
                          refine fin2 (c := (c1 || c2) || c3) S4 (fun hc => ?_) P st5 r5 hn5 hf5
                          have hc' : (c1 = false ∧ c2 = false) ∧ c3 = false := by simpa using hc
                          exact (((k1 hc'.1.1).trans (k2 hc'.1.2)).step st).trans (k4 hc'.2)
                  | false =>
                    simp only [eo] at P
                    rw [if_neg (by decide)]
                    refine P (.bl false) G3 H3 fp2 [] S3 (show Rp f.K G3 H3 (.bl false) (.bl false) [] from Rp.bl false) .nil fun hc => ?_
                    have hc' : c1 = false ∧ c2 = false := by simpa using hc
                    exact ((k1 hc'.1).trans (k2 hc'.2)).step st
                | _ => simp only [eo] at P; exact P.elim
            | _ => simp only [er2] at P; exact P.elim
      | _ => simp only [Rs.bind, er] at P; exact P.elim
variable {X : Cx}
theorem de_chain {o o' : CmpOp} {r r' : R2} {op op' : D → D → Option D} {a b c : Expr} {ra rb rc : EvR} {pos : Pos} (ho : OpR X (compareOp o) r) (rp : RP2 X.K r op) (ho' : OpR X (compareOp o') r') (rp' : RP2 X.K r' op') (ha : DE X W a ra) (hb : DE X W b rb) (hc : DE X W c rc)
    (hm : lastMarks [o, o'] [b, c] = false := by with_unfolding_all rfl) : DE X W (.Compare a [o, o'] [b, c] pos) (rChain op op' ra rb rc) := (pe_chain ho ho' ha hb hc hm).weak (tChain_of rp rp')
theorem dt_chain {o o' : CmpOp} {r r' : R2} {op op' : D → D → Option D} {a b c : Expr} {ra rb rc : EvR} {pos : Pos} (ho : OpR X (compareOp o) r) (rp : RP2 X.K r op) (ho' : OpR X (compareOp o') r') (rp' : RP2 X.K r' op') (ha : DE X W a ra) (hb : DE X W b rb) (hc : DE X W c rc)
    (hm : lastMarks [o, o'] [b, c] = false := by with_unfolding_all rfl) : DT X W (.Compare a [o, o'] [b, c] pos) (rTest (rChain op op' ra rb rc)) := (pt_chain ho ho' ha hb hc hm).weak fun σ H Q h => tChain_of rp rp' σ H _ (tTest_of σ H Q h)
end
end DV

namespace DV
open PySem L2

/-! ### slices -/
@[simp] def rPt : Option EvR → Env → Rs (Option Int × Env × Bool)
  | none, E => .ok (none, E, false)
  | some r, E => (r E).bind fun a => match a.1.res a.2.1 with
    | some (.int i) => .ok (some i, a.2.1, a.2.2)
    | _ => .stuck
def PostP [Tb] (f : Fr) (W : WX) (σ : L2.St) (Q : Option Int → Hp → Prop) (G H : Hp) (E : Env) (fp : Nat → List Addr) : Rs (Option Int × Env × Bool) → Prop
  | .ok (o, E', c) => ∀ G' H' fp', SR f G' H' σ E' fp' → (c = false → Quiet G H G' H' E E' fp fp') → Q o H'
  | .exc x E' => PostX f W σ x E'
  | .stuck => False
def tP [Tb] (K : PySem.W.Frag) (W : WX) (r : Option EvR) : TO := fun σ H Q => ∃ f G E fp, f.K = K ∧ SR f G H σ E fp ∧ PostP f W σ Q G H E fp (rPt r E)
theorem _root_.L2.PO.weak {X : Cx} {e : Option Expr} {t t' : TO} (h : PO X e t) (k : ∀ σ H Q, t' σ H Q → t σ H Q) : PO X e t' := ⟨fun pins s σ H Q I w => h.run pins s σ H Q I (k σ H Q w)⟩
def cutD (xs : List D) (lo hi : Option Int) : List D := (xs.drop (HT.sIx xs.length 0 lo)).take (HT.sIx xs.length xs.length hi - HT.sIx xs.length 0 lo)
@[simp] def bSl : D → Option Int → Option Int → Option D
  | .lst _ xs, lo, hi => if fzdL xs = true then some (.lst true (cutD xs lo hi)) else none
  | .tup xs, lo, hi => if fzdL xs = true then some (.tup (cutD xs lo hi)) else none
  | _, _, _ => none
@[simp] def rSl (ra : EvR) (lo hi : Option EvR) : EvR := fun E => (ra E).bind fun a => (rPt lo a.2.1).bind fun l => (rPt hi l.2.1).bind fun h => match a.1.isBor && (l.2.2 || h.2.2) with
  | true => .stuck
  | false => (match a.1.res h.2.1 with
    | some d => (match bSl d l.1 h.1 with
      | some d' => .ok (.val d', h.2.1, a.2.2 || (l.2.2 || h.2.2))
      | none => .stuck)
    | none => .stuck)
section
variable [Tb] {K : PySem.W.Frag} {W : WX} {X : Cx}
theorem dp_none : PO X none (tP X.K W none) := po_none.weak fun σ H Q h => by
  obtain ⟨f, G, E, fp, ek, S, P⟩ := h
  exact P G H fp S fun _ => .refl S
theorem dp_some {e : Expr} {r : EvR} (h : DE X W e r) : PO X (some e) (tP X.K W (some r)) := (po_some h).weak fun σ H Q h => by
  obtain ⟨f, G, E, fp, ek, S, P⟩ := h
  refine ⟨f, G, E, fp, ek, S, ?_⟩
  have P : PostP f W σ Q G H E fp ((r E).bind fun a => match a.1.res a.2.1 with
    | some (.int i) => .ok (some i, a.2.1, a.2.2)
    | _ => .stuck) := P
  cases ea : r E with
  | stuck => rw [ea] at P; exact P
  | exc x E' => rw [ea] at P; exact P
  | ok a =>
    obtain ⟨oa, E1, c1⟩ := a
    rw [ea] at P
    intro v1 G1 H1 fp1 q1 S1 O1 W1 k1
    have P : PostP f W σ Q G H E fp (match oa.res E1 with
      | some (.int i) => .ok (some i, E1, c1)
      | _ => .stuck) := P
    cases er : oa.res E1 with
    | none => rw [er] at P; exact P.elim
    | some d =>
      rw [er] at P
      obtain ⟨q', r1, _⟩ := O1.rep S1 er
      cases d with
      | int i => exact ⟨i, r1.int_inv, P G1 H1 fp1 S1 k1⟩
      | _ => exact P.elim
theorem RpL.dropZ {G H : Hp} : ∀ (k : Nat) {xs : List D} {vs : List V}, RpL K G H xs vs [] → RpL K G H (xs.drop k) (vs.drop k) []
  | 0, _, _, h => h
  | k + 1, [], vs, h => by
    rw [h.len0.1]
    show RpL K G H [] [] []
    unfold RpL
    exact ⟨rfl, rfl⟩
  | k + 1, d :: ds, vs, h => by
    unfold RpL at h
    obtain ⟨v, r, f1, f2, rfl, e, h1, h2⟩ := h
    have e2 : f2 = [] := (List.append_eq_nil_iff.mp e.symm).2
    subst e2
    exact RpL.dropZ k h2
theorem RpL.takeZ {G H : Hp} : ∀ (k : Nat) {xs : List D} {vs : List V}, RpL K G H xs vs [] → RpL K G H (xs.take k) (vs.take k) []
  | 0, _, _, h => by
    rw [List.take_zero, List.take_zero]
    unfold RpL
    exact ⟨rfl, rfl⟩
  | k + 1, [], vs, h => by
    rw [h.len0.1]
    show RpL K G H [] [] []
    unfold RpL
    exact ⟨rfl, rfl⟩
  | k + 1, d :: ds, vs, h => by
    unfold RpL at h
    obtain ⟨v, r, f1, f2, rfl, e, h1, h2⟩ := h
    have e1 := (List.append_eq_nil_iff.mp e.symm).1
    have e2 := (List.append_eq_nil_iff.mp e.symm).2
    subst e1 e2
    show RpL K G H (d :: ds.take k) (v :: r.take k) []
    unfold RpL
    exact ⟨v, r.take k, [], [], rfl, rfl, h1, RpL.takeZ k h2⟩
theorem RpL.cut {G H : Hp} {xs : List D} {vs : List V} (h : RpL K G H xs vs []) (lo hi : Option Int) : RpL K G H (cutD xs lo hi) (cutV vs lo hi) [] := by
  have := h.len'
  unfold cutD cutV
  rw [this]
  exact (h.dropZ _).takeZ _
def rSlP (K : PySem.W.Frag) : V → Option Int → Option Int → Hp → VK → Prop := fun x lo hi H Q => rSlL K x lo hi H Q ∨ rSlA K x lo hi H Q
theorem sl_seq : SlR X (rSlP X.K) := sl_list.or sl_tupA
theorem rp_sl {G H : Hp} {x : V} {a d : D} {qa : List Addr} {lo hi : Option Int} {Q : VK} (ex : Same G H) (stb : ∀ p o, H p = some o → Stb o → G p = some o) (ha : Rp K G H a x qa) (eo : bSl a lo hi = some d)
    (q : ∀ v G' H' q, Step G H G' H' → Rp K G' H' d v q → q.Nodup → (∀ p ∈ q, H p = none) → Q v H') : rSlP K x lo hi H Q := by
  cases a with
  | lst m xs =>
    have eo : (if fzdL xs = true then some (D.lst true (cutD xs lo hi)) else none) = some d := eo
    split at eo
    · rename_i hz
      cases eo
      obtain ⟨a, vs, f, rfl, hs, hl, _⟩ := ha.lst_inv ex
      have hl := hl.fz0 hz
      refine .inl ⟨a, vs, rfl, hs, fun p hp => q _ G _ [p] (step_lst ex stb (fun z => z) hp) (Rp.newLst ex hp (hl.cut lo hi)) (by simp) fun r hr => ?_⟩
      have : r = p := by simpa using hr
      rw [this]; exact hp
    · cases eo
  | tup xs =>
    have eo : (if fzdL xs = true then some (D.tup (cutD xs lo hi)) else none) = some d := eo
    split at eo
    · rename_i hz
      cases eo
      obtain ⟨a, vs, rfl, hs, hsg, hl⟩ := ha.tup_inv ex
      have hl := hl.fz0 hz
      have len := hl.len'
      refine .inr ⟨a, vs, rfl, hs, fun hw => ?_, fun _ p hp => q _ _ _ [] (step_tup ex stb hp) (Rp.newTup ex stb hp (hl.cut lo hi)) List.nodup_nil fun _ h => nomatch h⟩
      have e : cutD xs lo hi = xs := by
        unfold cutD
        rw [← len, hw.1, hw.2, len]
        simp
      rw [e] at q
      refine q _ G H [] (.refl ex stb) ?_ List.nodup_nil fun _ h => nomatch h
      unfold Rp
      exact ⟨a, vs, rfl, hsg, hl⟩
    · cases eo
  | _ => cases eo
theorem tSl_of {ra : EvR} {lo hi : Option EvR} (σ : L2.St) (H : Hp) (Q : VK) (h : tE K W (rSl ra lo hi) σ H Q) : L2.tSl (rSlP K) (tE K W ra) (tP K W lo) (tP K W hi) σ H Q := by
  obtain ⟨f, G, E, fp, ek, S, P⟩ := h
  refine ⟨f, G, E, fp, ek, S, ?_⟩
  unfold rSl at P
  cases ea : ra E with
  | stuck => rw [ea] at P; exact P
  | exc x E' => rw [ea] at P; exact P
  | ok a =>
    obtain ⟨oa, E1, c1⟩ := a
    rw [ea] at P
    intro v1 G1 H1 fp1 q1 S1 O1 W1 k1
    have S1' := S1.push O1.at W1
    refine ⟨f.push G1 H1 q1, G1, E1, fp1, ek, S1', ?_⟩
    simp only [Rs.bind] at P
    cases el : rPt lo E1 with
    | stuck => simp only [el] at P; exact P
    | exc x E' => simp only [el] at P; exact PostX.pop S1 P
    | ok l =>
      obtain ⟨l, E2, c2⟩ := l
      simp only [el] at P
      intro G2 H2 fp2 S2 k2
      refine ⟨f.push G1 H1 q1, G2, E2, fp2, ek, S2, ?_⟩
      cases eh : rPt hi E2 with
      | stuck => simp only [eh] at P; exact P
      | exc x E' => simp only [eh] at P; exact PostX.pop S1 P
      | ok u =>
        obtain ⟨u, E3, c3⟩ := u
        simp only [eh] at P
        intro G3 H3 fp3 S3' k3
        have S3 := S1.pop S3'
        cases hb : oa.isBor && (c2 || c3) with
        | true => simp only [hb] at P; exact P.elim
        | false =>
          have kq : (c2 || c3) = false → Quiet G1 H1 G3 H3 E1 E3 fp1 fp3 := fun hc => by
            have hc' : c2 = false ∧ c3 = false := by simpa using hc
            exact (k2 hc'.1).trans (k3 hc'.2)
          have O3 := O1.wait hb S3' kq
          simp only [hb] at P
          cases er : oa.res E3 with
          | none => simp only [er] at P; exact P.elim
          | some d =>
            obtain ⟨q', r3, _⟩ := O3.rep S3 er
            simp only [er] at P
            cases eo : bSl d l u with
            | none => simp only [eo] at P; exact P.elim
            | some d' =>
              simp only [eo] at P
              subst ek
              refine rp_sl S3.ex S3.stb r3 eo fun v5 G5 H5 q5 st5 r5 hn5 hf5 => ?_
              refine fin2 (c := c1 || (c2 || c3)) S3 (fun hc => ?_) P st5 r5 hn5 hf5
              have hc' : c1 = false ∧ (c2 || c3) = false := by simpa using hc
              exact (k1 hc'.1).trans (kq hc'.2)
theorem de_sl {e : Expr} {lo hi : Option Expr} {p2 pos : Pos} {ra : EvR} {rl rh : Option EvR} (he : DE X W e ra) (hl : PO X lo (tP X.K W rl)) (hh : PO X hi (tP X.K W rh)) : DE X W (.Subscript e (.Slice lo hi none p2) pos) (rSl ra rl rh) := (pe_slice sl_seq he hl hh).weak tSl_of
end
end DV

namespace DV
open PySem L2

/-! ### x op= e -/
abbrev opAddI : D → D → Option D := opII fun i j => .int (i + j)
theorem rp_addI {K : PySem.W.Frag} : RP2 K (rI0 fun i j => .int (i + j)) opAddI := rp_II fun _ _ _ _ => .int _
@[simp] def sAug (i : Nat) (op : D → D → Option D) (r : EvR) : SvR := fun E => match E[i]? with
  | some (some x) => if x.fzd = true then (r E).bind fun a => (match a.1.res a.2.1 with
    | some y => (match op x y with
      | some d => if i < a.2.1.length then .ok (.nx, a.2.1.set i (some d)) else .stuck
      | none => .stuck)
    | none => .stuck) else .stuck
  | _ => .stuck
section
variable [Tb] {K : PySem.W.Frag} {W : WX} {X : Cx} {pn : Nat → Prop}
theorem tAug_of {i : Nat} {ti : R2} {op : D → D → Option D} {r : EvR} (np : ¬ pn i) (rp : RP2 K ti op) (Dn : Ends) (σ : L2.St) (H : Hp) (h : tS K pn W (sAug i op r) Dn σ H) : tAug i (tE K W r) ti Dn σ H := by
  obtain ⟨f, G, E, fp, ek, ep, S, P⟩ := h
  unfold sAug at P
  cases eE : E[i]? with
  | none => rw [eE] at P; exact P.elim
  | some o =>
    cases o with
    | none => rw [eE] at P; exact P.elim
    | some x =>
      rw [eE] at P
      have P : PostS f W Dn (if x.fzd = true then (r E).bind fun a => (match a.1.res a.2.1 with
        | some y => (match op x y with
          | some d => if i < a.2.1.length then .ok (.nx, a.2.1.set i (some d)) else .stuck
          | none => .stuck)
        | none => .stuck) else .stuck) := P
      split at P
      · rename_i hz
        obtain ⟨v, eσ, rv⟩ := S.slot i x eE
        have e0 := Rp.nil_of x v _ hz rv
        rw [e0] at rv
        have S0 := S.push (q := []) (fun p hp => nomatch hp) .nil
        refine ⟨v, eσ, f.push G H [], G, E, fp, ek, S0, ?_⟩
        cases ea : r E with
        | stuck => rw [ea] at P; exact P
        | exc xx E' =>
          rw [ea] at P
          exact PostX.pop S (P.at σ)
        | ok a =>
          obtain ⟨oa, E1, c1⟩ := a
          rw [ea] at P
          intro v1 G1 H1 fp1 q1 S1 O1 W1 k1
          simp only [Rs.bind] at P
          have S1p := S.pop S1
          cases er : oa.res E1 with
          | none => simp only [er] at P; exact P.elim
          | some y =>
            obtain ⟨q', ry, _⟩ := O1.rep S1 er
            simp only [er] at P
            cases eo : op x y with
            | none => simp only [eo] at P; exact P.elim
            | some d =>
              simp only [eo] at P
              split at P
              · rename_i hl
                subst ek
                have rx : Rp f.K G1 H1 x v [] := Rp.mono S1.g0 x v [] rv fun p hp => nomatch hp
                refine rp G1 H1 v v1 x y d [] q' _ S1p.ex S1p.stb rx ry eo fun v2 G2 H2 q2 st r2 hn hf => ?_
                exact P _ G2 H2 _ ((S1p.step st).set hl (by rw [ep]; exact np) r2 (S1p.fresh hn hf))
              · exact P.elim
      · exact P.elim
theorem ds_aug {i : Nat} {x : Str} {e : Expr} {r : EvR} {o : Operator} {ti : R2} {op : D → D → Option D} {pos pos' : Pos} (np : ¬ pn i) (hN : X.N.Nodup) (hi : X.N[i]? = some x) (hx : Loc X.env.scope x) (ho : OpR X (inplaceOp o) ti) (rp : RP2 X.K ti op) (he : DE X W e r)
    (hf : X.fn x = true ∨ X.env.scope.names.lookup x = some .local := by first | exact .inl rfl | exact .inr rfl) : DS X pn W (.AugAssign (.Name x pos') o e pos) (sAug i op r) := (ps_aug hN hi hx he ho hf).weak (tAug_of np rp)
end
end DV

namespace DV
open PySem L2

/-! ### in, not in: lists of any data, tuples of ints -/
def D.inL (x : D) (ys : List D) : Option Bool := match x.py, pyL ys with
  | some d, some ds => if (SeqAt.shaped d && SeqAt.shaped (.list ds)) = true then some (ds.any fun z => PyData.eqv z d) else none
  | _, _ => none
theorem inL_inv {x : D} {ys : List D} {k : Bool} (h : x.inL ys = some k) : ∃ d ds, x.py = some d ∧ pyL ys = some ds ∧ SeqAt.shaped d = true ∧ SeqAt.shaped (.list ds) = true ∧ k = ds.any fun z => PyData.eqv z d := by
  unfold D.inL at h
  cases ea : x.py with
  | none => rw [ea] at h; cases h
  | some d =>
    cases eb : pyL ys with
    | none => rw [ea, eb] at h; cases h
    | some ds =>
      rw [ea, eb] at h
      have h : (if (SeqAt.shaped d && SeqAt.shaped (.list ds)) = true then some (ds.any fun z => PyData.eqv z d) else none) = some k := h
      split at h
      · rename_i hs
        cases h
        have hs' := Bool.and_eq_true_iff.mp hs
        exact ⟨d, ds, rfl, rfl, hs'.1, hs'.2, rfl⟩
      · cases h
def opIn (neg : Bool) : D → D → Option D
  | x, .lst _ ys => (x.inL ys).map fun k => .bl (if neg then !k else k)
  | .int i, .tup ys => (intsD ys).map fun ns => .bl (if neg then !inV (.int i) (ns.map V.int) else inV (.int i) (ns.map V.int))
  | _, _ => none
def rInP (K : PySem.W.Frag) : R2 := fun x y H Q => rInD K x y H Q ∨ rIn K false x y H Q
def rNotInP (K : PySem.W.Frag) : R2 := fun x y H Q => rNotInD K x y H Q ∨ rIn K true x y H Q
theorem op_inP {X : Cx} (hu : X.A.units + 65 < cLine) : OpR X (compareOp .In) (rInP X.K) := (op_inD hu).or op_in_seq
theorem op_notInP {X : Cx} (hu : X.A.units + 65 < cLine) : OpR X (compareOp .NotIn) (rNotInP X.K) := (op_notInD hu).or op_notIn_seq
theorem flat_ints : ∀ ns : List Int, (ns.map V.int).all flatV = true
  | [] => rfl
  | _ :: ns => by
    rw [List.map_cons, List.all_cons, flat_ints ns]
    rfl
section
variable {K : PySem.W.Frag}
theorem in_lst {G H : Hp} {x y : V} {a : D} {m : Bool} {ys : List D} {qa qb : List Addr} {k : Bool} (ex : Same G H) (ha : Rp K G H a x qa) (hb : Rp K G H (.lst m ys) y qb) (e : a.inL ys = some k) :
    ∃ d ds, Dp K H x d ∧ Dp K H y (.list ds) ∧ SeqAt.shaped d = true ∧ SeqAt.shaped (.list ds) = true ∧ k = ds.any fun z => PyData.eqv z d := by
  obtain ⟨d, ds, e1, e2, s1, s2, rfl⟩ := inL_inv e
  refine ⟨d, ds, D.py_dp ex a x qa d ha e1, D.py_dp ex (.lst m ys) y qb (.list ds) hb ?_, s1, s2, rfl⟩
  rw [D.py, e2]
theorem in_tup {G H : Hp} {x y : V} {i : Int} {ys : List D} {qa qb : List Addr} {ns : List Int} (ex : Same G H) (ha : Rp K G H (.int i) x qa) (hb : Rp K G H (.tup ys) y qb) (e : intsD ys = some ns) : x = .int i ∧ ∃ p, y = .ref p ∧ SqT K H p (ns.map V.int) := by
  have := intsD_inv e
  subst this
  obtain ⟨p, vs, rfl, hs, _, hl⟩ := hb.tup_inv ex
  have := hl.ints
  subst this
  exact ⟨ha.int_inv, p, rfl, hs⟩
theorem rp_in : RP2 K (rInP K) (opIn false) := by
  intro G H x y a b d qa qb Q ex stb ha hb eo q
  have fin : ∀ k : Bool, d = .bl k → Q (.bl k) H := fun k e => by
    subst e
    exact q _ G H [] (.refl ex stb) (.bl _) List.nodup_nil fun _ h => nomatch h
  unfold opIn at eo
  split at eo
  · rename_i ys
    cases e : a.inL ys with
    | none => rw [e] at eo; cases eo
    | some k =>
      rw [e] at eo
      cases eo
      obtain ⟨u, us, h1, h2, h3, h4, rfl⟩ := in_lst ex ha hb e
      exact .inl ⟨u, us, h1, h2, h3, h4, fin _ rfl⟩
  · rename_i i ys
    cases e : intsD ys with
    | none => rw [e] at eo; cases eo
    | some ns =>
      rw [e] at eo
      cases eo
      obtain ⟨rfl, p, rfl, hs⟩ := in_tup ex ha hb e
      exact .inr ⟨p, _, rfl, .inr hs, rfl, flat_ints ns, fin _ rfl⟩
  · cases eo
theorem rp_notIn : RP2 K (rNotInP K) (opIn true) := by
  intro G H x y a b d qa qb Q ex stb ha hb eo q
  have fin : ∀ k : Bool, d = .bl k → Q (.bl k) H := fun k e => by
    subst e
    exact q _ G H [] (.refl ex stb) (.bl _) List.nodup_nil fun _ h => nomatch h
  unfold opIn at eo
  split at eo
  · rename_i ys
    cases e : a.inL ys with
    | none => rw [e] at eo; cases eo
    | some k =>
      rw [e] at eo
      cases eo
      obtain ⟨u, us, h1, h2, h3, h4, rfl⟩ := in_lst ex ha hb e
      exact .inl ⟨u, us, h1, h2, h3, h4, fin _ rfl⟩
  · rename_i i ys
    cases e : intsD ys with
    | none => rw [e] at eo; cases eo
    | some ns =>
      rw [e] at eo
      cases eo
      obtain ⟨rfl, p, rfl, hs⟩ := in_tup ex ha hb e
      exact .inr ⟨p, _, rfl, .inr hs, rfl, flat_ints ns, fin _ rfl⟩
  · cases eo
end
end DV

namespace DV
open PySem PySem.Spec PyProof.Rows L2

/-! ### a generator expression's frame -/
/-- its context: it starts at s, its iterator's objects at fp, the generator's own object pinned -/
abbrev gX (X : Cx) (s : Shared) (H : Hp) (ce : PySem.Env) (fp : List Addr) (pn : List (Addr × Obj)) (AG : Around) : Cx :=
  { X with A := AG, s_0 := s, H_0 := H, env := ce, outer := X.stack, stack := ce :: X.stack, ex := fp, fn := fun _ => false, pn := pn, xe := fun _ _ => False }
abbrev gE (X : Cx) (scope : Scope) (C : Addr) (code : Value) (bi : Addr) : PySem.Env := genEnv scope (cloFrom X.env.cells scope.names []) C code bi X.env

/-- the names of a generator expression's scope -/
structure GeOk (N : List Str) (sc scope : Scope) (own : List (Str × Nat)) : Prop where
  blk : BlkOk N sc scope own
  nocell : ∀ y ∈ scope.names, y.2 ≠ .cell
  dot : scope.names.lookup (".0" : Str) = some NameKind.local
  co : scope.isCoroutine = false
def geC (N : List Str) (sc scope : Scope) (own : List (Str × Nat)) : Bool :=
  blkC N sc scope own && (scope.names.all fun y => decide (y.2 ≠ .cell)) && decide (scope.names.lookup (".0" : Str) = some NameKind.local) && !scope.isCoroutine
theorem geOk_by {N : List Str} {sc scope : Scope} {own : List (Str × Nat)} (h : geC N sc scope own = true) : GeOk N sc scope own := by
  unfold geC at h
  rw [Bool.and_eq_true_iff, Bool.and_eq_true_iff, Bool.and_eq_true_iff] at h
  obtain ⟨⟨⟨h1, h2⟩, h3⟩, h4⟩ := h
  exact ⟨blkOk_by h1, fun y hy => of_decide_eq_true (List.all_eq_true.mp h2 y hy), of_decide_eq_true h3, by simpa using h4⟩

section
variable {X : Cx} {pins : List (Addr × Obj)} {σ : L2.St} {H : Hp} {s : Shared}
theorem ge_start {scope : Scope} {own : List (Str × Nat)} {fp : List Addr} {code : Value} {AG : Around} {g' : Array GenState} {h' : Heap} {tk : Nat} {m0 : Str → Option Value} {ga : Addr} {go : Obj} (I : Inv X pins σ H s) (ok : GeOk X.N X.env.scope scope own) (hN : X.N.Nodup)
    (hfp : ∀ b ∈ fp, FpOk X pins H b ∧ b < s.heap.objs.size) (hh : X.calm = true → AG.handled = none) (hfr : AG.frames = some (gE X scope s.heap.objs.size code builtinsNs :: X.stack)) (kp : ∀ b o, s.heap.get? b = some o → h'.get? b = some o)
    (hns : h'.Ns s.heap.objs.size m0) (hb : AllBare g') (hga : s.heap.objs.size < ga) (hgo : h'.get? ga = some go) (hgc : ∀ v, go.data ≠ .cell v) :
    Inv (gX X s H (gE X scope s.heap.objs.size code builtinsNs) fp [(ga, go)] AG) [] (wipe σ (own.map (·.2))) H { s with heap := h', gens := g', toks := tk } := by
  have cm : ∀ {y : Str} {c : Addr}, (y, c) ∈ cloFrom X.env.cells scope.names [] → X.env.cells.lookup y = some c ∧ c < s.heap.objs.size ∧ (y, NameKind.free) ∈ scope.names := fun {y c} hm => by
    rcases cloFrom_mem hm with hm | ⟨h1, rfl⟩
    · cases hm
    · have : ∃ c, X.env.cells.lookup y = some c := (ok.blk.free _ h1 rfl).elim (fun k => I.ok.has y (.inl k)) fun k => I.ok.has y (.inr k)
      obtain ⟨c, hc⟩ := this
      obtain ⟨v, z⟩ := I.cell y c hc
      rw [hc]
      exact ⟨rfl, z.lt, h1⟩
  have cl : ∀ {y : Str} {c : Addr}, (cloFrom X.env.cells scope.names []).lookup y = some c → X.env.cells.lookup y = some c ∧ c < s.heap.objs.size ∧ (y, NameKind.free) ∈ scope.names := fun e => cm (PySem.mem_of_lookup e)
  have lk : ∀ {y : Str}, scope.names.lookup y = some .free → ∃ c, (cloFrom X.env.cells scope.names []).lookup y = some c ∧ X.env.cells.lookup y = some c := fun {y} e => by
    obtain ⟨c, hc⟩ := mem_lookup (cloFrom_has (cells := X.env.cells) (acc := []) (PySem.mem_of_lookup e))
    exact ⟨c, hc, (cl hc).1⟩
  have nocell : ∀ {y : Str}, scope.names.lookup y ≠ some .cell := fun {y} e => ok.nocell _ (PySem.mem_of_lookup e) rfl
  have okX : (gX X s H (gE X scope s.heap.objs.size code builtinsNs) fp [(ga, go)] AG).Ok := {
    mod := I.ok.mod
    kind := ok.blk.kind
    glob := I.ok.glob
    blt := rfl
    above := Nat.le_refl _
    inj := fun y z c e1 e2 => I.ok.inj y z c (cl e1).1 (cl e2).1
    has := fun y hy => by
      rcases hy with hy | hy
      · exact absurd hy nocell
      · obtain ⟨c, h1, _⟩ := lk hy
        exact ⟨c, h1⟩
    cab := fun y c z _ => nomatch z
    hd := hh
    frames := hfr
    stk := .inr ⟨rfl, rfl⟩
    exf := fun b hb => ⟨Nat.ne_of_lt (hfp b hb).2, fun y c e => (hfp b hb).1.2.2.2.2.1 y c (cl e).1⟩
    bs := I.bs
    bsz := Nat.le_trans I.ok.bsz I.sz
    noex := fun b o e hm => by
      rcases (hfp b hm).1.2.2.2.1 with z | z
      · exact I.ok.noex b o e z
      · have h1 := Heap.lt_size e
        exact absurd (Nat.lt_of_lt_of_le h1 (Nat.le_trans I.ok.bsz z)) (Nat.lt_irrefl _)
    exfs := fun b hm z => by
      rcases List.mem_cons.mp (I.stkSub b z) with z | z
      · exact (hfp b hm).1.2.1 z
      · exact (hfp b hm).1.2.2.1 z
    funs := I.stack
    frf := I.stkFree }
  refine ⟨okX, rfl, hb, Un.kept kp, ⟨m0, hns, fun i y v e1 e2 e3 => ?_⟩, fun y c e => ?_, I.hok.fresh (Nat.le_refl _), fun y c e => I.freeC y c (cl e).1, fun p hp => ?_, I.hok.kept kp, by rw [wipe_length]; exact I.len⟩
  · obtain ⟨e2, hne⟩ := wipe_some e2
    have hf : scope.names.lookup y = some .free := by
      have e3 : scope.names.lookup y = some .local ∨ scope.names.lookup y = some .cell ∨ scope.names.lookup y = some .free := e3
      rcases e3 with e3 | e3 | e3
      · rcases ok.blk.own _ (PySem.mem_of_lookup e3) (.inl rfl) with z | z
        · obtain ⟨p, hp, hy⟩ := List.mem_map.mp z
          have e4 := ok.blk.ix p hp
          rw [show p.1 = y from hy] at e4
          exact absurd (List.mem_map.mpr ⟨p, hp, nodup_ix hN e4 e1⟩) hne
        · exact absurd (List.mem_of_getElem? e1) z
      · exact absurd e3 nocell
      · exact e3
    obtain ⟨m, hn, hl⟩ := I.loc
    obtain ⟨u, r, q⟩ := hl i y v e1 e2 ((ok.blk.free _ (PySem.mem_of_lookup hf) rfl).elim (fun k => .inr (.inl k)) fun k => .inr (.inr k))
    refine ⟨u, r, .inr ⟨.inr hf, ?_⟩⟩
    obtain ⟨c, h1, h2⟩ := lk hf
    rcases q with ⟨k, _⟩ | ⟨_, c', e', z⟩
    · have k : X.env.scope.names.lookup y = some .local := k
      rcases ok.blk.free _ (PySem.mem_of_lookup hf) rfl with k' | k' <;> rw [show X.env.scope.names.lookup y = _ from k'] at k <;> cases k
    · rw [h2] at e'
      cases e'
      exact ⟨c, h1, z.keeps kp⟩
  · obtain ⟨v, z⟩ := I.cell y c (cl e).1
    exact ⟨v, z.keeps kp⟩
  · have hp : p = (ga, go) := by simpa using hp
    subst hp
    refine ⟨hgo, I.hok.fresh (Nat.le_of_lt hga), Nat.ne_of_gt hga, fun z => ?_, hgc⟩
    have z : ga ∈ frs X.stack := z
    rcases List.mem_cons.mp (I.stkSub ga z) with z | z
    · exact absurd I.lt (by rw [← z]; exact Nat.not_lt.mpr (Nat.le_of_lt hga))
    · exact I.nofs (Nat.le_of_lt hga) z
/-- the def's context again -/
theorem ge_back {fp : List Addr} {ce : PySem.Env} {pn pl : List (Addr × Obj)} {AG : Around} {H' : Hp} {s' : Shared} {τ : L2.St} (I : Inv X pins σ H s) (hfp : ∀ b ∈ fp, FpOk X pins H b) (J : Inv (gX X s H ce fp pn AG) pl τ H' s') : Inv X pins σ H' s' :=
  I.call' (ch := fp) J.os J.base J.hok J.bare fun b hb => ⟨(hfp b hb).2.2.2.1, (hfp b hb).2.1, (hfp b hb).2.2.2.2.1, (hfp b hb).2.2.2.2.2⟩
/-- nothing but the generators' states has changed -/
theorem inv_gens {s' : Shared} (I : Inv X pins σ H s) (os : s'.os = s.os) (hb : AllBare s'.gens) (k : ∀ b o, s.heap.get? b = some o → s'.heap.get? b = some o) : Inv X pins σ H s' :=
  I.call' (ch := []) os (Un.kept k) (I.hok.kept k) hb fun b z => by simp at z
end
end DV

namespace DV
open PySem PySem.Spec PyProof.Rows L2

/-- while a generator sleeps: nothing but generators' states changes -/
structure Slp (s s' : Shared) : Prop where
  os : s'.os = s.os
  bare : AllBare s'.gens
  keep : ∀ b o, s.heap.get? b = some o → s'.heap.get? b = some o
/-- a truth value is handed out: with the one that stops all is told, with the other one it goes on -/
def gY (X : Cx) (pins : List (Addr × Obj)) (σ : L2.St) (ga : Addr) (g : Nat) (stop : Bool) (Q : VK) : Protocol := fun _ _ v s kap =>
  ∃ (b : Bool) (H' : Hp), v = .bool b ∧ Inv X pins σ H' s ∧ s.heap.IsGen ga g ∧ (b = stop → Q (.bl stop) H') ∧ (b = !stop → ∀ s', Slp s s' → kap (.send .none) s')
def gR (X : Cx) (pins : List (Addr × Obj)) (σ : L2.St) (stop : Bool) (Q : VK) : GenEnd := fun _ _ r s => r = .ok .next ∧ ∃ H', Inv X pins σ H' s ∧ Q (.bl (!stop)) H'
/-- a turn's reading -/
def gTurn (J : It) (g : L2.TG) (tt : L2.TT) (te : L2.TE) (vs : List Nat) (σ : L2.St) (stop : Bool) (Q : VK) (W : Nat → Nat → Hp → Prop) : Prop := ∀ i m H, W i m H →
  (J.stop i H ∧ Q (.bl (!stop)) H) ∨ (J.go i H ∧ ∃ Nx : Hp → Prop, (∀ H', Nx H' → ∃ m', m' < m ∧ W (i + 1) m' H') ∧ ∀ x H', J.yld i H x H' → g x (wipe σ vs) H' fun σ2 H2 => wipe σ2 vs = wipe σ vs ∧ tt σ2 H2 fun b H3 =>
    if b = true then te σ2 H3 fun y H4 => ∃ c : Bool, y = .bl c ∧ (c = stop → Q (.bl stop) H4) ∧ (c = !stop → Nx H4) else Nx H3)
section
variable {X : Cx} {pins : List (Addr × Obj)} {σ : L2.St} {HB : Hp} {sB : Shared} {ce : PySem.Env} {fp : List Addr} {ga it : Addr} {go : Obj} {A AG : Around} {tg elt iter : Expr} {ifs : List Expr} {scope : Scope} {pos : Pos} {stop : Bool} {Q : VK} {gn : Nat} {J : It} {tn : Nat → Heap → Prop} {gT : L2.TG} {tt : L2.TT} {te : L2.TE} {vs : List Nat} {W : Nat → Nat → Hp → Prop}
theorem seg_ge (hAG : A.over (.compLoop (.GeneratorExp elt [⟨tg, iter, ifs, 0⟩] scope pos) 0 (.ref it) .none ce) [] = AG) (I0 : Inv X pins σ HB sB) (hfp : ∀ b ∈ fp, FpOk X pins HB b) (hfl : ∀ b ∈ fp, b ≠ ga) (hc : X.calm = true) (hco : ce.scope.isCoroutine = false)
    (hG : ∀ h : Heap, h.get? ga = some go → h.IsGen ga gn) (T : Turn X.prog X.w X.K tg J fp it tn) (pg : PG (gX X sB HB ce fp [(ga, go)] AG) tg gT) (pt : PTs (gX X sB HB ce fp [(ga, go)] AG) ifs tt) (pe : PE (gX X sB HB ce fp [(ga, go)] AG) elt te) (turn : gTurn J gT tt te vs σ stop Q W) :
    ∀ (m n i : Nat) (H : Hp) (s₀ s : Shared), m < n → W i m H → Inv (gX X sB HB ce fp [(ga, go)] AG) [] (wipe σ vs) H s → tn i s.heap → (∀ b ∈ fp, H b = none) →
      Seg (model X.prog X.w) A (gR X pins σ stop Q) (gY X pins σ ga gn stop Q) n s₀ (.compLoop (.GeneratorExp elt [⟨tg, iter, ifs, 0⟩] scope pos) 0 (.ref it) .none ce)
        ((model X.prog X.w).den (.compLoop (.GeneratorExp elt [⟨tg, iter, ifs, 0⟩] scope pos) 0 (.ref it) .none ce)) [] s := by
  have stat : ∀ {pl : List (Addr × Obj)} {τ : L2.St} {H' : Hp} {s' : Shared}, pl = [] → Inv (gX X sB HB ce fp [(ga, go)] AG) pl τ H' s' → (∀ b ∈ fp, H' b = none) → ∀ b ∈ fp, FpOk (gX X sB HB ce fp [(ga, go)] AG) [] H' b := fun {pl τ H' s'} _ I' hn b hb =>
    ⟨hn b hb, (I'.ok.exf b hb).1, I'.ok.exfs b hb, .inl hb, fun x c e => (I'.ok.exf b hb).2 x c e, fun p hp => by
      have hp : p = (ga, go) := by simpa using hp
      rw [hp]
      exact fun z => hfl b hb z.symm⟩
  intro m
  induction m using Nat.strongRecOn with
  | ind m ih =>
    intro n i H s₀ s hmn w I st nfp
    show Seg _ A _ _ _ s₀ _ ((compTurn (.GeneratorExp elt [⟨tg, iter, ifs, 0⟩] scope pos) 0 (.ref it) .none ce).onRaise (leaving ce)) [] s
    rw [compTurn_gen, Sem.onRaise_eq_wrap]
    refine seg_bind_wrap (wpAny_standAt ?_)
    rcases turn i m H w with ⟨stp, q⟩ | ⟨gos, Nx, hNx, step⟩
    · have td := T.done (gX X sB HB ce fp [(ga, go)] AG) rfl rfl rfl hc i [] s _ H (fun _ _ => False) I (stat rfl I nfp) st stp
      refine seg_bind_wrap ?_
      rw [hAG]
      refine thnF td fun r s6 ⟨hr, I6⟩ => ?_
      subst hr
      exact seg_end (.ok .next) ⟨rfl, H, ge_back I0 hfp I6, q⟩
    · have ti := T.item (gX X sB HB ce fp [(ga, go)] AG) rfl rfl rfl hc i [] s _ H (fun _ _ => False) I (stat rfl I nfp) st gos
      refine seg_bind_wrap ?_
      rw [hAG]
      refine thnF ti fun r s6 ⟨u, hr, h6⟩ => ?_
      subst hr
      refine seg_bind_wrap ?_
      rw [hAG]
      refine thnF h6 fun _ s7 ⟨x, H7, I7, r7, y7, st7, n7⟩ => ?_
      have I7' := I7.pinned (stat rfl I7 n7) (T.obj _ _ st7)
      refine seg_bind_wrap ?_
      rw [hAG]
      refine thnF (pg.run _ s7 _ H7 x u _ I7' r7 (step x H7 y7)) fun _ s8 ⟨σ8, H8, I8, hw8, q8⟩ => ?_
      refine seg_bind_wrap ?_
      rw [hAG]
      refine thnF (pt.run _ s8 σ8 H8 _ I8 q8) fun b s9 ⟨H9, I9, q9⟩ => ?_
      have fin : ∀ {s' : Shared} {H' : Hp}, Inv (gX X sB HB ce fp [(ga, go)] AG) ([] ++ pinsAt fp s7.heap) σ8 H' s' → Inv (gX X sB HB ce fp [(ga, go)] AG) [] (wipe σ vs) H' s' ∧ tn (i + 1) s'.heap ∧ (∀ b ∈ fp, H' b = none) := fun {s' H'} I' => by
        have at_ : ∀ b ∈ fp, ∀ o, s7.heap.get? b = some o → s'.heap.get? b = some o ∧ H' b = none := fun b hb o e => by
          have z := I'.pin (b, o) (List.mem_append_right _ (List.mem_append_right _ (mem_pinsAt hb e)))
          exact ⟨z.1, z.2.1⟩
        have hl : (wipe σ vs).length = σ8.length := by rw [← hw8, wipe_length]
        refine ⟨(I'.unpinned (pins := [])).weak hl (fun j v e => ?_), T.keep _ _ _ st7 fun b hb o e => (at_ b hb o e).1, fun b hb => ?_⟩
        · rw [← hw8] at e
          exact (wipe_some e).1
        · obtain ⟨o, e, _⟩ := T.obj _ _ st7 b hb
          exact (at_ b hb o e).2
      cases b with
      | false =>
        simp only [Bool.false_eq_true, if_false] at q9 ⊢
        obtain ⟨m', hm, w'⟩ := hNx H9 q9
        obtain ⟨J1, J2, J3⟩ := fin I9
        exact seg_again rfl (ih m' hm n (i + 1) H9 s₀ s9 (by omega) w' J1 J2 J3)
      | true =>
        simp only [if_true] at q9 ⊢
        have hy : ∀ v, yieldOut ce v = yieldValue v := fun v => by simp only [yieldOut, hco, Bool.false_eq_true, if_false]
        simp only [hy]
        rw [Sem.bind_eq_wrap', Sem.bind_eq_wrap', Sem.wrap_wrap, Sem.wrap_wrap]
        refine seg_wrap ?_
        rw [hAG]
        refine thnF (pe.run _ s9 σ8 H9 _ I9 q9) fun z s10 ⟨yv, H10, I10, r10, c, ec, q1, q2⟩ => ?_
        subst ec
        have ez : z = Value.bool c := r10
        subst ez
        obtain ⟨J1, J2, J3⟩ := fin I10
        have hgen : s10.heap.IsGen ga gn := hG _ (J1.pin (ga, go) (List.mem_append_left _ List.mem_cons_self)).1
        obtain ⟨n, rfl⟩ : ∃ k, n = k + 1 := ⟨n - 1, by omega⟩
        refine seg_at (seg_yield rfl rfl rfl ⟨c, H10, rfl, ge_back I0 hfp J1, hgen, q1, fun hcs s'' z => ?_⟩)
        obtain ⟨m', hm, w'⟩ := hNx H10 (q2 hcs)
        refine seg_again rfl (ih m' hm n (i + 1) H10 s'' s'' (by omega) w' (inv_gens J1 z.os z.bare z.keep) (T.keep _ _ _ J2 fun b hb o e => z.keep b o e) J3)
/-- the start of its code -/
theorem seg_geStart (hAG : A.over (.compLoop (.GeneratorExp elt [⟨tg, iter, ifs, 0⟩] scope pos) 0 (.ref it) .none ce) [] = AG) (T : Turn X.prog X.w X.K tg J fp it tn) {R : GenEnd} {Y : Protocol} {n : Nat} {s₀ s : Shared} (st : tn 0 s.heap)
    (h : Seg (model X.prog X.w) A R Y n s₀ (.compLoop (.GeneratorExp elt [⟨tg, iter, ifs, 0⟩] scope pos) 0 (.ref it) .none ce) ((model X.prog X.w).den (.compLoop (.GeneratorExp elt [⟨tg, iter, ifs, 0⟩] scope pos) 0 (.ref it) .none ce)) [] s) :
    Seg (model X.prog X.w) A R Y n s₀ (.compStart (.GeneratorExp elt [⟨tg, iter, ifs, 0⟩] scope pos) 0 (.ref it) .none ce) ((model X.prog X.w).den (.compStart (.GeneratorExp elt [⟨tg, iter, ifs, 0⟩] scope pos) 0 (.ref it) .none ce)) [] s := by
  show Seg _ A _ _ _ s₀ _ ((compStart (.GeneratorExp elt [⟨tg, iter, ifs, 0⟩] scope pos) 0 (.ref it) .none ce).onRaise (leaving ce)) [] s
  unfold compStart
  rw [Sem.onRaise_eq_wrap]
  show Seg _ A _ _ _ s₀ _ ((ask >>= _).wrap _ _ _ _) [] s
  refine seg_bind_wrap (wpAny_askSetting ?_)
  split
  · exact seg_again rfl h
  · first
      | exact seg_bind_wrap (wpAny_rule (seg_bind_wrap (wpAny_standAt (seg_bind_wrap (T.self _ 0 s _ _ st (seg_again rfl h))))))
      | (refine seg_bind_wrap (wpAny_rule ?_)
         show Seg _ A _ _ _ s₀ _ ((standAt iter.pos >>= _).wrap _ _ _ _) [] s
         exact seg_bind_wrap (wpAny_standAt (seg_bind_wrap (T.self _ 0 s _ _ st (seg_again rfl h)))))
end

/-! ### all, any: the consumer's turns -/
theorem bare_set {s : Shared} {g : Nat} {x : GenState} (h : AllBare s.gens) (hx : x.bare = true) : AllBare (s.setGen g x).gens := fun y hy => by
  obtain ⟨i, hi, e⟩ := Array.mem_iff_getElem.mp hy
  have hi' : i < s.gens.size := by
    rw [GenW.setGen_size] at hi
    exact hi
  have e2 : (s.gens.setIfInBounds g x)[i]? = some y := by
    rw [← e]
    exact Array.getElem?_eq_getElem hi
  by_cases z : i = g
  · subst z
    rw [Array.getElem?_setIfInBounds_self_of_lt hi'] at e2
    cases e2
    exact hx
  · rw [Array.getElem?_setIfInBounds_ne (Ne.symm z)] at e2
    exact h y (Array.mem_of_getElem? e2)
theorem at_set {s : Shared} {g : Nat} {x : GenState} (h : g < s.gens.size) : (s.setGen g x).gens[g]? = some x := by
  show (s.gens.setIfInBounds g x)[g]? = some x
  exact Array.getElem?_setIfInBounds_self_of_lt h
section
variable {X : Cx} {pins : List (Addr × Obj)} {σ : L2.St} {ga : Addr} {gn : Nat} {A : Around} {Q : VK} {R : Result → Shared → Prop}
/-- the generator sleeps, ready to go on -/
def gZ (X : Cx) (A : Around) (pins : List (Addr × Obj)) (σ : L2.St) (ga : Addr) (gn : Nat) (stop : Bool) (Q : VK) (n : Nat) (s : Shared) : Prop :=
  s.heap.IsGen ga gn ∧ s.heap.NoLimit ∧ ∃ gs, s.gens[gn]? = some gs ∧ gs.Goes (model X.prog X.w) A.in1 (gR X pins σ stop Q) (gY X pins σ ga gn stop Q) n (.send .none) (s.setGen gn .running)
theorem next_ge {stop : Bool} {n : Nat} {s : Shared} {K : Option Value → Shared → Prop} {E : Value → Shared → Prop} (hh : A.handled = none) (hd : A.depth < recursionLimit) (h : gZ X A pins σ ga gn stop Q n s)
    (hend : ∀ H' s', L2.Inv X pins σ H' s' → Q (.bl (!stop)) H' → K none s')
    (hy : ∀ c H' s', L2.Inv X pins σ H' s' → (c = stop → Q (.bl stop) H') → (c = !stop → ∃ k, n = k + 1 ∧ gZ X A pins σ ga gn stop Q k s') → K (some (.bool c)) s') :
    wpAny (model X.prog X.w) A (pyNext (.ref ga)) K E s := by
  obtain ⟨hg, hl, gs, hgs, hgo⟩ := h
  have hlt : gn < s.gens.size := (Array.getElem?_eq_some_iff.mp hgs).1
  refine GenW.wpAny_gsz (n := gn + 1) hlt (wpAny_pyNext_genexpQ (P := fun _ _ s₁ => ∃ H', L2.Inv X pins σ H' s₁ ∧ Q (.bl (!stop)) H') hh hl hd hg hgs hgo (fun v s₁ gs' hb hv => ?_) fun s₁ hp h' hk => ?_)
  · intro hsz
    rw [GenW.setGen_size] at hsz
    obtain ⟨b, H', rfl, I, hg', q1, q2⟩ := hv
    have I' : L2.Inv X pins σ H' (s₁.setGen gn gs') := inv_gens I rfl (bare_set I.bare hb) fun _ _ e => e
    refine hy b H' _ I' q1 fun hc => ?_
    have hk := q2 hc ((s₁.setGen gn gs').setGen gn .running) ⟨rfl, bare_set (bare_set I.bare hb) rfl, fun _ _ e => e⟩
    cases n with
    | zero => exact hk.elim
    | succ k => exact ⟨k, rfl, hg', I.nolimit, gs', at_set hsz, hk⟩
  · intro _
    obtain ⟨H', I, q⟩ := hp
    exact hend H' _ (inv_gens I rfl (bare_set I.bare rfl) hk) q
theorem all_turns (hh : A.handled = none) (hd : A.depth < recursionLimit) (hR : ∀ b H' s', L2.Inv X pins σ H' s' → Q (.bl b) H' → R (.ok (.ret (.bool b))) s') :
    ∀ (n : Nat) (s : Shared), gZ X A.in1 pins σ ga gn false Q n s → codeAny (model X.prog X.w) A (.builtin "all.loop" ⟨[.ref ga], []⟩) R s := by
  intro n
  induction n with
  | zero =>
    intro s h
    refine codeAny_builtin F.entry_all_loop ?_
    rw [Around.under_plainId F.plain_all_loop _]
    refine wpAny_bind (next_ge (A := A.in1) hh hd h (fun H' s' I q => wpAny_bind (wpAny_rule (wpAny_pure (hR _ H' s' I q)))) fun c H' s' I q1 q2 => ?_)
    refine wpAny_bind (wpAny_holding (wpAny_truthy_bool ?_))
    refine wpAny_bind (wpAny_letGo ?_)
    cases c with
    | true => obtain ⟨k, e, _⟩ := q2 rfl; cases e
    | false =>
      simp only [Bool.false_eq_true, if_false]
      exact wpAny_bind (wpAny_rule (wpAny_pure (hR _ H' s' I (q1 rfl))))
  | succ n ih =>
    intro s h
    refine codeAny_builtin F.entry_all_loop ?_
    rw [Around.under_plainId F.plain_all_loop _]
    refine wpAny_bind (next_ge (A := A.in1) hh hd h (fun H' s' I q => wpAny_bind (wpAny_rule (wpAny_pure (hR _ H' s' I q)))) fun c H' s' I q1 q2 => ?_)
    refine wpAny_bind (wpAny_holding (wpAny_truthy_bool ?_))
    refine wpAny_bind (wpAny_letGo ?_)
    cases c with
    | true =>
      obtain ⟨k, e, z⟩ := q2 rfl
      cases e
      simp only [if_true]
      exact wpAny_pure ⟨plainId_quiet F.plain_all_loop _, ih _ z⟩
    | false =>
      simp only [Bool.false_eq_true, if_false]
      exact wpAny_bind (wpAny_rule (wpAny_pure (hR _ H' s' I (q1 rfl))))
theorem any_turns (hh : A.handled = none) (hd : A.depth < recursionLimit) (hR : ∀ b H' s', L2.Inv X pins σ H' s' → Q (.bl b) H' → R (.ok (.ret (.bool b))) s') :
    ∀ (n : Nat) (s : Shared), gZ X A.in1 pins σ ga gn true Q n s → codeAny (model X.prog X.w) A (.builtin "any.loop" ⟨[.ref ga], []⟩) R s := by
  intro n
  induction n with
  | zero =>
    intro s h
    refine codeAny_builtin F.entry_any_loop ?_
    rw [Around.under_plainId F.plain_any_loop _]
    refine wpAny_bind (next_ge (A := A.in1) hh hd h (fun H' s' I q => wpAny_bind (wpAny_rule (wpAny_pure (hR _ H' s' I q)))) fun c H' s' I q1 q2 => ?_)
    refine wpAny_bind (wpAny_holding (wpAny_truthy_bool ?_))
    refine wpAny_bind (wpAny_letGo ?_)
    cases c with
    | false => obtain ⟨k, e, _⟩ := q2 rfl; cases e
    | true =>
      simp only [if_true]
      exact wpAny_bind (wpAny_rule (wpAny_pure (hR _ H' s' I (q1 rfl))))
  | succ n ih =>
    intro s h
    refine codeAny_builtin F.entry_any_loop ?_
    rw [Around.under_plainId F.plain_any_loop _]
    refine wpAny_bind (next_ge (A := A.in1) hh hd h (fun H' s' I q => wpAny_bind (wpAny_rule (wpAny_pure (hR _ H' s' I q)))) fun c H' s' I q1 q2 => ?_)
    refine wpAny_bind (wpAny_holding (wpAny_truthy_bool ?_))
    refine wpAny_bind (wpAny_letGo ?_)
    cases c with
    | false =>
      obtain ⟨k, e, z⟩ := q2 rfl
      cases e
      simp only [Bool.false_eq_true, if_false]
      exact wpAny_pure ⟨plainId_quiet F.plain_any_loop _, ih _ z⟩
    | true =>
      simp only [if_true]
      exact wpAny_bind (wpAny_rule (wpAny_pure (hR _ H' s' I (q1 rfl))))
end
end DV

namespace DV
open PySem PySem.Spec PyProof.Rows L2

def tGe (P : Addr) (stop : Bool) (wi : L2.TI) (g : L2.TG) (tt : L2.TT) (te : L2.TE) (vs : List Nat) : L2.TE := fun σ H Q => wi σ H fun J H1 => GxR.TabG H1 P ∧ ∀ H2, GxR.Tabbed P H1 H2 → ∃ W : Nat → Nat → Hp → Prop, (∃ m, W 0 m H2) ∧ gTurn J g tt te vs σ stop Q W
section
variable {X : Cx} {pins : List (Addr × Obj)} {σ : L2.St} {H : Hp} {s : Shared} {c P : Addr} {elt tg iter : Expr} {ifs : List Expr} {scope : Scope} {own : List (Str × Nat)} {gpos : Pos} {wi : L2.TI} {gT : L2.TG} {tt : L2.TT} {te : L2.TE} {k : Nat} {stop : Bool}
theorem over_frames {A : Around} {l : List PySem.Env} {it : Addr} {ce : PySem.Env} (h : A.frames = some l) : (A.over (.compLoop (.GeneratorExp elt [⟨tg, iter, ifs, 0⟩] scope gpos) 0 (.ref it) .none ce) []).frames = some (ce :: l) := by
  show pushEnvs [ce] (pushEnvs [] A.frames) = _
  rw [h]
  rfl
/-- the generator is made; K is reached with it asleep -/
theorem ge_made {Q : VK} {K : Value → Shared → Prop} (hr : Room (k + 1) X.A) (TB : GxR.TabB X.base X.mg c P) (hcode : X.env.code = .ref c) (ok : GeOk X.N X.env.scope scope own) (hN : X.N.Nodup) (hcalm : X.calm = true) (hi : PI X tg iter wi)
    (hg : ∀ (s : Shared) (H : Hp) (C : Addr) (code : Value) (fp : List Addr) (pn : List (Addr × Obj)) (AG : Around), Room k AG → PG (gX X s H (gE X scope C code builtinsNs) fp pn AG) tg gT)
    (ht : ∀ (s : Shared) (H : Hp) (C : Addr) (code : Value) (fp : List Addr) (pn : List (Addr × Obj)) (AG : Around), Room k AG → PTs (gX X s H (gE X scope C code builtinsNs) fp pn AG) ifs tt)
    (he : ∀ (s : Shared) (H : Hp) (C : Addr) (code : Value) (fp : List Addr) (pn : List (Addr × Obj)) (AG : Around), Room k AG → PE (gX X s H (gE X scope C code builtinsNs) fp pn AG) elt te)
    (hs : ∀ v, genFold iter X.env v = pure v) (I : L2.Inv X pins σ H s) (h : tGe P stop wi gT tt te (own.map (·.2)) σ H Q)
    (hK : ∀ ga gn n s', s'.heap.IsGen ga gn → gZ X X.A.in1 pins σ ga gn stop Q n s' → K (.ref ga) s') :
    wpAny (model X.prog X.w) X.A (eval (.GeneratorExp elt [⟨tg, iter, ifs, 0⟩] scope gpos) X.env) K X.xe s := by
  have hfree : ∀ y ∈ scope.names, y.2 = .free → ∃ c, X.env.cells.lookup y.1 = some c := fun y hy e => (ok.blk.free y hy e).elim (fun z => I.ok.has _ (.inl z)) fun z => I.ok.has _ (.inr z)
  refine wpAny_GeneratorExp_make ok.co (closure_ok hfree) ok.nocell ok.dot ok.blk.kind (by have := hr.dp; omega) ?_ hs
  refine thn (hi.run pins s σ H _ I h) fun xv s1 hx => thn hx fun itv s2 h2 => ?_
  obtain ⟨it, fp, tn, J, H1, rfl, I2, T, st2, f2, ⟨ps, hP, htr⟩, q⟩ := h2
  refine ⟨I2.nolimit, ?_⟩
  have hPs : s2.heap.get? P = some { cls := .none, data := .fields ps } := I2.hok P _ hP
  have cd : PySem.W.CodeHd s2.heap c P := TB.code.keeps fun b o e => I2.bk b o e
  have nP : ∀ b ∈ fp, b ≠ P := fun b hb z => by
    have := (f2 b hb).1
    rw [z, hP] at this
    cases this
  have cont : ∀ (code : Value) (h3 : Heap) (tk : Nat) (more : Array Value), (∀ b o, b ≠ P → s2.heap.get? b = some o → h3.get? b = some o) → h3.get? P = some { cls := .none, data := .fields (ps ++ more) } → TriplesOk (ps ++ more).toList →
      wpAny (model X.prog X.w) X.A (builtinsFor X.env.globals X.env.builtins) (fun bi s₄ => ∀ h', h'.Ns s₄.heap.objs.size (fun y => if y = (".0" : Str) then some (.ref it) else none) → Heap.SameBut s₄.heap.objs.size (s₄.heap.push { cls := .type "frame", data := .dict #[] }) h' →
          K (.ref h'.objs.size) { s₄ with gens := s₄.gens.push (.fresh (.compStart (.GeneratorExp elt [⟨tg, iter, ifs, 0⟩] scope gpos) 0 (.ref it) .none (gE X scope s₄.heap.objs.size code bi))), toks := s₄.toks + 1 + 1 + 1, heap := h'.push { cls := .type "generator", data := .fields #[.int s₄.gens.size 0, .str "<genexpr>" (s₄.toks + 1), .str (X.env.qual ++ "<genexpr>") (s₄.toks + 1 + 1)] } }) X.xe { s2 with heap := h3, toks := tk } := by
    intro code h3 tk more hk hP3 ht3
    have I3 := GxR.inv_tab (more := more) (h' := h3) (g' := s2.gens) (d' := s2.drawn) (t' := tk) I2 hP hk hP3 I2.bare
    have tb : GxR.Tabbed P H1 (upd H1 P (.tbl (ps ++ more))) := ⟨⟨ps ++ more, upd_same, ht3⟩, fun b hb => upd_ne hb⟩
    obtain ⟨W, ⟨m, w⟩, turn⟩ := q _ tb
    obtain ⟨bm, ob, e1, e2, e3, e4, e5, e6, e7, e8⟩ := TB.bm
    refine wpAny_builtinsFor (m := X.mg) (o := ob) (bm := bm) ?_ e1 e2 (hk _ _ e4 (I2.bk _ _ e5)) e6 e7 e8 ?_
    · rw [I.ok.glob]
      exact I3.mod.glob.keeps I3.bk
    intro h' hns hsb
    generalize hs3 : ({ s2 with heap := h3, toks := tk } : Shared) = s3 at I3 hns hsb ⊢
    have h3h : s3.heap = h3 := by rw [← hs3]
    have sz : h'.objs.size = s3.heap.objs.size + 1 := by
      rw [hsb.1, Heap.size_push]
    have kp' : ∀ b o, s3.heap.get? b = some o → h'.get? b = some o := fun b o e => hsb.extBut b o (Nat.ne_of_lt (Heap.lt_size e)) (Heap.get?_push_of_some _ e)
    have st3 : tn 0 s3.heap := T.keep _ _ _ st2 fun b hb o e => by rw [h3h]; exact hk b o (nP b hb) e
    have f3 : ∀ b ∈ fp, FpOk X pins (upd H1 P (.tbl (ps ++ more))) b := fun b hb => ⟨(upd_ne (nP b hb)).trans (f2 b hb).1, (f2 b hb).2⟩
    have lt3 : ∀ b ∈ fp, b < s3.heap.objs.size := fun b hb => by
      obtain ⟨o, e, _⟩ := T.obj _ _ st3 b hb
      exact Heap.lt_size e
    have main : ∀ (go : Obj) (tk' : Nat), (∀ h : Heap, h.get? h'.objs.size = some go → h.IsGen h'.objs.size s3.gens.size) → (∀ v, go.data ≠ .cell v) → (h'.push go).get? h'.objs.size = some go →
        K (.ref h'.objs.size) { s3 with gens := s3.gens.push (.fresh (.compStart (.GeneratorExp elt [⟨tg, iter, ifs, 0⟩] scope gpos) 0 (.ref it) .none (gE X scope s3.heap.objs.size code builtinsNs))), toks := tk', heap := h'.push go } := by
      intro go tk' hG hgd hgo
      have kpF : ∀ b o, s3.heap.get? b = some o → (h'.push go).get? b = some o := fun b o e => Heap.get?_push_of_some _ (kp' b o e)
      have hb5 : AllBare (s3.gens.push (.fresh (.compStart (.GeneratorExp elt [⟨tg, iter, ifs, 0⟩] scope gpos) 0 (.ref it) .none (gE X scope s3.heap.objs.size code builtinsNs)))) := AllBare.push I3.bare rfl
      have fr : (X.A.in1.in1.over (.compLoop (.GeneratorExp elt [⟨tg, iter, ifs, 0⟩] scope gpos) 0 (.ref it) .none (gE X scope s3.heap.objs.size code builtinsNs)) []).frames = some (gE X scope s3.heap.objs.size code builtinsNs :: X.stack) := over_frames (A := X.A.in1.in1) I.ok.frames
      have rm : Room k (X.A.in1.in1.over (.compLoop (.GeneratorExp elt [⟨tg, iter, ifs, 0⟩] scope gpos) 0 (.ref it) .none (gE X scope s3.heap.objs.size code builtinsNs)) []) := by
        refine ⟨hr.hd, ?_, ?_⟩
        · have := hr.dp
          show X.A.depth + 0 + 1 + 3 * k + 5 < _
          omega
        · have := hr.un
          show X.A.units + 1 + 1 + 0 + 3 + 16 * k + 200 < _
          omega
      have I5 := ge_start (fp := fp) (code := code) (g' := s3.gens.push (.fresh (.compStart (.GeneratorExp elt [⟨tg, iter, ifs, 0⟩] scope gpos) 0 (.ref it) .none (gE X scope s3.heap.objs.size code builtinsNs)))) (tk := tk') (ga := h'.objs.size) (go := go) I3 ok hN
        (fun b hb => ⟨f3 b hb, lt3 b hb⟩) (fun _ => rm.hd) fr kpF (hns.keeps fun b o e => Heap.get?_push_of_some _ e) hb5 (by rw [sz]; exact Nat.lt_succ_self _) hgo hgd
      have sg := seg_ge (A := X.A.in1.in1) (Q := Q) (gn := s3.gens.size) (W := W) rfl I3 f3 (fun b hb z => absurd (lt3 b hb) (by rw [z, sz]; exact Nat.not_lt.mpr (Nat.le_succ _))) hcalm ok.co hG T (hg s3 _ s3.heap.objs.size code fp [(h'.objs.size, go)] _ rm)
        (ht s3 _ s3.heap.objs.size code fp [(h'.objs.size, go)] _ rm) (he s3 _ s3.heap.objs.size code fp [(h'.objs.size, go)] _ rm) turn m (m + 1) 0 (upd H1 P (.tbl (ps ++ more)))
      refine hK _ s3.gens.size (m + 1) _ (hG _ hgo) ⟨hG _ hgo, I5.nolimit, _, Array.getElem?_push_size .., rfl, ?_⟩
      refine seg_geStart (X := X) (ce := gE X scope s3.heap.objs.size code builtinsNs) rfl T (T.keep _ _ _ st3 fun b hb o e => kpF b o e) (sg _ _ (Nat.lt_succ_self _) w ?_ (T.keep _ _ _ st3 fun b hb o e => kpF b o e) fun b hb => (f3 b hb).1)
      exact inv_gens I5 rfl (bare_set (s := { s3 with gens := _, toks := tk', heap := h'.push go }) hb5 rfl) fun _ _ e => e
    exact main _ _ (fun h e => ⟨_, _, _, e, rfl, rfl, rfl⟩) (fun v z => by cases z) (Heap.get?_push_size _ rfl)
  cases hf : codeAmong gpos ps.toList with
  | none =>
    refine wpAny_genexprCodeX hcode (cd.code hPs htr) (cd.tab hPs) hf fun c' h' tk hx hge hlt hco' _ htab' _ => ?_
    obtain ⟨_, _, _, _, _, _, _, _, _, _, _, _, _, _, _, _, _, _, _, htr', _⟩ := hco'
    exact cont _ h' tk _ hx htab'.2 htr'
  | some cv =>
    refine wpAny_genexprCode_hit hcode (cd.code hPs htr) hf ?_
    exact cont cv s2.heap s2.toks #[] (fun _ _ _ e => e) (by rw [Array.append_empty]; exact hPs) (by rw [Array.append_empty]; exact htr)
variable {p pos : Pos}
theorem pe_allG (hr : Room (k + 1) X.A) (hgl : Gl X "all") (hm : X.mg "all" = none) (hbt : bootBuiltins "all" = some (.builtin "all")) (TB : GxR.TabB X.base X.mg c P) (hcode : X.env.code = .ref c) (ok : GeOk X.N X.env.scope scope own) (hN : X.N.Nodup) (hcalm : X.calm = true) (hi : PI X tg iter wi)
    (hg : ∀ (s : Shared) (H : Hp) (C : Addr) (code : Value) (fp : List Addr) (pn : List (Addr × Obj)) (AG : Around), Room k AG → PG (gX X s H (gE X scope C code builtinsNs) fp pn AG) tg gT)
    (ht : ∀ (s : Shared) (H : Hp) (C : Addr) (code : Value) (fp : List Addr) (pn : List (Addr × Obj)) (AG : Around), Room k AG → PTs (gX X s H (gE X scope C code builtinsNs) fp pn AG) ifs tt)
    (he : ∀ (s : Shared) (H : Hp) (C : Addr) (code : Value) (fp : List Addr) (pn : List (Addr × Obj)) (AG : Around), Room k AG → PE (gX X s H (gE X scope C code builtinsNs) fp pn AG) elt te)
    (hs : ∀ v, genFold iter X.env v = pure v := by intro _; rfl)
    (hst : starEach [.GeneratorExp elt [⟨tg, iter, ifs, 0⟩] scope gpos] X.env = (false, eval (.GeneratorExp elt [⟨tg, iter, ifs, 0⟩] scope gpos) X.env) :: starEach [] X.env := by rfl) :
    PE X (.Call (.Name "all" p) [.GeneratorExp elt [⟨tg, iter, ifs, 0⟩] scope gpos] [] pos) (tGe P false wi gT tt te (own.map (·.2))) := by
  refine ⟨fun pins s σ H Q I h => ?_⟩
  refine wpAny_Call_Name_kw (ld_blt I hgl hm hbt ?_)
  refine PyProof.Rows.callWith_builtin1 ?_ hst (by rfl)
  rw [hst]
  show wpAny _ _ (spliced ((false, eval (.GeneratorExp elt [⟨tg, iter, ifs, 0⟩] scope gpos) X.env) :: backTo pos (starEach [] X.env))) _ _ s
  refine Calls.spliced_cons (ge_made (stop := false) (Q := Q) hr TB hcode ok hN hcalm hi hg ht he hs I h fun ga gn n s5 hgen hz => ?_)
  refine Calls.spliced_nil ?_
  refine call_function_tree F.kind_all F.plain_all F.entry_all (F.args_all1 _) ?_
  unfold Builtin.«all»
  refine wpAny_bind (m := oneArg "all" _) (wpAny_pure ?_)
  refine wpAny_bind (wpAny_pyIter_gen hgen ?_)
  exact wpAny_pure ⟨plainId_quiet F.plain_all_loop _, all_turns hr.hd (by have := hr.dp; omega) (fun b H' s' I' q => ⟨.bl b, H', I', rfl, q⟩) n s5 hz⟩
theorem pe_anyG (hr : Room (k + 1) X.A) (hgl : Gl X "any") (hm : X.mg "any" = none) (hbt : bootBuiltins "any" = some (.builtin "any")) (TB : GxR.TabB X.base X.mg c P) (hcode : X.env.code = .ref c) (ok : GeOk X.N X.env.scope scope own) (hN : X.N.Nodup) (hcalm : X.calm = true) (hi : PI X tg iter wi)
    (hg : ∀ (s : Shared) (H : Hp) (C : Addr) (code : Value) (fp : List Addr) (pn : List (Addr × Obj)) (AG : Around), Room k AG → PG (gX X s H (gE X scope C code builtinsNs) fp pn AG) tg gT)
    (ht : ∀ (s : Shared) (H : Hp) (C : Addr) (code : Value) (fp : List Addr) (pn : List (Addr × Obj)) (AG : Around), Room k AG → PTs (gX X s H (gE X scope C code builtinsNs) fp pn AG) ifs tt)
    (he : ∀ (s : Shared) (H : Hp) (C : Addr) (code : Value) (fp : List Addr) (pn : List (Addr × Obj)) (AG : Around), Room k AG → PE (gX X s H (gE X scope C code builtinsNs) fp pn AG) elt te)
    (hs : ∀ v, genFold iter X.env v = pure v := by intro _; rfl)
    (hst : starEach [.GeneratorExp elt [⟨tg, iter, ifs, 0⟩] scope gpos] X.env = (false, eval (.GeneratorExp elt [⟨tg, iter, ifs, 0⟩] scope gpos) X.env) :: starEach [] X.env := by rfl) :
    PE X (.Call (.Name "any" p) [.GeneratorExp elt [⟨tg, iter, ifs, 0⟩] scope gpos] [] pos) (tGe P true wi gT tt te (own.map (·.2))) := by
  refine ⟨fun pins s σ H Q I h => ?_⟩
  refine wpAny_Call_Name_kw (ld_blt I hgl hm hbt ?_)
  refine PyProof.Rows.callWith_builtin1 ?_ hst (by rfl)
  rw [hst]
  show wpAny _ _ (spliced ((false, eval (.GeneratorExp elt [⟨tg, iter, ifs, 0⟩] scope gpos) X.env) :: backTo pos (starEach [] X.env))) _ _ s
  refine Calls.spliced_cons (ge_made (stop := true) (Q := Q) hr TB hcode ok hN hcalm hi hg ht he hs I h fun ga gn n s5 hgen hz => ?_)
  refine Calls.spliced_nil ?_
  refine call_function_tree F.kind_any F.plain_any F.entry_any (F.args_any1 _) ?_
  unfold Builtin.«any»
  refine wpAny_bind (m := oneArg "any" _) (wpAny_pure ?_)
  refine wpAny_bind (wpAny_pyIter_gen hgen ?_)
  exact wpAny_pure ⟨plainId_quiet F.plain_any_loop _, any_turns hr.hd (by have := hr.dp; omega) (fun b H' s' I' q => ⟨.bl b, H', I', rfl, q⟩) n s5 hz⟩
end
end DV

namespace DV
open PySem L2

/-! ### all, any of a generator expression, on data -/
@[simp] def aaTurn (g : GvR) (t : TvR) (re : EvR) (d : D) (E : Env) : Rs (Env × Option Bool) := match g d E with
  | none => .stuck
  | some E1 => (noX (t E1)).bind fun b => if b.1 = true then (noX (re b.2.1)).bind fun o => (match o.1.res o.2.1 with
    | some (.bl c) => .ok (o.2.1, some c)
    | _ => .stuck) else .ok (b.2.1, none)
def aaLoop (stop : Bool) (vs : List Nat) (g : GvR) (t : TvR) (re : EvR) : List D → Env → Rs (Env × Bool)
  | [], E => .ok (E, !stop)
  | d :: ds, E => (aaTurn g t re d E).bind fun r => if r.2 = some stop then .ok (clr vs r.1, stop) else aaLoop stop vs g t re ds (clr vs r.1)
@[simp] def rAA (stop : Bool) (vs : List Nat) (ri : IvR) (g : GvR) (t : TvR) (re : EvR) : EvR := fun E =>
  (ri E).bind fun a => (aaLoop stop vs g t re a.1 (clr vs a.2)).bind fun r => if r.1.length = a.2.length then .ok (.val (.bl r.2), back vs a.2 r.1, true) else .stuck
section
variable [Tb] {X : Cx} {W : WX} {K : PySem.W.Frag}
theorem aaTurn_nox {g : GvR} {t : TvR} {re : EvR} {d : D} {E E1 : Env} {x : Xc} : aaTurn g t re d E ≠ .exc x E1 := fun z => by
  unfold aaTurn at z
  cases hg : g d E with
  | none => rw [hg] at z; cases z
  | some E2 =>
    rw [hg] at z
    have z : (noX (t E2)).bind (fun b => if b.1 = true then (noX (re b.2.1)).bind fun o => (match o.1.res o.2.1 with
      | some (.bl c) => .ok (o.2.1, some c)
      | _ => .stuck) else .ok (b.2.1, none)) = .exc x E1 := z
    cases ht : t E2 with
    | stuck => rw [ht] at z; cases z
    | exc _ _ => rw [ht] at z; cases z
    | ok b =>
      rw [ht] at z
      have z : (if b.1 = true then (noX (re b.2.1)).bind (fun o => (match o.1.res o.2.1 with
        | some (.bl c) => .ok (o.2.1, some c)
        | _ => .stuck)) else .ok (b.2.1, none)) = .exc x E1 := z
      split at z
      · cases hr : re b.2.1 with
        | stuck => rw [hr] at z; cases z
        | exc _ _ => rw [hr] at z; cases z
        | ok o =>
          rw [hr] at z
          have z : (match o.1.res o.2.1 with
            | some (.bl c) => .ok (o.2.1, some c)
            | _ => .stuck) = (.exc x E1 : Rs (Env × Option Bool)) := z
          split at z <;> cases z
      · cases z
theorem aaLoop_nox {stop : Bool} {vs : List Nat} {g : GvR} {t : TvR} {re : EvR} {x : Xc} {E1 : Env} : ∀ (ds : List D) (E : Env), aaLoop stop vs g t re ds E ≠ .exc x E1
  | [], E => fun z => nomatch z
  | d :: ds, E => fun z => by
    have z : (aaTurn g t re d E).bind (fun r => if r.2 = some stop then .ok (clr vs r.1, stop) else aaLoop stop vs g t re ds (clr vs r.1)) = .exc x E1 := z
    cases h : aaTurn g t re d E with
    | stuck => rw [h] at z; cases z
    | exc y E' => exact absurd h aaTurn_nox
    | ok r =>
      rw [h] at z
      have z : (if r.2 = some stop then .ok (clr vs r.1, stop) else aaLoop stop vs g t re ds (clr vs r.1)) = .exc x E1 := z
      split at z
      · cases z
      · exact aaLoop_nox ds _ z
/-- the def's table has grown -/
theorem SR.tabbed {f : Fr} {G H H2 : Hp} {σ : L2.St} {E : Env} {fp : Nat → List Addr} {P : Addr} (S : SR f G H σ E fp) (hP : Tb.T P) (tb : GxR.Tabbed P H H2) : SR f G H2 σ E fp := by
  obtain ⟨⟨ps, e, z⟩, g⟩ := S.tab P (.inl hP)
  obtain ⟨t2, off⟩ := tb
  refine S.step ⟨Same.refl _, fun a o h n => ?_, fun _ _ _ _ => rfl, fun a o h => ?_, fun a o h n => ?_, fun a h h2 => ⟨?_, h2⟩⟩
  · rw [off a fun y => by
      rw [y, e] at h
      cases h
      exact n]
    exact h
  · rw [off a fun y => by
      rw [y, g] at h
      cases h]
    exact S.ex a o h
  · have ne : a ≠ P := fun y => by
      obtain ⟨qs, e2, _⟩ := t2
      rw [y, e2] at h
      cases h
      exact n
    rw [off a ne] at h
    exact S.stb a o h n
  · by_cases y : a = P
    · rw [y]; exact t2
    · obtain ⟨qs, e2, z2⟩ := h
      exact ⟨qs, (off a y).trans e2, z2⟩
theorem tAA_of {stop : Bool} {vs : List Nat} {ri : IvR} {g : GvR} {t : TvR} {re : EvR} {P : Addr} (hT : Tb.T P) (σ : L2.St) (H : Hp) (Q : VK) (h : tE K W (rAA stop vs ri g t re) σ H Q) :
    tGe P stop (tI K W ri) (tG K (fun i => i ∉ vs) g) (tT K W0 t) (tE K W0 re) vs σ H Q := by
  obtain ⟨f, G, E, fp, ek, S, P0⟩ := h
  refine ⟨f, G, E, fp, ek, S, ?_⟩
  unfold rAA at P0
  cases ea : ri E with
  | stuck => rw [ea] at P0; exact P0
  | exc x E' => rw [ea] at P0; exact P0
  | ok a =>
    obtain ⟨ds, E1⟩ := a
    rw [ea] at P0
    intro J G1 H0 fp1 S0 IT
    refine ⟨(S0.tab P (.inl hT)).1, fun H1 tb => ?_⟩
    have S1 := S0.tabbed hT tb
    have P0 : PostE f W σ Q G H E fp ((aaLoop stop vs g t re ds (clr vs E1)).bind fun r => if r.1.length = E1.length then .ok (.val (.bl r.2), back vs E1 r.1, true) else .stuck) := P0
    cases el : aaLoop stop vs g t re ds (clr vs E1) with
    | stuck => rw [el] at P0; exact P0.elim
    | exc x E' => exact absurd el (aaLoop_nox ds _)
    | ok r =>
      obtain ⟨Ef, bf⟩ := r
      rw [el] at P0
      have P0 : PostE f W σ Q G H E fp (if Ef.length = E1.length then .ok (.val (.bl bf), back vs E1 Ef, true) else .stuck) := P0
      split at P0
      · rename_i hlen
        subst ek
        have SB := blk_in (vs := vs) S1
        have done : ∀ {G2 H2 : Hp} {fp2 : Nat → List Addr}, SR (blkFr f G1 H1 fp1 vs σ) G2 H2 (wipe σ vs) Ef fp2 → (∀ i ∈ vs, ∀ d, Ef[i]? ≠ some (some d)) → Q (.bl bf) H2 := fun {G2 H2 fp2} S2 hown => by
          obtain ⟨Sf, kf⟩ := blk_out S1 S2 hown hlen
          exact P0 (.bl bf) G2 H2 _ [] Sf (show Rp f.K G2 H2 (.bl bf) (.bl bf) [] from .bl bf) .nil fun hc => nomatch hc
        refine ⟨fun i m H => m = ds.length - i ∧ i ≤ ds.length ∧ ∃ G E fp, SR (blkFr f G1 H1 fp1 vs σ) G H (wipe σ vs) E fp ∧ aaLoop stop vs g t re (ds.drop i) E = .ok (Ef, bf) ∧ (∀ i ∈ vs, ∀ d, E[i]? ≠ some (some d)),
          ⟨ds.length, by simp, Nat.zero_le _, G1, clr vs E1, _, SB, el, fun i hi d => clr_in hi⟩, ?_⟩
        rintro i m H2 ⟨rfl, hi, G2, E2, fp2, S2, eloop, hown⟩
        by_cases hlt : i < ds.length
        · refine .inr ⟨IT.goes i G2 H2 hlt S2.g0 S2.ex, fun H => ∃ G E fp, SR (blkFr f G1 H1 fp1 vs σ) G H (wipe σ vs) E fp ∧ aaLoop stop vs g t re (ds.drop (i + 1)) E = .ok (Ef, bf) ∧ (∀ i ∈ vs, ∀ d, E[i]? ≠ some (some d)),
            fun H' h => ⟨ds.length - (i + 1), by omega, rfl, hlt, h⟩, fun x H' y => ?_⟩
          have hd : ds[i]? = some ds[i] := List.getElem?_eq_getElem hlt
          obtain ⟨G3, st, r3⟩ := IT.yields i G2 H2 x H' ds[i] hd S2.g0 S2.ex S2.stb y
          have S3 := S2.step st
          rw [List.drop_eq_getElem_cons hlt] at eloop
          have eloop : (aaTurn g t re ds[i] E2).bind (fun r => if r.2 = some stop then .ok (clr vs r.1, stop) else aaLoop stop vs g t re (ds.drop (i + 1)) (clr vs r.1)) = .ok (Ef, bf) := eloop
          cases et : aaTurn g t re ds[i] E2 with
          | stuck => rw [et] at eloop; cases eloop
          | exc _ _ => rw [et] at eloop; cases eloop
          | ok rt =>
            obtain ⟨E6, ob⟩ := rt
            rw [et] at eloop
            have eloop : (if ob = some stop then .ok (clr vs E6, stop) else aaLoop stop vs g t re (ds.drop (i + 1)) (clr vs E6)) = .ok (Ef, bf) := eloop
            unfold aaTurn at et
            refine ⟨blkFr f G1 H1 fp1 vs σ, G3, E2, fp2, ds[i], [], rfl, rfl, S3, r3, .nil, ?_⟩
            cases eg : g ds[i] E2 with
            | none => rw [eg] at et; cases et
            | some E3 =>
              rw [eg] at et
              have et : (noX (t E3)).bind (fun b => if b.1 = true then (noX (re b.2.1)).bind fun o => (match o.1.res o.2.1 with
                | some (.bl c) => .ok (o.2.1, some c)
                | _ => .stuck) else .ok (b.2.1, none)) = .ok (E6, ob) := et
              intro σ5 G5 H5 fp5 S5
              refine ⟨wipe_eq S5.slen fun i hi => S5.pin i hi, ?_⟩
              refine ⟨blkFr f G1 H1 fp1 vs σ, G5, E3, fp5, rfl, S5, ?_⟩
              cases ett : t E3 with
              | stuck => rw [ett] at et; cases et
              | exc _ _ => rw [ett] at et; cases et
              | ok b =>
                obtain ⟨b, E4, c4⟩ := b
                rw [ett] at et
                have et : (if b = true then (noX (re E4)).bind fun o => (match o.1.res o.2.1 with
                  | some (.bl c) => .ok (o.2.1, some c)
                  | _ => .stuck) else .ok (E4, none)) = .ok (E6, ob) := et
                intro G6 H6 fp6 S6 k6
                cases b with
                | false =>
                  cases et
                  rw [if_neg (fun z => nomatch z)] at eloop
                  exact ⟨G6, clr vs _, _, blk_turn S6, eloop, fun i hi d => clr_in hi⟩
                | true =>
                  have et : (noX (re E4)).bind (fun o => (match o.1.res o.2.1 with
                    | some (.bl c) => .ok (o.2.1, some c)
                    | _ => .stuck)) = .ok (E6, ob) := et
                  refine ⟨blkFr f G1 H1 fp1 vs σ, G6, E4, fp6, rfl, S6, ?_⟩
                  cases er : re E4 with
                  | stuck => rw [er] at et; cases et
                  | exc _ _ => rw [er] at et; cases et
                  | ok o =>
                    obtain ⟨o, E5, c5⟩ := o
                    rw [er] at et
                    have et : (match o.res E5 with
                      | some (.bl c) => .ok (E5, some c)
                      | _ => .stuck) = (.ok (E6, ob) : Rs (Env × Option Bool)) := et
                    intro v8 G8 H8 fp8 q8 S8 O8 w8 k8
                    cases ev : o.res E5 with
                    | none => rw [ev] at et; cases et
                    | some d =>
                      rw [ev] at et
                      cases d with
                      | bl c =>
                        cases et
                        obtain ⟨q', r', _⟩ := O8.rep S8 ev
                        refine ⟨c, r'.bl_inv, fun hc => ?_, fun hc => ?_⟩
                        · rw [hc, if_pos rfl] at eloop
                          cases eloop
                          exact done (blk_turn S8) fun i hi d => clr_in hi
                        · rw [if_neg (fun z => by
                            have := Option.some.inj z
                            rw [hc] at this
                            cases stop <;> cases this)] at eloop
                          exact ⟨G8, clr vs _, _, blk_turn S8, eloop, fun i hi d => clr_in hi⟩
                      | _ => cases et
        · have e : i = ds.length := by omega
          subst e
          refine .inl ⟨IT.stops G2 H2 S2.g0 S2.ex, ?_⟩
          rw [List.drop_length] at eloop
          have eloop : (.ok (E2, !stop) : Rs (Env × Bool)) = .ok (Ef, bf) := eloop
          cases eloop
          exact done S2 hown
      · exact P0.elim
/-- all(elt for target in iter if ..) -/
theorem de_allG {c P : Addr} {elt tg iter : Expr} {ifs : List Expr} {scope : Scope} {own : List (Str × Nat)} {gpos p pos : Pos} {ri : IvR} {g : GvR} {t : TvR} {re : EvR} {k : Nat} (TB : GxR.TabB X.base X.mg c P) (hcode : X.env.code = .ref c) (hT : Tb.T P) (hr : Room (k + 1) X.A) (hgl : Gl X "all") (hm : X.mg "all" = none) (hbt : bootBuiltins "all" = some (.builtin "all"))
    (hc : X.calm = true) (hN : X.N.Nodup) (hi : DI X W tg iter ri) (ok : GeOk X.N X.env.scope scope own)
    (hg : ∀ (s : Shared) (H : Hp) (C : Addr) (code : Value) (fp : List Addr) (pn : List (Addr × Obj)) (AG : Around), Room k AG → DG (gX X s H (gE X scope C code builtinsNs) fp pn AG) (fun i => i ∉ own.map (·.2)) tg g)
    (ht : ∀ (s : Shared) (H : Hp) (C : Addr) (code : Value) (fp : List Addr) (pn : List (Addr × Obj)) (AG : Around), Room k AG → DTs (gX X s H (gE X scope C code builtinsNs) fp pn AG) W0 ifs t)
    (he : ∀ (s : Shared) (H : Hp) (C : Addr) (code : Value) (fp : List Addr) (pn : List (Addr × Obj)) (AG : Around), Room k AG → DE (gX X s H (gE X scope C code builtinsNs) fp pn AG) W0 elt re) (hs : ∀ v, genFold iter X.env v = pure v := by intro _; rfl)
    (hst : starEach [.GeneratorExp elt [⟨tg, iter, ifs, 0⟩] scope gpos] X.env = (false, eval (.GeneratorExp elt [⟨tg, iter, ifs, 0⟩] scope gpos) X.env) :: starEach [] X.env := by rfl) :
    DE X W (.Call (.Name "all" p) [.GeneratorExp elt [⟨tg, iter, ifs, 0⟩] scope gpos] [] pos) (rAA false (own.map (·.2)) ri g t re) := (pe_allG hr hgl hm hbt TB hcode ok hN hc hi hg ht he hs hst).weak (tAA_of hT)
theorem de_anyG {c P : Addr} {elt tg iter : Expr} {ifs : List Expr} {scope : Scope} {own : List (Str × Nat)} {gpos p pos : Pos} {ri : IvR} {g : GvR} {t : TvR} {re : EvR} {k : Nat} (TB : GxR.TabB X.base X.mg c P) (hcode : X.env.code = .ref c) (hT : Tb.T P) (hr : Room (k + 1) X.A) (hgl : Gl X "any") (hm : X.mg "any" = none) (hbt : bootBuiltins "any" = some (.builtin "any"))
    (hc : X.calm = true) (hN : X.N.Nodup) (hi : DI X W tg iter ri) (ok : GeOk X.N X.env.scope scope own)
    (hg : ∀ (s : Shared) (H : Hp) (C : Addr) (code : Value) (fp : List Addr) (pn : List (Addr × Obj)) (AG : Around), Room k AG → DG (gX X s H (gE X scope C code builtinsNs) fp pn AG) (fun i => i ∉ own.map (·.2)) tg g)
    (ht : ∀ (s : Shared) (H : Hp) (C : Addr) (code : Value) (fp : List Addr) (pn : List (Addr × Obj)) (AG : Around), Room k AG → DTs (gX X s H (gE X scope C code builtinsNs) fp pn AG) W0 ifs t)
    (he : ∀ (s : Shared) (H : Hp) (C : Addr) (code : Value) (fp : List Addr) (pn : List (Addr × Obj)) (AG : Around), Room k AG → DE (gX X s H (gE X scope C code builtinsNs) fp pn AG) W0 elt re) (hs : ∀ v, genFold iter X.env v = pure v := by intro _; rfl)
    (hst : starEach [.GeneratorExp elt [⟨tg, iter, ifs, 0⟩] scope gpos] X.env = (false, eval (.GeneratorExp elt [⟨tg, iter, ifs, 0⟩] scope gpos) X.env) :: starEach [] X.env := by rfl) :
    DE X W (.Call (.Name "any" p) [.GeneratorExp elt [⟨tg, iter, ifs, 0⟩] scope gpos] [] pos) (rAA true (own.map (·.2)) ri g t re) := (pe_anyG hr hgl hm hbt TB hcode ok hN hc hi hg ht he hs hst).weak (tAA_of hT)
end
end DV

/-! the end of a law with tables of code objects -/
namespace DV
open PySem L2

/-- what a def with a generator expression (or a lambda) asks: its code object, its table, that the table may grow -/
def TabF [Tb] (base : Heap) (mg : Str → Option Value) (fd : FuncData) : Prop := ∃ c P, fd.code = .ref c ∧ GxR.TabB base mg c P ∧ Tb.T P
/-- the tables of the defs tf -/
abbrev tbs (K : PySem.W.Frag) (tf : List He.Defn) : Tb := ⟨fun P => ∃ p ∈ tf, P = (He.cT K p).2⟩
theorem tabF_of {K : PySem.W.Frag} {tf : List He.Defn} {base : Heap} {mg : Str → Option Value} {x qual : Str} {params : Arguments} {body : List Stmt} {scope : Scope} {p : He.Defn} {fd : FuncData} (hp : p ∈ tf) (F : FunD K x qual params body scope [] [] (He.fAd K p) fd)
    (h : ∀ q ∈ tf.map (He.cT K), LamX.TabB base mg q.1 q.2) : @TabF (tbs K tf) base mg fd := by
  obtain ⟨oc, od, dV, kV, doc, pm, an, cdv, ct, osl, rfl, lk, hcd, _, _⟩ := F.ex
  obtain ⟨c, rfl⟩ := He.codeIn_ref hcd
  have e : He.codeOf K p = c := He.codeOf_eq lk rfl
  have t := h (He.cT K p) (List.mem_map.mpr ⟨p, hp, rfl⟩)
  have t : LamX.TabB base mg (He.codeOf K p) (He.tabOf K (He.codeOf K p)) := t
  rw [e] at t
  refine ⟨c, He.tabOf K c, rfl, ⟨t.code, t.bm, t.gP⟩, p, hp, ?_⟩
  show He.tabOf K c = He.tabOf K (He.codeOf K p)
  rw [e]
/-- the law's promise at the head's heap -/
theorem lawAtS_of {l : PySem.W.OpenLaw} {w : World} {K : PySem.W.Frag} {k : Nat} {mg : Str → Option Value} {fa : Addr} {h : Heap} {tf : List He.Defn} {fal : List He.Fa} {fnl : List He.DefD} {ts : List He.Tab} {ex : PySem.W.Frag → Bool} (KX : K.In h) (c : He.SaysX fal fnl ts tf ex w h K) (fd : FuncData) (fs : FS)
    (hb : ∀ (s : Shared) (u : Value), BindsTo s fd ⟨[u], []⟩ [("script", u)])
    (hsp : @spD (tbs K tf) K fs = @spD (tbs K tf) K fs)
    (hlaw : ∀ (H : Hp) (a : Addr) (ns : List Int), ns.length ≤ 63 → (∀ z ∈ ns, Builtin.Int.intBits z ≤ 1048576) → (∀ p, (tbs K tf).T p → GxR.TabG H p) → SqL K H a (ns.map V.int) → @spD (tbs K tf) K fs [.ref a] H (fun v _ => v = .bl true) fun _ _ _ => False)
    (hF : ∀ base : Heap, K.In base → base.Ns mainGlobals mg → (∀ q ∈ tf.map (He.cT K), LamX.TabB base mg q.1 q.2) → FnOk l.prog w K mg base CXE k fa fd ["script"] (@spD (tbs K tf) K fs)) :
    LamX.LawAtS l w K CXE k 63 "script" mg fa h := by
  refine ⟨fd, tf.map (He.cT K), @spD (tbs K tf) K fs, fun q hq => ?_, fun q hq => ?_, fun q hq => ?_, hb, fun H a ns h1 h2 h3 h4 => hlaw H a ns h1 h2 (fun P hP => ?_) h4, hF⟩
  · obtain ⟨p, hp, rfl⟩ := List.mem_map.mp hq
    exact c.empty p hp
  · obtain ⟨p, hp, rfl⟩ := List.mem_map.mp hq
    exact c.out p hp
  · obtain ⟨p, hp, rfl⟩ := List.mem_map.mp hq
    exact PySem.W.codeHd_of_K KX (c.hd p hp)
  · obtain ⟨p, hp, rfl⟩ := hP
    exact ⟨#[], h3 _ (List.mem_map.mpr ⟨p, hp, rfl⟩), True.intro⟩
end DV

namespace DV
open PySem L2

/-- turns that a while may have -/
noncomputable def bigF : Nat := Classical.choose (show ∃ n : Nat, 1000000000 ≤ n from ⟨1000000000, Nat.le_refl _⟩)
theorem bigF_ge : 1000000000 ≤ bigF := Classical.choose_spec (show ∃ n : Nat, 1000000000 ≤ n from ⟨1000000000, Nat.le_refl _⟩)

/-! ### loops by a fold -/
section
variable {α β : Type}
/-- a for that runs through: enc, the slots by a state -/
theorem sLoop_fold {g : GvR} {b : SvR} (ga : α → D) (enc : β → Env) (f : β → α → β) (P : β → Prop) : ∀ (xs : List α) (s : β), P s → (∀ s a, a ∈ xs → P s → P (f s a) ∧ sTurn g b (ga a) (enc s) = .ok (.nx, enc (f s a))) →
    sLoop g b (xs.map ga) (enc s) = .ok (.nx, enc (xs.foldl f s)) ∧ P (xs.foldl f s)
  | [], s, hs, _ => ⟨rfl, hs⟩
  | a :: xs, s, hs, h => by
    obtain ⟨h1, h2⟩ := h s a List.mem_cons_self hs
    obtain ⟨h3, h4⟩ := sLoop_fold ga enc f P xs (f s a) h1 fun s b hb => h s b (List.mem_cons_of_mem _ hb)
    refine ⟨?_, h4⟩
    rw [List.map_cons]
    exact (sLoop_nx h2).trans h3
/-- one whose turns are told for the rest of it -/
theorem sLoop_inv {g : GvR} {b : SvR} (ga : α → D) (I : Env → Prop) : ∀ (xs : List α) (E : Env), I E → (∀ E a, a ∈ xs → I E → ∃ E2, sTurn g b (ga a) E = .ok (.nx, E2) ∧ I E2) → ∃ E2, sLoop g b (xs.map ga) E = .ok (.nx, E2) ∧ I E2
  | [], E, hE, _ => ⟨E, rfl, hE⟩
  | a :: xs, E, hE, h => by
    obtain ⟨E2, h1, h2⟩ := h E a List.mem_cons_self hE
    obtain ⟨E3, h3, h4⟩ := sLoop_inv ga I xs E2 h2 fun E b hb => h E b (List.mem_cons_of_mem _ hb)
    refine ⟨E3, ?_, h4⟩
    rw [List.map_cons]
    exact (sLoop_nx h1).trans h3
/-- a list comprehension that leaves the slots as they are -/
theorem lcLoop_filter {vs : List Nat} {g : GvR} {t : TvR} {re : EvR} (ga h : α → D) (p : α → Bool) {E : Env} : ∀ (xs : List α) (acc : List D), acc.length + xs.length < 100000 → (∀ a acc, a ∈ xs → acc.length < 100000 → ∃ E2, lcTurn vs g t re (ga a) E acc = .ok (E2, if p a = true then acc ++ [h a] else acc) ∧ clr vs E2 = E) →
    lcLoop vs g t re (xs.map ga) E acc = .ok (E, acc ++ (xs.filter p).map h)
  | [], acc, _, _ => by simp [lcLoop_nil]
  | a :: xs, acc, hl, hh => by
    have hl : acc.length + (xs.length + 1) < 100000 := hl
    obtain ⟨E2, h2, e2⟩ := hh a acc List.mem_cons_self (by omega)
    rw [List.map_cons, lcLoop_cons h2, e2]
    rw [lcLoop_filter ga h p xs _ (by split <;> (try simp) <;> omega) fun b acc hb => hh b acc (List.mem_cons_of_mem _ hb)]
    rw [List.filter_cons]
    split <;> simp
theorem lcLoop_map {vs : List Nat} {g : GvR} {t : TvR} {re : EvR} (ga h : α → D) {E : Env} (xs : List α) (acc : List D) (hl : acc.length + xs.length < 100000) (hh : ∀ a acc, a ∈ xs → acc.length < 100000 → ∃ E2, lcTurn vs g t re (ga a) E acc = .ok (E2, acc ++ [h a]) ∧ clr vs E2 = E) :
    lcLoop vs g t re (xs.map ga) E acc = .ok (E, acc ++ xs.map h) := by
  have := lcLoop_filter (vs := vs) (g := g) (t := t) (re := re) ga h (fun _ => true) (E := E) xs acc hl fun a acc ha hc => by
    obtain ⟨E2, h2, e⟩ := hh a acc ha hc
    exact ⟨E2, by rw [if_pos rfl]; exact h2, e⟩
  rw [this, List.filter_eq_self.mpr fun _ _ => rfl]
/-- a list made by a state -/
def scanS {γ : Type} (f : β → α → β) (h : β → α → γ) : List α → β → β × List γ
  | [], s => (s, [])
  | a :: xs, s => ((scanS f h xs (f s a)).1, h s a :: (scanS f h xs (f s a)).2)
theorem scanS_len {γ : Type} (f : β → α → β) (h : β → α → γ) : ∀ (xs : List α) (s : β), (scanS f h xs s).2.length = xs.length
  | [], _ => rfl
  | a :: xs, s => by
    show (scanS f h xs (f s a)).2.length + 1 = _
    rw [scanS_len f h xs]
    rfl
theorem scanS_all {γ : Type} {f : β → α → β} {h : β → α → γ} {P : β → Prop} {R : γ → Prop} : ∀ {xs : List α} {s : β}, P s → (∀ s a, a ∈ xs → P s → P (f s a) ∧ R (h s a)) → P (scanS f h xs s).1 ∧ ∀ c ∈ (scanS f h xs s).2, R c
  | [], s, hs, _ => ⟨hs, fun c hc => nomatch hc⟩
  | a :: xs, s, hs, hh => by
    obtain ⟨h1, h2⟩ := hh s a List.mem_cons_self hs
    obtain ⟨h3, h4⟩ := scanS_all (f := f) (h := h) (P := P) (R := R) h1 fun s b hb => hh s b (List.mem_cons_of_mem _ hb)
    refine ⟨h3, fun c hc => ?_⟩
    rcases List.mem_cons.mp hc with rfl | hc
    · exact h2
    · exact h4 c hc
/-- a list comprehension that changes the slots by a state -/
theorem lcLoop_scan {γ : Type} {vs : List Nat} {g : GvR} {t : TvR} {re : EvR} (ga : α → D) (enc : β → Env) (f : β → α → β) (h : β → α → γ) (hd : γ → D) (P : β → Prop) : ∀ (xs : List α) (s : β) (acc : List D), acc.length + xs.length < 100000 → P s → (∀ s a acc, a ∈ xs → P s → acc.length < 100000 → ∃ E2, lcTurn vs g t re (ga a) (enc s) acc = .ok (E2, acc ++ [hd (h s a)]) ∧ clr vs E2 = enc (f s a) ∧ P (f s a)) →
    lcLoop vs g t re (xs.map ga) (enc s) acc = .ok (enc (scanS f h xs s).1, acc ++ (scanS f h xs s).2.map hd)
  | [], s, acc, _, hs, _ => by simp [lcLoop_nil, scanS]
  | a :: xs, s, acc, hl, hs, hh => by
    have hl : acc.length + (xs.length + 1) < 100000 := hl
    obtain ⟨E2, h2, e2, hp⟩ := hh s a acc List.mem_cons_self hs (by omega)
    rw [List.map_cons, lcLoop_cons h2, e2, lcLoop_scan ga enc f h hd P xs (f s a) _ (by simp; omega) hp fun s b acc hb => hh s b acc (List.mem_cons_of_mem _ hb)]
    simp [scanS]
theorem aaLoop_nil {stop : Bool} {vs : List Nat} {g : GvR} {t : TvR} {re : EvR} {E : Env} : aaLoop stop vs g t re [] E = .ok (E, !stop) := rfl
/-- all(..) -/
theorem aaLoop_all {vs : List Nat} {g : GvR} {t : TvR} {re : EvR} (ga : α → D) (p : α → Bool) {E : Env} : ∀ (xs : List α), (∀ a, a ∈ xs → ∃ E2, aaTurn g t re (ga a) E = .ok (E2, some (p a)) ∧ clr vs E2 = E) → aaLoop false vs g t re (xs.map ga) E = .ok (E, xs.all p)
  | [], _ => rfl
  | a :: xs, h => by
    obtain ⟨E2, h2, e2⟩ := h a List.mem_cons_self
    have ih := aaLoop_all ga p xs fun b hb => h b (List.mem_cons_of_mem _ hb)
    rw [List.map_cons]
    show (aaTurn g t re (ga a) E).bind _ = _
    rw [h2]
    show (if some (p a) = some false then Rs.ok (clr vs E2, false) else aaLoop false vs g t re (xs.map ga) (clr vs E2)) = _
    rw [e2, List.all_cons]
    cases p a with
    | false => rfl
    | true => rw [if_neg (by decide), ih]; rfl
/-- any(..) -/
theorem aaLoop_any {vs : List Nat} {g : GvR} {t : TvR} {re : EvR} (ga : α → D) (p : α → Bool) {E : Env} : ∀ (xs : List α), (∀ a, a ∈ xs → ∃ E2, aaTurn g t re (ga a) E = .ok (E2, some (p a)) ∧ clr vs E2 = E) → aaLoop true vs g t re (xs.map ga) E = .ok (E, xs.any p)
  | [], _ => rfl
  | a :: xs, h => by
    obtain ⟨E2, h2, e2⟩ := h a List.mem_cons_self
    have ih := aaLoop_any ga p xs fun b hb => h b (List.mem_cons_of_mem _ hb)
    rw [List.map_cons]
    show (aaTurn g t re (ga a) E).bind _ = _
    rw [h2]
    show (if some (p a) = some true then Rs.ok (clr vs E2, true) else aaLoop true vs g t re (xs.map ga) (clr vs E2)) = _
    rw [e2, List.any_cons]
    cases p a with
    | true => rfl
    | false => rw [if_neg (by decide), ih]; rfl
end
/-! ### blocks -/
theorem sSeq_ex {r u : SvR} {E E2 : Env} {x : Fl} (h : r E = .ok (.nx, E2)) (k : ∃ E', u E2 = .ok (x, E')) : ∃ E', sSeq r u E = .ok (x, E') := by
  obtain ⟨E', k⟩ := k
  refine ⟨E', ?_⟩
  show ((r E).bind fun a => _) = _
  rw [h]
  exact k
theorem sSeq_nx {r u : SvR} {E E2 : Env} (h : r E = .ok (.nx, E2)) : sSeq r u E = u E2 := by
  show ((r E).bind fun a => _) = _
  rw [h]
  rfl
theorem sSeq_rt {r u : SvR} {E E2 : Env} {x : D} (h : r E = .ok (.rt x, E2)) : sSeq r u E = .ok (.rt x, E2) := by
  show ((r E).bind fun a => _) = _
  rw [h]
  rfl
end DV

namespace DV
open PySem L2

/-! ### equality of plain data -/
mutual
/-- what == looks at -/
@[simp] def D.key : D → D
  | .non => .non
  | .bl b => .int (if b = true then 1 else 0)
  | .int i => .int i
  | .str x => .str x
  | .tup xs => .tup (keyL xs)
  | .lst _ xs => .lst true (keyL xs)
  | .obj m C ns xs => .obj m C ns xs
@[simp] def keyL : List D → List D
  | [] => []
  | d :: ds => d.key :: keyL ds
end
mutual
/-- plain data of a depth -/
@[simp] def D.pl : Nat → D → Bool
  | _, .non => true
  | _, .bl _ => true
  | _, .int _ => true
  | _, .str x => PySem.PyData.strOk x
  | 0, .tup _ => false
  | n + 1, .tup xs => plL n xs
  | 0, .lst _ _ => false
  | n + 1, .lst _ xs => plL n xs
  | _, .obj _ _ _ _ => false
@[simp] def plL : Nat → List D → Bool
  | _, [] => true
  | n, d :: ds => d.pl n && plL n ds
end
mutual
theorem D.pl_py : ∀ (n : Nat) (d : D), d.pl n = true → ∃ y, d.py = some y ∧ y.canLay0 = true ∧ y.depth ≤ n
  | n, .non, _ => ⟨_, rfl, rfl, Nat.zero_le _⟩
  | n, .bl _, _ => ⟨_, rfl, rfl, Nat.zero_le _⟩
  | n, .int _, _ => ⟨_, rfl, rfl, Nat.zero_le _⟩
  | n, .str x, h => ⟨_, rfl, by simpa [D.pl, PyData.canLay0] using h, Nat.zero_le _⟩
  | 0, .tup _, h => by simp [D.pl] at h
  | n + 1, .tup xs, h => by
    obtain ⟨ys, e, h1, h2⟩ := plL_py n xs (by simpa [D.pl] using h)
    exact ⟨.tuple ys, by simp [D.py, e], by simpa [PyData.canLay0] using h1, by simp only [PyData.depth]; omega⟩
  | 0, .lst _ _, h => by simp [D.pl] at h
  | n + 1, .lst _ xs, h => by
    obtain ⟨ys, e, h1, h2⟩ := plL_py n xs (by simpa [D.pl] using h)
    exact ⟨.list ys, by simp [D.py, e], by simpa [PyData.canLay0] using h1, by simp only [PyData.depth]; omega⟩
  | n, .obj _ _ _ _, h => by cases n <;> simp [D.pl] at h
theorem plL_py : ∀ (n : Nat) (ds : List D), plL n ds = true → ∃ ys, pyL ds = some ys ∧ PyData.canLayAll0 ys = true ∧ PyData.depthAll ys ≤ n
  | n, [], _ => ⟨[], by simp [pyL], by simp [PyData.canLayAll0], by simp [PyData.depthAll]⟩
  | n, d :: ds, h => by
    have h : d.pl n = true ∧ plL n ds = true := by simpa [plL] using h
    obtain ⟨y, e, h1, h2⟩ := D.pl_py n d h.1
    obtain ⟨ys, e', h3, h4⟩ := plL_py n ds h.2
    exact ⟨y :: ys, by simp [pyL, e, e'], by simp [PyData.canLayAll0, h1, h3], by simp only [PyData.depthAll]; omega⟩
end
mutual
theorem D.key_eqv : ∀ (a b : D) (x y : PyData), a.py = some x → b.py = some y → (PyData.eqv x y = true ↔ a.key = b.key)
  | a, b, x, y, ha, hb => by
    cases a with
    | obj m C ns xs => simp [D.py] at ha
    | tup xs =>
      cases ex : pyL xs with
      | none => simp [D.py, ex] at ha
      | some xs' =>
        have ea : x = .tuple xs' := by simpa [D.py, ex] using ha.symm
        subst ea
        cases b with
        | obj m C ns xs => simp [D.py] at hb
        | tup ys =>
          cases ey : pyL ys with
          | none => simp [D.py, ey] at hb
          | some ys' =>
            have eb : y = .tuple ys' := by simpa [D.py, ey] using hb.symm
            subst eb
            have := keyL_eqv xs ys xs' ys' ex ey
            simp [PyData.eqv, D.key, this]
        | lst m ys =>
          cases ey : pyL ys with
          | none => simp [D.py, ey] at hb
          | some ys' =>
            have eb : y = .list ys' := by simpa [D.py, ey] using hb.symm
            subst eb
            simp [PyData.eqv, D.key]
        | _ => cases hb; simp [PyData.eqv, D.key]
    | lst m xs =>
      cases ex : pyL xs with
      | none => simp [D.py, ex] at ha
      | some xs' =>
        have ea : x = .list xs' := by simpa [D.py, ex] using ha.symm
        subst ea
        cases b with
        | obj m C ns xs => simp [D.py] at hb
        | lst m ys =>
          cases ey : pyL ys with
          | none => simp [D.py, ey] at hb
          | some ys' =>
            have eb : y = .list ys' := by simpa [D.py, ey] using hb.symm
            subst eb
            have := keyL_eqv xs ys xs' ys' ex ey
            simp [PyData.eqv, D.key, this]
        | tup ys =>
          cases ey : pyL ys with
          | none => simp [D.py, ey] at hb
          | some ys' =>
            have eb : y = .tuple ys' := by simpa [D.py, ey] using hb.symm
            subst eb
            simp [PyData.eqv, D.key]
        | _ => cases hb; simp [PyData.eqv, D.key]
    | non =>
      cases ha
      cases b with
      | obj m C ns xs => simp [D.py] at hb
      | tup ys => cases ey : pyL ys <;> simp [D.py, ey] at hb <;> subst hb <;> simp [PyData.eqv, D.key]
      | lst m ys => cases ey : pyL ys <;> simp [D.py, ey] at hb <;> subst hb <;> simp [PyData.eqv, D.key]
      | _ => cases hb; simp [PyData.eqv, D.key]
    | bl c =>
      cases ha
      cases b with
      | obj m C ns xs => simp [D.py] at hb
      | tup ys => cases ey : pyL ys <;> simp [D.py, ey] at hb <;> subst hb <;> simp [PyData.eqv, D.key]
      | lst m ys => cases ey : pyL ys <;> simp [D.py, ey] at hb <;> subst hb <;> simp [PyData.eqv, D.key]
      | bl d => cases hb; cases c <;> cases d <;> simp [PyData.eqv, D.key]
      | _ => cases hb; simp [PyData.eqv, D.key]
    | int i =>
      cases ha
      cases b with
      | obj m C ns xs => simp [D.py] at hb
      | tup ys => cases ey : pyL ys <;> simp [D.py, ey] at hb <;> subst hb <;> simp [PyData.eqv, D.key]
      | lst m ys => cases ey : pyL ys <;> simp [D.py, ey] at hb <;> subst hb <;> simp [PyData.eqv, D.key]
      | _ => cases hb; simp [PyData.eqv, D.key]
    | str s =>
      cases ha
      cases b with
      | obj m C ns xs => simp [D.py] at hb
      | tup ys => cases ey : pyL ys <;> simp [D.py, ey] at hb <;> subst hb <;> simp [PyData.eqv, D.key]
      | lst m ys => cases ey : pyL ys <;> simp [D.py, ey] at hb <;> subst hb <;> simp [PyData.eqv, D.key]
      | _ => cases hb; simp [PyData.eqv, D.key]
theorem keyL_eqv : ∀ (as bs : List D) (xs ys : List PyData), pyL as = some xs → pyL bs = some ys → (PyData.eqvAll xs ys = true ↔ keyL as = keyL bs)
  | as, bs, xs, ys, ha, hb => by
    cases as with
    | nil =>
      have ha : xs = [] := by simpa [pyL] using ha.symm
      subst ha
      cases bs with
      | nil =>
        have hb : ys = [] := by simpa [pyL] using hb.symm
        subst hb
        simp [PyData.eqvAll, keyL]
      | cons b bs =>
        cases e1 : b.py <;> cases e2 : pyL bs <;> simp [pyL, e1, e2] at hb
        subst hb
        simp [PyData.eqvAll, keyL]
    | cons a as =>
      cases e1 : a.py <;> cases e2 : pyL as <;> simp [pyL, e1, e2] at ha
      rename_i x xs
      subst ha
      cases bs with
      | nil =>
        have hb : ys = [] := by simpa [pyL] using hb.symm
        subst hb
        simp [PyData.eqvAll, keyL]
      | cons b bs =>
        cases e3 : b.py <;> cases e4 : pyL bs <;> simp [pyL, e3, e4] at hb
        rename_i y ys
        subst hb
        have h1 := D.key_eqv a b x y e1 e3
        have h2 := keyL_eqv as bs xs ys e2 e4
        simp [PyData.eqvAll, keyL, h1, h2]
end
open Classical in
/-- == of plain data -/
@[simp low] theorem D.eqv_of {a b : D} (ha : a.pl 64 = true) (hb : b.pl 64 = true) : D.eqv a b = some (decide (a.key = b.key)) := by
  obtain ⟨x, e1, h1, h2⟩ := D.pl_py 64 a ha
  obtain ⟨y, e2, h3, h4⟩ := D.pl_py 64 b hb
  unfold D.eqv
  rw [e1, e2]
  have hs : (SeqAt.shaped x && SeqAt.shaped y) = true := by
    unfold SeqAt.shaped
    simp [h1, h2, h3, h4]
  show (if (SeqAt.shaped x && SeqAt.shaped y) = true then some (PyData.eqv x y) else none) = _
  rw [if_pos hs]
  congr 1
  rw [Bool.eq_iff_iff, decide_eq_true_iff]
  exact D.key_eqv a b x y e1 e2
theorem keyL_map {α : Type} (g : α → D) : ∀ xs : List α, keyL (xs.map g) = xs.map fun a => (g a).key
  | [] => rfl
  | x :: xs => by
    show (g x).key :: keyL (xs.map g) = _
    rw [keyL_map g xs]
    rfl
theorem plL_map {α : Type} {n : Nat} {g : α → D} (h : ∀ a, (g a).pl n = true) : ∀ xs : List α, plL n (xs.map g) = true
  | [] => by simp [plL]
  | x :: xs => by simp [plL, h x, plL_map h xs]
theorem plL_iff {n : Nat} : ∀ ds : List D, plL n ds = true ↔ ∀ d ∈ ds, d.pl n = true
  | [] => by simp [plL]
  | d :: ds => by simp [plL, plL_iff ds]
theorem map_inj {α : Type} {g : α → D} (h : ∀ a b, g a = g b → a = b) : ∀ {xs ys : List α}, xs.map g = ys.map g ↔ xs = ys
  | [], [] => by simp
  | [], _ :: _ => by simp
  | _ :: _, [] => by simp
  | x :: xs, y :: ys => by
    simp only [List.map_cons, List.cons.injEq, map_inj h (xs := xs) (ys := ys)]
    exact ⟨fun e => ⟨h _ _ e.1, e.2⟩, fun e => ⟨by rw [e.1], e.2⟩⟩
@[simp] theorem keyL_ints (ns : List Int) : keyL (ns.map D.int) = ns.map D.int := by
  rw [keyL_map]
  exact List.map_congr_left fun _ _ => rfl
@[simp] theorem plL_ints (n : Nat) (ns : List Int) : plL n (ns.map D.int) = true := plL_map (fun _ => by cases n <;> rfl) ns
@[simp] theorem ints_inj {xs ys : List Int} : xs.map D.int = ys.map D.int ↔ xs = ys := map_inj fun _ _ e => by injection e
/-! a display's items at written places -/
@[simp] theorem ixP_t0 {x0 : D} {xs : List D} : ixP (.tup (x0 :: xs)) (.int 0) = some (0, x0) := by
  have := ixP_dt (ds := x0 :: xs) (i := 0) (x := x0) rfl
  exact this
@[simp] theorem ixP_t1 {x0 x1 : D} {xs : List D} : ixP (.tup (x0 :: x1 :: xs)) (.int 1) = some (1, x1) := by
  have := ixP_dt (ds := x0 :: x1 :: xs) (i := 1) (x := x1) rfl
  exact this
@[simp] theorem ixP_t2 {x0 x1 x2 : D} {xs : List D} : ixP (.tup (x0 :: x1 :: x2 :: xs)) (.int 2) = some (2, x2) := by
  have := ixP_dt (ds := x0 :: x1 :: x2 :: xs) (i := 2) (x := x2) rfl
  exact this
@[simp] theorem ixP_t3 {x0 x1 x2 x3 : D} {xs : List D} : ixP (.tup (x0 :: x1 :: x2 :: x3 :: xs)) (.int 3) = some (3, x3) := by
  have := ixP_dt (ds := x0 :: x1 :: x2 :: x3 :: xs) (i := 3) (x := x3) rfl
  exact this
@[simp] theorem ixP_t4 {x0 x1 x2 x3 x4 : D} {xs : List D} : ixP (.tup (x0 :: x1 :: x2 :: x3 :: x4 :: xs)) (.int 4) = some (4, x4) := by
  have := ixP_dt (ds := x0 :: x1 :: x2 :: x3 :: x4 :: xs) (i := 4) (x := x4) rfl
  exact this
@[simp] theorem ixP_t5 {x0 x1 x2 x3 x4 x5 : D} {xs : List D} : ixP (.tup (x0 :: x1 :: x2 :: x3 :: x4 :: x5 :: xs)) (.int 5) = some (5, x5) := by
  have := ixP_dt (ds := x0 :: x1 :: x2 :: x3 :: x4 :: x5 :: xs) (i := 5) (x := x5) rfl
  exact this
@[simp] theorem ixP_t6 {x0 x1 x2 x3 x4 x5 x6 : D} {xs : List D} : ixP (.tup (x0 :: x1 :: x2 :: x3 :: x4 :: x5 :: x6 :: xs)) (.int 6) = some (6, x6) := by
  have := ixP_dt (ds := x0 :: x1 :: x2 :: x3 :: x4 :: x5 :: x6 :: xs) (i := 6) (x := x6) rfl
  exact this
@[simp] theorem ixP_t7 {x0 x1 x2 x3 x4 x5 x6 x7 : D} {xs : List D} : ixP (.tup (x0 :: x1 :: x2 :: x3 :: x4 :: x5 :: x6 :: x7 :: xs)) (.int 7) = some (7, x7) := by
  have := ixP_dt (ds := x0 :: x1 :: x2 :: x3 :: x4 :: x5 :: x6 :: x7 :: xs) (i := 7) (x := x7) rfl
  exact this
@[simp] theorem ixP_l0 {m : Bool} {x0 : D} {xs : List D} : ixP (.lst m (x0 :: xs)) (.int 0) = some (0, x0) := by
  have := ixP_d (ds := x0 :: xs) (i := 0) (x := x0) (m := m) rfl
  exact this
@[simp] theorem ixP_l1 {m : Bool} {x0 x1 : D} {xs : List D} : ixP (.lst m (x0 :: x1 :: xs)) (.int 1) = some (1, x1) := by
  have := ixP_d (ds := x0 :: x1 :: xs) (i := 1) (x := x1) (m := m) rfl
  exact this
@[simp] theorem ixP_l2 {m : Bool} {x0 x1 x2 : D} {xs : List D} : ixP (.lst m (x0 :: x1 :: x2 :: xs)) (.int 2) = some (2, x2) := by
  have := ixP_d (ds := x0 :: x1 :: x2 :: xs) (i := 2) (x := x2) (m := m) rfl
  exact this
@[simp] theorem ixP_l3 {m : Bool} {x0 x1 x2 x3 : D} {xs : List D} : ixP (.lst m (x0 :: x1 :: x2 :: x3 :: xs)) (.int 3) = some (3, x3) := by
  have := ixP_d (ds := x0 :: x1 :: x2 :: x3 :: xs) (i := 3) (x := x3) (m := m) rfl
  exact this
@[simp] theorem ixP_l4 {m : Bool} {x0 x1 x2 x3 x4 : D} {xs : List D} : ixP (.lst m (x0 :: x1 :: x2 :: x3 :: x4 :: xs)) (.int 4) = some (4, x4) := by
  have := ixP_d (ds := x0 :: x1 :: x2 :: x3 :: x4 :: xs) (i := 4) (x := x4) (m := m) rfl
  exact this
@[simp] theorem ixP_l5 {m : Bool} {x0 x1 x2 x3 x4 x5 : D} {xs : List D} : ixP (.lst m (x0 :: x1 :: x2 :: x3 :: x4 :: x5 :: xs)) (.int 5) = some (5, x5) := by
  have := ixP_d (ds := x0 :: x1 :: x2 :: x3 :: x4 :: x5 :: xs) (i := 5) (x := x5) (m := m) rfl
  exact this
@[simp] theorem ixP_l6 {m : Bool} {x0 x1 x2 x3 x4 x5 x6 : D} {xs : List D} : ixP (.lst m (x0 :: x1 :: x2 :: x3 :: x4 :: x5 :: x6 :: xs)) (.int 6) = some (6, x6) := by
  have := ixP_d (ds := x0 :: x1 :: x2 :: x3 :: x4 :: x5 :: x6 :: xs) (i := 6) (x := x6) (m := m) rfl
  exact this
@[simp] theorem ixP_l7 {m : Bool} {x0 x1 x2 x3 x4 x5 x6 x7 : D} {xs : List D} : ixP (.lst m (x0 :: x1 :: x2 :: x3 :: x4 :: x5 :: x6 :: x7 :: xs)) (.int 7) = some (7, x7) := by
  have := ixP_d (ds := x0 :: x1 :: x2 :: x3 :: x4 :: x5 :: x6 :: x7 :: xs) (i := 7) (x := x7) (m := m) rfl
  exact this
theorem ixP_tn {xs : List Int} {i : Nat} {x : Int} (h : xs[i]? = some x) : ixP (.tup (xs.map D.int)) (.int (i : Int)) = some (i, .int x) := ixP_tup (g := D.int) h
/-- a for by turns, the slots told by a predicate -/
theorem sLoop_run {α : Type} {g : GvR} {b : SvR} (ga : α → D) (I : Nat → Env → Prop) : ∀ (xs : List α) (i : Nat) (E : Env), I i E → (∀ (j : Nat) (E : Env) (a : α), xs[j]? = some a → I (i + j) E → ∃ E2, sTurn g b (ga a) E = .ok (.nx, E2) ∧ I (i + j + 1) E2) → ∃ E2, sLoop g b (xs.map ga) E = .ok (.nx, E2) ∧ I (i + xs.length) E2
  | [], i, E, hE, _ => ⟨E, rfl, hE⟩
  | a :: xs, i, E, hE, h => by
    obtain ⟨E2, h1, h2⟩ := h 0 E a rfl hE
    obtain ⟨E3, h3, h4⟩ := sLoop_run ga I xs (i + 1) E2 h2 fun j E b hj hI => by
      have := h (j + 1) E b (by simpa using hj) (by rw [show i + (j + 1) = i + 1 + j by omega]; exact hI)
      rw [show i + (j + 1) + 1 = i + 1 + j + 1 by omega] at this
      exact this
    refine ⟨E3, ?_, by rw [List.length_cons, show i + (xs.length + 1) = i + 1 + xs.length by omega]; exact h4⟩
    rw [List.map_cons]
    exact (sLoop_nx h1).trans h3
/-- a for that looks for the first turn at which it returns -/
theorem sLoop_all {α β : Type} {g : GvR} {b : SvR} (ga : α → D) (enc : β → Env) (p : α → Bool) (x : D) : ∀ (xs : List α) (o : β), (∀ a o, a ∈ xs → ∃ o', sTurn g b (ga a) (enc o) = .ok (if p a = true then .nx else .rt x, enc o')) →
    ∃ o', sLoop g b (xs.map ga) (enc o) = .ok (if xs.all p = true then .nx else .rt x, enc o')
  | [], o, _ => ⟨o, rfl⟩
  | a :: xs, o, h => by
    obtain ⟨o1, h1⟩ := h a o List.mem_cons_self
    rw [List.map_cons, List.all_cons]
    cases hp : p a with
    | false =>
      rw [hp] at h1
      exact ⟨o1, sLoop_rt h1⟩
    | true =>
      rw [hp] at h1
      obtain ⟨o2, h2⟩ := sLoop_all ga enc p x xs o1 fun b o hb => h b o (List.mem_cons_of_mem _ hb)
      exact ⟨o2, (sLoop_nx h1).trans h2⟩
@[simp] theorem fzdL_append : ∀ xs ys : List D, fzdL (xs ++ ys) = (fzdL xs && fzdL ys)
  | [], ys => by simp
  | x :: xs, ys => by simp [fzdL_append xs ys, Bool.and_assoc]
@[simp] theorem nofzL_append : ∀ xs ys : List D, nofzL (xs ++ ys) = (nofzL xs && nofzL ys)
  | [], ys => by simp
  | x :: xs, ys => by simp [nofzL_append xs ys, Bool.and_assoc]
@[simp] theorem fzL_append (xs ys : List D) : fzL (xs ++ ys) = fzL xs ++ fzL ys := by rw [fzL_map, fzL_map, fzL_map, List.map_append]
@[simp] theorem plL_append (n : Nat) : ∀ xs ys : List D, plL n (xs ++ ys) = (plL n xs && plL n ys)
  | [], ys => by simp
  | x :: xs, ys => by simp [plL_append n xs ys, Bool.and_assoc]
@[simp] theorem keyL_append : ∀ xs ys : List D, keyL (xs ++ ys) = keyL xs ++ keyL ys
  | [], ys => by simp
  | x :: xs, ys => by simp [keyL_append xs ys]
end DV

/-! enumerate of lists and of tuples -/
namespace DV
open PySem PySem.Spec PyProof.Rows L2
open Sem (wp)
open AutoSeq1 (wpAny_loadPart')

theorem meets_enumT (l : Addr) (items : Array Value) (n : Nat) (dct : Option Addr) (sl : Array (Option Value)) :
    Meets (Builtin.«enumerate.__new__» ⟨[.type "enumerate", .ref l], []⟩) (fun _ R s => s.heap.get? l = some { cls := .type "tuple", dict := dct, data := .seq items n, slots := sl } ∧
      R (.ok (.ret (.ref (s.heap.push { cls := .type "tuple_iterator", data := .fields #[.ref l, .int 0 0] }).objs.size)))
        { s with heap := (s.heap.push { cls := .type "tuple_iterator", data := .fields #[.ref l, .int 0 0] }).push { cls := .type "enumerate", data := .fields #[.none, .bool false, .ref s.heap.objs.size, rawInt 0, .none, .none] } }) :=
  .of_wp fun prog w A R s h => by
    obtain ⟨hp, g, d, tk, os⟩ := s
    obtain ⟨hl, h⟩ := h
    have hsub := sub_enumerate
    have hT : Heap.IsTuple (Shared.heap ⟨hp, g, d, tk, os⟩) l items := ⟨_, hl, rfl, n, rfl⟩
    wp_walk using wpAny_loadPart' hl
    refine wpAny_stack_any fun st => wpAny_pure ?_
    split
    · rename_i c _ _ _ _ _
      cases (c == Value.type "enumerate") <;>
        (wp_walk using wpAny_loadPart' hl, wpAny_pyIter_tuple hT
         exact ⟨_, rfl, h⟩)
    · wp_walk using wpAny_loadPart' hl, wpAny_pyIter_tuple hT
      exact ⟨_, rfl, h⟩
section
variable {prog : Program} {w : World} {A : Around} {E : Value → Shared → Prop} {s : Shared}
theorem call_enumT {l : Addr} {items : Array Value} {Q : Value → Shared → Prop} (hL : s.heap.IsTuple l items)
    (h : ∀ h', IsEnum h' (s.heap.objs.size + 1) s.heap.objs.size 0 .none → IsTupIter h' s.heap.objs.size l 0 → h'.objs.size = s.heap.objs.size + 2 →
      (∀ b o, s.heap.get? b = some o → h'.get? b = some o) → Q (.ref (s.heap.objs.size + 1)) { s with heap := h' }) :
    wpAny (model prog w) A (call (.type "enumerate") [.ref l]) Q E s := by
  obtain ⟨⟨c, dct, dt, sl⟩, hl, hc, n, hd⟩ := hL
  have hc : c = .type "tuple" := hc
  have hd : dt = .seq items n := hd
  subst hc hd
  refine callType_new F.called_enumerate (by decide) (F.typeCall_enumerate_1 _) (F.newCall_enumerate_1 _) (fun obj => F.args_object_init_2 obj _) F.entry_enumerate_new (meets_enumT l items n dct sl) ⟨hl, ?_⟩
  have hz : (s.heap.push { cls := .type "tuple_iterator", data := .fields #[.ref l, .int 0 0] }).objs.size = s.heap.objs.size + 1 := Heap.size_push ..
  show _ ∧ _
  rw [hz]
  generalize hh1 : s.heap.push { cls := .type "tuple_iterator", data := .fields #[.ref l, .int 0 0] } = h1 at hz ⊢
  have e1 : h1.get? s.heap.objs.size = some { cls := .type "tuple_iterator", data := .fields #[.ref l, .int 0 0] } := by rw [← hh1]; exact Heap.get?_push_size _ rfl
  have k1 : ∀ b o, s.heap.get? b = some o → h1.get? b = some o := fun b o e => by rw [← hh1]; exact Heap.get?_push_of_some _ e
  have he : IsEnum (h1.push { cls := .type "enumerate", data := .fields #[.none, .bool false, .ref s.heap.objs.size, rawInt 0, .none, .none] }) (s.heap.objs.size + 1) s.heap.objs.size 0 .none := by
    have := Heap.get?_push_size h1 (o := { cls := .type "enumerate", data := .fields #[.none, .bool false, .ref s.heap.objs.size, rawInt 0, .none, .none] }) rfl
    rw [hz] at this
    exact this
  exact ⟨⟨_, he, rfl⟩, h _ he ⟨_, Heap.get?_push_of_some _ e1, rfl, rfl⟩ (by rw [Heap.size_push, hz]) fun b o x => Heap.get?_push_of_some _ (k1 b o x)⟩
end
theorem draws_tup {prog : Program} {w : World} {A : Around} (hh : A.handled = none) (it l : Addr) (hne : l ≠ it) (items : Array Value) :
    Draws prog w A it [it, l] items.size (fun i v => items[i]? = some v) (fun i h => IsTupIter h it l i ∧ IsTup h l items) where
  live := fun _ _ st => let ⟨o, ho, _⟩ := st.1; ⟨o, ho⟩
  frame := fun _ _ _ st hk => by
    obtain ⟨⟨o, ho, r⟩, o2, ho2, r2⟩ := st
    exact ⟨⟨o, hk it (by simp) o ho, r⟩, o2, hk l (by simp) o2 ho2, r2⟩
  item := fun i s Q E hi st hQ => by
    unfold Builtin.SmallTypes.nextOf
    refine wpAny_bind (special_tup_item st.1 st.2 (x := items[i]) (by simp [hi]) fun h' hit' hs' => ?_)
    exact wpAny_pure (hQ _ h' s.toks (by simp [hi]) ⟨hit', st.2.extBut hs'.extBut hne⟩ hs')
  done := fun s Q E st hE => by
    unfold Builtin.SmallTypes.nextOf
    refine wpAny_bind (special_tup_end hh st.1 st.2 (by simp) fun e h' hx hk => ?_)
    obtain ⟨a, o, vs, rfl, ho, hc, _⟩ := hx
    exact hE h' a hk ⟨o, ho, hc⟩
/-- a tuple's items in pairs with their places -/
def IteT (K : PySem.W.Frag) (a : Addr) : It :=
  ⟨fun i H => ∃ (xs : List V) (x : V), SqT K H a xs ∧ xs[i]? = some x, fun i H v H' => ∃ T x, v = .ref T ∧ H T = none ∧ H' = upd H T (.tup [.int (i : Nat), x]) ∧ ∀ xs, SqT K H a xs → xs[i]? = some x, fun i H => ∃ xs : List V, SqT K H a xs ∧ xs.length ≤ i⟩
theorem turn_enumT {P : Program} {w : World} {K : PySem.W.Frag} {elts : List Expr} {kk : Nat} {tpos : Pos} (a e it : Addr) :
    Turn P w K (.Tuple elts kk tpos) (IteT K a) [e, it] e (fun i h => (∃ old, IsEnum h e it ((i : Nat) : Int) old) ∧ IsTupIter h it a i ∧ e ≠ it ∧ a ≠ it ∧ e ≠ a) where
  mem := by simp
  obj := fun i h st b hb => by
    obtain ⟨⟨old, he⟩, ⟨o, ho, hc, hd⟩, _⟩ := st
    rcases (by simpa using hb : b = e ∨ b = it) with z | z
    · rw [z]; exact ⟨_, he, fun v q => nomatch q⟩
    · rw [z]; exact ⟨o, ho, fun v q => by rw [hd] at q; cases q⟩
  keep := fun i h h' st k => by
    obtain ⟨⟨old, he⟩, ⟨o, ho, r⟩, hne⟩ := st
    exact ⟨⟨old, k e (by simp) _ he⟩, ⟨o, k it (by simp) o ho, r⟩, hne⟩
  item := by
    intro X hP hw hK hc i pins s σ H E I hf st hg
    subst hP hw hK
    obtain ⟨⟨old, he⟩, hit, hne, hai, hea⟩ := st
    obtain ⟨xs, x, hq, hx⟩ := hg
    obtain ⟨its, rv, p, hz⟩ := I.tuple hq
    obtain ⟨u, hu, ru⟩ := rv.get hx
    have hel : e < s.heap.objs.size := Heap.lt_size he
    have hil : it < s.heap.objs.size := by obtain ⟨_, q, _⟩ := hit; exact Heap.lt_size q
    have hlt : i < its.toArray.size := by
      have := (List.getElem?_eq_some_iff.mp hu).1
      simpa using this
    refine wpAny_pyNext_enum_itemD (draws_tup (A := X.A.in1) (I.ok.hd hc) it a hai its.toArray) he ⟨hit, p⟩ hlt hne (by simp; exact ⟨hne, hea⟩) fun y h' tk hy ho hst hT hsz hk => ?_
    have eu : y = u := by
      have hy : its.toArray[i]? = some y := hy
      rw [List.getElem?_toArray, hu] at hy
      exact (Option.some.inj hy).symm
    subst eu
    refine ⟨_, rfl, wpAny_letOwnedTupleGo_enum (s := { s with heap := h', toks := tk + 1 }) ho fun h'' he' sb => ?_⟩
    have hT2 : h''.get? s.heap.objs.size = some { cls := .type "tuple", data := .seq #[.int i tk, y] } := (sb.2 _ (Nat.ne_of_gt hel)).trans hT
    have new : ObjOk X.prog X.w (upd H s.heap.objs.size (.tup [.int (i : Nat), x])) h'' s.heap.objs.size (.tup [.int (i : Nat), x]) :=
      ⟨by show 2 ≤ sizeLine; decide, [.int i tk, y], .cons ⟨_, rfl⟩ (.cons ru .nil), ⟨_, hT2, rfl, _, rfl⟩⟩
    have I1 : L2.Inv X pins σ (upd H s.heap.objs.size (.tup [.int (i : Nat), x])) { s with heap := h'', toks := tk + 1 } :=
      I.turnedNew (ch := [e, it]) (fun b ob hb q => (sb.2 b (fun z => hb (by simp [z]))).trans (hk b ob (fun z => hb (by simp [z])) (fun z => hb (by simp [z])) q)) hf (Nat.le_refl _) new
    refine ⟨.ref s.heap.objs.size, _, I1, rfl, ⟨_, x, rfl, I.hok.fresh (Nat.le_refl _), rfl, fun ys hy => by rw [I.tuple_inj hy hq]; exact hx⟩, ⟨⟨y, ?_⟩, ?_, hne, hai, hea⟩, fun b hb => ?_⟩
    · rw [show ((i + 1 : Nat) : Int) = (i : Int) + 1 by omega]
      exact he'
    · obtain ⟨⟨o, ho2, r⟩, _⟩ := hst
      exact ⟨o, (sb.2 it (Ne.symm hne)).trans ho2, r⟩
    · have hb' : b < s.heap.objs.size := by
        rcases (by simpa using hb : b = e ∨ b = it) with z | z
        · rw [z]; exact hel
        · rw [z]; exact hil
      rw [upd_ne (Nat.ne_of_lt hb')]
      exact (hf b hb).1
  done := by
    intro X hP hw hK hc i pins s σ H E I hf st hg
    subst hP hw hK
    obtain ⟨⟨old, he⟩, hit, hne, hai, hea⟩ := st
    obtain ⟨xs, hq, hx⟩ := hg
    obtain ⟨its, rv, p, hz⟩ := I.tuple hq
    obtain ⟨f0, f1, f2, f3, f4, f5⟩ := hf it (by simp)
    have hl := rv.length
    by_cases hi : i = its.toArray.size
    · subst hi
      exact wpAny_pyNext_enum_endD (draws_tup (A := X.A.in1) (I.ok.hd hc) it a hai its.toArray) he ⟨hit, p⟩ fun h' eb => ⟨rfl, I.turned (t' := s.toks) (fun b o hb q => eb b o hb q) f0 f1 f3 f4 f5⟩
    · have D : Draws X.prog X.w X.A.in1 it [it, a] i (fun j v => False) (fun j h => IsTupIter h it a j ∧ IsTup h a its.toArray ∧ j = i) := {
        live := fun _ _ st => let ⟨o, ho, _⟩ := st.1; ⟨o, ho⟩
        frame := fun _ _ _ st hk => by
          obtain ⟨⟨o, ho, r⟩, ⟨o2, ho2, r2⟩, ej⟩ := st
          exact ⟨⟨o, hk it (by simp) o ho, r⟩, ⟨o2, hk a (by simp) o2 ho2, r2⟩, ej⟩
        item := fun j s Q E hj st _ => absurd st.2.2 (Nat.ne_of_lt hj)
        done := fun s Q E st hE => by
          unfold Builtin.SmallTypes.nextOf
          refine wpAny_bind (special_tup_end (I.ok.hd hc) st.1 st.2.1 (by
            rw [List.getElem?_toArray]
            exact List.getElem?_eq_none (by omega)) fun e h' hx hk => ?_)
          obtain ⟨b, o, vs, rfl, ho, hc', _⟩ := hx
          exact hE h' b hk ⟨o, ho, hc'⟩ }
      exact wpAny_pyNext_enum_endD D he ⟨hit, p, rfl⟩ fun h' eb => ⟨rfl, I.turned (t' := s.toks) (fun b o hb q => eb b o hb q) f0 f1 f3 f4 f5⟩
  self := fun A i s Q E st h => let ⟨⟨_, he⟩, _⟩ := st; wpAny_pyIter_enum he h
def iEnumA (K : PySem.W.Frag) (te : L2.TE) : L2.TI := fun σ H R => te σ H fun x H1 => ∃ a, x = .ref a ∧ (((∃ xs, SqL K H1 a xs) ∧ R (Ite K a) H1) ∨ ((∃ xs, SqT K H1 a xs) ∧ R (IteT K a) H1))
theorem pi_enumA {X : Cx} {e : Expr} {te : L2.TE} {p pos tpos : Pos} {elts : List Expr} {kk : Nat} (hg : Gl X "enumerate") (hm : X.mg "enumerate" = none) (he : PE X e te) (hs : starEach [e] X.env = [(false, eval e X.env)] := by rfl) :
    PI X (.Tuple elts kk tpos) (.Call (.Name "enumerate" p) [e] [] pos) (iEnumA X.K te) := by
  refine ⟨fun pins s σ H R I h => ?_⟩
  refine Call_ (ld_blt I hg hm boot_enumerate (PyProof.Rows.callWith_type1 (thn ((pa_cons he pa_nil (by rw [hs]; rfl)).run pos pins s σ H (fun vs H1 => ∃ a, vs = [.ref a] ∧ (((∃ xs, SqL X.K H1 a xs) ∧ R (Ite X.K a) H1) ∨ ((∃ xs, SqT X.K H1 a xs) ∧ R (IteT X.K a) H1))) I ?_) fun us s1 ⟨vs, H1, I1, r1, q1⟩ => ?_) hs rfl))
  · show te σ H fun x H1 => ∃ a, [x] = [V.ref a] ∧ _
    have := h
    unfold iEnumA at this
    have e : (fun (x : V) (H1 : Hp) => ∃ a, x = V.ref a ∧ (((∃ xs, SqL X.K H1 a xs) ∧ R (Ite X.K a) H1) ∨ ((∃ xs, SqT X.K H1 a xs) ∧ R (IteT X.K a) H1))) = fun x H1 => ∃ a, [x] = [V.ref a] ∧ (((∃ xs, SqL X.K H1 a xs) ∧ R (Ite X.K a) H1) ∨ ((∃ xs, SqT X.K H1 a xs) ∧ R (IteT X.K a) H1)) := by
      funext x H1
      simp
    rw [← e]
    exact this
  obtain ⟨a, ex, q⟩ := q1
  subst ex
  cases r1 with
  | cons r rr =>
    cases rr
    cases r
    have fpo : ∀ {h' : Heap} b, b ∈ [s1.heap.objs.size + 1, s1.heap.objs.size] → FpOk X pins H1 b := fun {h'} b hb => by
      have hle : s1.heap.objs.size ≤ b := by
        rcases (by simpa using hb : b = s1.heap.objs.size + 1 ∨ b = s1.heap.objs.size) with z | z
        · rw [z]; exact Nat.le_add_right _ _
        · rw [z]; exact Nat.le_refl _
      exact I1.fpOk hle (I1.hok.fresh hle)
    rcases q with ⟨⟨xs, hq⟩, q⟩ | ⟨⟨xs, hq⟩, q⟩
    · obtain ⟨its, rv, p', hz⟩ := I1.list hq
      refine call_enumerate_list p'.isList fun h' he hit hsz hk => wpAny_pyIter_enum he ?_
      exact ⟨s1.heap.objs.size + 1, [s1.heap.objs.size + 1, s1.heap.objs.size], _, _, H1, rfl, I1.kept (t' := s1.toks) hk, turn_enum a (s1.heap.objs.size + 1) s1.heap.objs.size, ⟨⟨.none, he⟩, hit, Nat.succ_ne_self _⟩, fpo (h' := h'), q⟩
    · obtain ⟨its, rv, p', hz⟩ := I1.tuple hq
      have al : a < s1.heap.objs.size := p'.lt
      refine call_enumT (show s1.heap.IsTuple a its.toArray from p') fun h' he hit hsz hk => wpAny_pyIter_enum he ?_
      exact ⟨s1.heap.objs.size + 1, [s1.heap.objs.size + 1, s1.heap.objs.size], _, _, H1, rfl, I1.kept (t' := s1.toks) hk, turn_enumT a (s1.heap.objs.size + 1) s1.heap.objs.size, ⟨⟨.none, he⟩, hit, Nat.succ_ne_self _, Nat.ne_of_lt al, Nat.ne_of_gt (Nat.lt_succ_of_lt al)⟩, fpo (h' := h'), q⟩

/-! ### over data -/
def enumD (xs : List D) : List D := (List.range xs.length).map fun i => .tup [.int (i : Nat), xs.getD i .non]
@[simp] theorem enumD_len (xs : List D) : (enumD xs).length = xs.length := by simp [enumD]
theorem enumD_get {xs : List D} {i : Nat} {d : D} (h : (enumD xs)[i]? = some d) : ∃ x, xs[i]? = some x ∧ d = .tup [.int (i : Nat), x] := by
  have hi : i < xs.length := by
    have := (List.getElem?_eq_some_iff.mp h).1
    simpa using this
  unfold enumD at h
  rw [List.getElem?_map, List.getElem?_range hi] at h
  refine ⟨xs[i], List.getElem?_eq_getElem hi, ?_⟩
  have h : some (D.tup [.int (i : Nat), xs.getD i .non]) = some d := h
  have e : xs.getD i .non = xs[i] := by simp [hi]
  rw [e] at h
  exact (Option.some.inj h).symm
/-- the items with their places -/
@[simp] def rEnum (r : EvR) : IvR := fun E => (rSeq r E).bind fun a => .ok (enumD a.1, a.2)
theorem pairOk {K : PySem.W.Frag} {G1 G H : Hp} {ds : List D} {xs : List V} {H1 : Hp} {i : Nat} {d : D} {T : Addr} {x : V} (hl : RpL K G1 H1 ds xs []) (hd : (enumD ds)[i]? = some d) (s1 : Same G1 G) (s2 : Same G H) (stb : ∀ p o, H p = some o → Stb o → G p = some o) (hn : H T = none) (hx : xs[i]? = some x) :
    ∃ G', Step G H G' (upd H T (.tup [.int (i : Nat), x])) ∧ Rp K G' (upd H T (.tup [.int (i : Nat), x])) d (.ref T) [] := by
  obtain ⟨y, hy, rfl⟩ := enumD_get hd
  obtain ⟨v, q, ev, r, sub, _⟩ := RpL.get ds xs [] i y hl hy
  rw [hx] at ev
  have e9 : x = v := Option.some.inj ev
  subst e9
  have hq : q = [] := List.eq_nil_iff_forall_not_mem.mpr fun a ha => nomatch sub a ha
  subst hq
  have r2 : Rp K G H y x [] := Rp.mono s1 y x [] r fun p hp => nomatch hp
  have rl : RpL K G H [.int (i : Nat), y] [.int (i : Nat), x] [] := by
    unfold RpL
    refine ⟨_, _, [], [], rfl, rfl, .int _, ?_⟩
    unfold RpL
    exact ⟨_, _, [], [], rfl, rfl, r2, by unfold RpL; exact ⟨rfl, rfl⟩⟩
  exact ⟨_, step_tup s2 stb hn, Rp.newTup s2 stb hn rl⟩
theorem itOk_enumL {K : PySem.W.Frag} {G1 H1 : Hp} {a : Addr} {xs : List V} {ds : List D} (hr : SqL K G1 a xs) (hl : RpL K G1 H1 ds xs []) : ItOk K (Ite K a) (enumD ds) G1 where
  goes := fun i G H hi s1 s2 => ⟨xs, xs[i]'(by rw [hl.len']; simpa using hi), sql_same (s1.trans s2) hr, by simp⟩
  stops := fun G H s1 s2 => ⟨xs, sql_same (s1.trans s2) hr, by rw [hl.len', enumD_len]; exact Nat.le_refl _⟩
  yields := fun i G H x H' d hd s1 s2 stb y => by
    obtain ⟨T, u, rfl, hn, rfl, hu⟩ := y
    exact pairOk hl hd s1 s2 stb hn (hu xs (sql_same (s1.trans s2) hr))
theorem itOk_enumT {K : PySem.W.Frag} {G1 H1 : Hp} {a : Addr} {xs : List V} {ds : List D} (hr : SqT K G1 a xs) (hl : RpL K G1 H1 ds xs []) : ItOk K (IteT K a) (enumD ds) G1 where
  goes := fun i G H hi s1 s2 => ⟨xs, xs[i]'(by rw [hl.len']; simpa using hi), sqt_same (s1.trans s2) hr, by simp⟩
  stops := fun G H s1 s2 => ⟨xs, sqt_same (s1.trans s2) hr, by rw [hl.len', enumD_len]; exact Nat.le_refl _⟩
  yields := fun i G H x H' d hd s1 s2 stb y => by
    obtain ⟨T, u, rfl, hn, rfl, hu⟩ := y
    exact pairOk hl hd s1 s2 stb hn (hu xs (sqt_same (s1.trans s2) hr))
section
variable [Tb] {X : Cx} {W : WX} {K : PySem.W.Frag}
theorem tEnum_of {r : EvR} (σ : L2.St) (H : Hp) (R : It → Hp → Prop) (h : tI K W (rEnum r) σ H R) : iEnumA K (tE K W r) σ H R := by
  obtain ⟨f, G, E, fp, ek, S, P⟩ := h
  refine ⟨f, G, E, fp, ek, S, ?_⟩
  unfold rEnum rSeq at P
  cases ea : r E with
  | stuck => rw [ea] at P; exact P
  | exc x E' => rw [ea] at P; exact P
  | ok a =>
    obtain ⟨o, E1, c1⟩ := a
    rw [ea] at P
    intro v G1 H1 fp1 q S1 O1 W1 k1
    have P : PostI f W σ R (Rs.bind (match toVal o E1 with
      | some (.lst _ xs, E2, _) => .ok (fzL xs, E2)
      | some (.tup xs, E2, _) => if fzdL xs = true then .ok (xs, E2) else .stuck
      | _ => .stuck) fun a => .ok (enumD a.1, a.2)) := P
    cases et : toVal o E1 with
    | none => rw [et] at P; exact P.elim
    | some p =>
      obtain ⟨d, E2, c⟩ := p
      rw [et] at P
      obtain ⟨G2, fp2, S2, s2, k2, b2, r2, z2⟩ := toVal_ok S1 O1 W1 et
      subst ek
      cases d with
      | lst m xs =>
        obtain ⟨S3, r3⟩ := S2.freezeV r2 (W1.sub b2)
        unfold D.fz Rp at r3
        obtain ⟨a, vs, e1, r3⟩ := r3
        simp only [Bool.false_eq_true, if_false] at r3
        exact ⟨a, e1, .inl ⟨⟨vs, sql_same S3.ex r3.2.1⟩, P _ _ H1 fp2 S3 (itOk_enumL r3.2.1 r3.2.2)⟩⟩
      | tup xs =>
        have P : PostI f W σ R (Rs.bind (if fzdL xs = true then .ok (xs, E2) else .stuck) fun a => .ok (enumD a.1, a.2)) := P
        split at P
        · rename_i hz
          obtain ⟨a, vs, e1, hs, hsg, hl⟩ := r2.tup_inv S2.ex
          exact ⟨a, e1, .inr ⟨⟨vs, hs⟩, P _ _ H1 fp2 S2 (itOk_enumT hsg (hl.fz0 hz))⟩⟩
        · exact P.elim
      | _ => exact P.elim
theorem di_enum {e : Expr} {r : EvR} {p pos tpos : Pos} {elts : List Expr} {kk : Nat} (hg : Gl X "enumerate") (hm : X.mg "enumerate" = none) (h : DE X W e r) (hs : starEach [e] X.env = [(false, eval e X.env)] := by rfl) :
    DI X W (.Tuple elts kk tpos) (.Call (.Name "enumerate" p) [e] [] pos) (rEnum r) := (pi_enumA hg hm h hs).weak tEnum_of
end
end DV

namespace DV
open PySem PySem.Spec PyProof.Rows L2

/-! ### sum of a generator expression of ints: the generator -/
/-- while a generator sleeps, its consumer writes at S -/
structure SlpX (S : Addr) (s s' : Shared) : Prop where
  os : s'.os = s.os
  bare : AllBare s'.gens
  keep : ∀ b o, b ≠ S → s.heap.get? b = some o → s'.heap.get? b = some o
def gYs (X : Cx) (pins : List (Addr × Obj)) (σ : L2.St) (S ga : Addr) (g : Nat) (ys : List Int) : Protocol := fun n s₀ v s kap =>
  ∃ (i : Int) (t : Tok) (H' : Hp), v = .int i t ∧ ys[ys.length - (n + 1)]? = some i ∧ n < ys.length ∧ Inv X pins σ H' s ∧ FpOk X pins H' S ∧ s.heap.IsGen ga g ∧ (∀ o, s₀.heap.get? S = some o → s.heap.get? S = some o) ∧
    ∀ s' o', SlpX S s s' → s'.heap.get? S = some o' → (∀ v, o'.data ≠ .cell v) → kap (.send .none) s'
def gRs (X : Cx) (pins : List (Addr × Obj)) (σ : L2.St) (S : Addr) (ys : List Int) (Q : VK) : GenEnd := fun n s₀ r s => r = .ok .next ∧ n = 0 ∧ (∀ o, s₀.heap.get? S = some o → s.heap.get? S = some o) ∧ ∃ H', Inv X pins σ H' s ∧ Q (.int ys.sum) H'
/-- a turn's reading; j of the ints have been told -/
def gTurnS (J : It) (g : L2.TG) (tt : L2.TT) (te : L2.TE) (vs : List Nat) (σ : L2.St) (ys : List Int) (Q : VK) (W : Nat → Nat → Nat → Hp → Prop) : Prop := ∀ i j m H, W i j m H →
  (J.stop i H ∧ j = ys.length ∧ Q (.int ys.sum) H) ∨ (J.go i H ∧ ∃ Nx : Nat → Hp → Prop, (∀ j' H', Nx j' H' → ∃ m', m' < m ∧ W (i + 1) j' m' H') ∧ ∀ x H', J.yld i H x H' → g x (wipe σ vs) H' fun σ2 H2 => wipe σ2 vs = wipe σ vs ∧ tt σ2 H2 fun b H3 =>
    if b = true then te σ2 H3 fun y H4 => ∃ c : Int, y = .int c ∧ ys[j]? = some c ∧ Nx (j + 1) H4 else Nx j H3)
section
variable {X : Cx} {pins : List (Addr × Obj)} {σ : L2.St}
theorem inv_slpX {S : Addr} {oS o' : Obj} {H' : Hp} {s s' : Shared} (J : Inv X [(S, oS)] σ H' s) (z : SlpX S s s') (h1 : X.s_0.heap.objs.size ≤ S) (h3 : ∀ p ∈ X.pn, p.1 ≠ S) (nw : s'.heap.get? S = some o') (nc : ∀ v, o'.data ≠ .cell v) : Inv X [(S, o')] σ H' s' := by
  obtain ⟨p1, p2, p3, p4, p5⟩ := J.pin (S, oS) (List.mem_append_right _ List.mem_cons_self)
  have J0 : Inv X [] σ H' s := J.pins_of fun p hp => nomatch hp
  have J1 := J0.turned (t' := s.toks) (h' := s'.heap) (it := S) z.keep p2 p3 (.inr h1) (fun x c e w => by
    obtain ⟨v, q⟩ := J.cell x c e
    rw [w] at q
    obtain ⟨o, e1, e2⟩ := q
    rw [p1] at e1
    cases e1
    exact p5 _ e2) (fun p hp => h3 p (by simpa using hp))
  have J2 := inv_gens (s' := s') J1 z.os z.bare fun _ _ e => e
  exact J2.pins_of fun p hp => by
    have q : p = (S, o') := by simpa using hp
    subst q
    exact ⟨nw, p2, p3, p4, nc⟩
end
section
variable {X : Cx} {pins : List (Addr × Obj)} {σ : L2.St} {HB : Hp} {sB : Shared} {ce : PySem.Env} {fp : List Addr} {S ga it : Addr} {go : Obj} {A AG : Around} {tg elt iter : Expr} {ifs : List Expr} {scope : Scope} {pos : Pos} {ys : List Int} {Q : VK} {gn : Nat} {J : It} {tn : Nat → Heap → Prop} {gT : L2.TG} {tt : L2.TT} {te : L2.TE} {vs : List Nat} {W : Nat → Nat → Nat → Hp → Prop}
theorem seg_geS (hAG : A.over (.compLoop (.GeneratorExp elt [⟨tg, iter, ifs, 0⟩] scope pos) 0 (.ref it) .none ce) [] = AG) (I0 : Inv X pins σ HB sB) (hfp : ∀ b ∈ fp, FpOk X pins HB b) (hS : FpOk X pins HB S) (hSs : sB.heap.objs.size ≤ S) (hSf : S ∉ fp) (hSg : ga ≠ S) (hfl : ∀ b ∈ fp, b ≠ ga) (hc : X.calm = true) (hco : ce.scope.isCoroutine = false)
    (hG : ∀ h : Heap, h.get? ga = some go → h.IsGen ga gn) (T : Turn X.prog X.w X.K tg J fp it tn) (pg : PG (gX X sB HB ce fp [(ga, go)] AG) tg gT) (pt : PTs (gX X sB HB ce fp [(ga, go)] AG) ifs tt) (pe : PE (gX X sB HB ce fp [(ga, go)] AG) elt te) (turn : gTurnS J gT tt te vs σ ys Q W) :
    ∀ (m n i j : Nat) (H : Hp) (s₀ s : Shared) (oS : Obj), n + j = ys.length → W i j m H → Inv (gX X sB HB ce fp [(ga, go)] AG) [(S, oS)] (wipe σ vs) H s → tn i s.heap → (∀ b ∈ fp, H b = none) → s₀.heap.get? S = some oS →
      Seg (model X.prog X.w) A (gRs X pins σ S ys Q) (gYs X pins σ S ga gn ys) n s₀ (.compLoop (.GeneratorExp elt [⟨tg, iter, ifs, 0⟩] scope pos) 0 (.ref it) .none ce)
        ((model X.prog X.w).den (.compLoop (.GeneratorExp elt [⟨tg, iter, ifs, 0⟩] scope pos) 0 (.ref it) .none ce)) [] s := by
  have stat : ∀ {oS : Obj} {τ : L2.St} {H' : Hp} {s' : Shared}, Inv (gX X sB HB ce fp [(ga, go)] AG) [(S, oS)] τ H' s' → (∀ b ∈ fp, H' b = none) → ∀ b ∈ fp, FpOk (gX X sB HB ce fp [(ga, go)] AG) [(S, oS)] H' b := fun {oS τ H' s'} I' hn b hb =>
    ⟨hn b hb, (I'.ok.exf b hb).1, I'.ok.exfs b hb, .inl hb, fun x c e => (I'.ok.exf b hb).2 x c e, fun p hp => by
      rcases List.mem_append.mp hp with hp | hp
      · have hp : p = (ga, go) := by simpa using hp
        rw [hp]
        exact fun z => hfl b hb z.symm
      · have hp : p = (S, oS) := by simpa using hp
        rw [hp]
        exact fun z => hSf (by rw [show S = b from z]; exact hb)⟩
  intro m
  induction m using Nat.strongRecOn with
  | ind m ih =>
    intro n i j H s₀ s oS hnj w I st nfp hs0
    have atS : ∀ {pl : List (Addr × Obj)} {τ : L2.St} {H' : Hp} {s' : Shared}, Inv (gX X sB HB ce fp [(ga, go)] AG) ((S, oS) :: pl) τ H' s' → ∀ o, s₀.heap.get? S = some o → s'.heap.get? S = some o := fun {pl τ H' s'} I' o e => by
      rw [hs0] at e
      cases e
      exact (I'.pin (S, oS) (List.mem_append_right _ List.mem_cons_self)).1
    have freeS : ∀ {pl : List (Addr × Obj)} {τ : L2.St} {H' : Hp} {s' : Shared}, Inv (gX X sB HB ce fp [(ga, go)] AG) ((S, oS) :: pl) τ H' s' → FpOk X pins H' S := fun {pl τ H' s'} I' =>
      ⟨(I'.pin (S, oS) (List.mem_append_right _ List.mem_cons_self)).2.1, hS.2⟩
    show Seg _ A _ _ _ s₀ _ ((compTurn (.GeneratorExp elt [⟨tg, iter, ifs, 0⟩] scope pos) 0 (.ref it) .none ce).onRaise (leaving ce)) [] s
    rw [compTurn_gen, Sem.onRaise_eq_wrap]
    refine seg_bind_wrap (wpAny_standAt ?_)
    rcases turn i j m H w with ⟨stp, hj, q⟩ | ⟨gos, Nx, hNx, step⟩
    · have td := T.done (gX X sB HB ce fp [(ga, go)] AG) rfl rfl rfl hc i [(S, oS)] s _ H (fun _ _ => False) I (stat I nfp) st stp
      refine seg_bind_wrap ?_
      rw [hAG]
      refine thnF td fun r s6 ⟨hr, I6⟩ => ?_
      subst hr
      exact seg_end (.ok .next) ⟨rfl, by omega, atS I6, H, ge_back I0 hfp I6, q⟩
    · have ti := T.item (gX X sB HB ce fp [(ga, go)] AG) rfl rfl rfl hc i [(S, oS)] s _ H (fun _ _ => False) I (stat I nfp) st gos
      refine seg_bind_wrap ?_
      rw [hAG]
      refine thnF ti fun r s6 ⟨u, hr, h6⟩ => ?_
      subst hr
      refine seg_bind_wrap ?_
      rw [hAG]
      refine thnF h6 fun _ s7 ⟨x, H7, I7, r7, y7, st7, n7⟩ => ?_
      have I7' := I7.pinned (stat I7 n7) (T.obj _ _ st7)
      refine seg_bind_wrap ?_
      rw [hAG]
      refine thnF (pg.run _ s7 _ H7 x u _ I7' r7 (step x H7 y7)) fun _ s8 ⟨σ8, H8, I8, hw8, q8⟩ => ?_
      refine seg_bind_wrap ?_
      rw [hAG]
      refine thnF (pt.run _ s8 σ8 H8 _ I8 q8) fun b s9 ⟨H9, I9, q9⟩ => ?_
      have fin : ∀ {s' : Shared} {H' : Hp}, Inv (gX X sB HB ce fp [(ga, go)] AG) ([(S, oS)] ++ pinsAt fp s7.heap) σ8 H' s' → Inv (gX X sB HB ce fp [(ga, go)] AG) [(S, oS)] (wipe σ vs) H' s' ∧ tn (i + 1) s'.heap ∧ (∀ b ∈ fp, H' b = none) := fun {s' H'} I' => by
        have at_ : ∀ b ∈ fp, ∀ o, s7.heap.get? b = some o → s'.heap.get? b = some o ∧ H' b = none := fun b hb o e => by
          have z := I'.pin (b, o) (List.mem_append_right _ (List.mem_append_right _ (mem_pinsAt hb e)))
          exact ⟨z.1, z.2.1⟩
        have hl : (wipe σ vs).length = σ8.length := by rw [← hw8, wipe_length]
        refine ⟨(I'.unpinned).weak hl (fun j v e => ?_), T.keep _ _ _ st7 fun b hb o e => (at_ b hb o e).1, fun b hb => ?_⟩
        · rw [← hw8] at e
          exact (wipe_some e).1
        · obtain ⟨o, e, _⟩ := T.obj _ _ st7 b hb
          exact (at_ b hb o e).2
      cases b with
      | false =>
        simp only [Bool.false_eq_true, if_false] at q9 ⊢
        obtain ⟨m', hm, w'⟩ := hNx j H9 q9
        obtain ⟨J1, J2, J3⟩ := fin I9
        exact seg_again rfl (ih m' hm n (i + 1) j H9 s₀ s9 oS hnj w' J1 J2 J3 hs0)
      | true =>
        simp only [if_true] at q9 ⊢
        have hy : ∀ v, yieldOut ce v = yieldValue v := fun v => by simp only [yieldOut, hco, Bool.false_eq_true, if_false]
        simp only [hy]
        rw [Sem.bind_eq_wrap', Sem.bind_eq_wrap', Sem.wrap_wrap, Sem.wrap_wrap]
        refine seg_wrap ?_
        rw [hAG]
        refine thnF (pe.run _ s9 σ8 H9 _ I9 q9) fun z s10 ⟨yv, H10, I10, r10, c, ec, hyj, q2⟩ => ?_
        subst ec
        obtain ⟨tz, ez⟩ := (show ∃ t, z = Value.int c t from r10)
        subst ez
        obtain ⟨J1, J2, J3⟩ := fin I10
        have hgen : s10.heap.IsGen ga gn := hG _ (J1.pin (ga, go) (List.mem_append_left _ List.mem_cons_self)).1
        have hjl : j < ys.length := (List.getElem?_eq_some_iff.mp hyj).1
        obtain ⟨n, rfl⟩ : ∃ k, n = k + 1 := ⟨n - 1, by omega⟩
        refine seg_at (seg_yield rfl rfl rfl ⟨c, tz, H10, rfl, by rw [show ys.length - (n + 1) = j by omega]; exact hyj, by omega, ge_back I0 hfp J1, freeS J1, hgen, atS J1, fun s'' o' z hn hnc => ?_⟩)
        obtain ⟨m', hm, w'⟩ := hNx (j + 1) H10 q2
        have K1 := inv_slpX J1 z hSs (fun p hp => by
          have hp : p = (ga, go) := by simpa using hp
          rw [hp]
          exact hSg) hn hnc
        exact seg_again rfl (ih m' hm n (i + 1) (j + 1) H10 s'' s'' o' (by omega) w' K1 (T.keep _ _ _ J2 fun b hb o e => z.keep b o (fun y => hSf (y ▸ hb)) e) J3 hn)
end
end DV

namespace DV
open PySem PySem.Spec PyProof.Rows L2

/-! ### sum of a generator expression of ints: the consumer -/
section
variable {X : Cx} {pins : List (Addr × Obj)} {σ : L2.St} {S ga : Addr} {gn : Nat} {A : Around} {Q : VK} {R : Result → Shared → Prop} {ys : List Int}
def gZs (X : Cx) (A : Around) (pins : List (Addr × Obj)) (σ : L2.St) (S ga : Addr) (gn : Nat) (ys : List Int) (Q : VK) (n : Nat) (s : Shared) : Prop :=
  s.heap.IsGen ga gn ∧ ga ≠ S ∧ (∃ o, s.heap.get? S = some o ∧ ∀ v, o.data ≠ .cell v) ∧ (∃ H', L2.Inv X pins σ H' s ∧ FpOk X pins H' S) ∧ ∃ gs, s.gens[gn]? = some gs ∧ gs.Goes (model X.prog X.w) A.in1 (gRs X pins σ S ys Q) (gYs X pins σ S ga gn ys) n (.send .none) (s.setGen gn .running)
theorem next_geS {n : Nat} {s : Shared} {K : Option Value → Shared → Prop} {E : Value → Shared → Prop} (hh : A.handled = none) (hd : A.depth < recursionLimit) (h : gZs X A pins σ S ga gn ys Q n s)
    (hend : n = 0 → ∀ H' s', L2.Inv X pins σ H' s' → Q (.int ys.sum) H' → K none s')
    (hy : ∀ k i t s', n = k + 1 → ys[ys.length - (k + 1)]? = some i → (∀ o, s.heap.get? S = some o → s'.heap.get? S = some o) →
      (∀ h'' tk o', (∀ b o, b ≠ S → s'.heap.get? b = some o → h''.get? b = some o) → h''.get? S = some o' → (∀ v, o'.data ≠ .cell v) → gZs X A pins σ S ga gn ys Q k { s' with heap := h'', toks := tk }) → K (some (.int i t)) s') :
    wpAny (model X.prog X.w) A (pyNext (.ref ga)) K E s := by
  obtain ⟨hg, hgS, ⟨oS, hoS, ncS⟩, ⟨H0, I0, _⟩, gs, hgs, hgo⟩ := h
  have hlt : gn < s.gens.size := (Array.getElem?_eq_some_iff.mp hgs).1
  refine GenW.wpAny_gsz (n := gn + 1) hlt (wpAny_pyNext_genexpQ (P := fun n s₀ s₁ => n = 0 ∧ (∀ o, s₀.heap.get? S = some o → s₁.heap.get? S = some o) ∧ ∃ H', L2.Inv X pins σ H' s₁ ∧ Q (.int ys.sum) H') hh I0.nolimit hd hg hgs hgo (fun v s₁ gs' hb hv => ?_) fun s₁ hp h' hk => ?_)
  · intro hsz
    rw [GenW.setGen_size] at hsz
    obtain ⟨i, t, H', rfl, hi, hn, I, hS, hg', hp, hk⟩ := hv
    cases n with
    | zero =>
      exact (hk (s₁.setGen gn .running) oS ⟨rfl, bare_set I.bare rfl, fun b o _ e => e⟩ (hp oS hoS) ncS).elim
    | succ k =>
      refine hy k i t _ rfl hi hp fun h'' tk o' kp hS' hnc => ?_
      have I' : L2.Inv X pins σ H' (s₁.setGen gn gs') := inv_gens I rfl (bare_set I.bare hb) fun _ _ e => e
      have I2 := I'.turned (t' := tk) (h' := h'') (it := S) kp hS.1 hS.2.1 hS.2.2.2.1 hS.2.2.2.2.1 hS.2.2.2.2.2
      refine ⟨?_, hgS, ⟨o', hS', hnc⟩, ⟨H', I2, hS⟩, gs', at_set hsz, hk _ o' ⟨rfl, bare_set (bare_set I.bare hb) rfl, fun b o hb e => kp b o hb e⟩ hS' hnc⟩
      obtain ⟨o, t1, t2, e, r⟩ := hg'
      exact ⟨o, t1, t2, kp _ _ hgS e, r⟩
  · intro _
    obtain ⟨h0, _, H', I, q⟩ := hp
    exact hend h0 H' _ (inv_gens I rfl (bare_set I.bare rfl) hk) q
theorem sum_turns (hh : A.handled = none) (hd : A.depth < recursionLimit) (hR : ∀ t H' s', L2.Inv X pins σ H' s' → Q (.int ys.sum) H' → R (.ok (.ret (.int ys.sum t))) s') :
    ∀ (n : Nat) (s : Shared) (tA : Tok) (c : Nat) (stage : Int), (stage = 0 ∨ stage = 2) → n ≤ ys.length → gZs X A.in1 pins σ S ga gn ys Q n s →
      s.heap.get? S = some { cls := .type "list", dict := none, data := .seq #[.int (ys.take (ys.length - n)).sum tA] c, slots := #[] } →
      codeAny (model X.prog X.w) A (.builtin "sum.loop" ⟨[.ref ga, .ref S, rawInt stage, rawInt 0], []⟩) R s := by
  intro n
  induction n with
  | zero =>
    intro s tA c stage hstage hn h hS
    refine codeAny_builtin F.entry_sum_loop ?_
    rw [Around.under_plainId F.plain_sum_loop _]
    show wpAny _ A.in1 (seqItems? (.ref S) >>= _) _ _ s
    refine wpAny_bind (wpAny_seqItems hS rfl ?_)
    show wpAny _ A.in1 (tryCatch (pyNext (.ref ga)) _ >>= _) _ _ s
    refine wpAny_bind (wpAny_tryCatch (next_geS (A := A.in1) hh hd h (fun _ H' s' I q => ?_) fun k i t s' e => nomatch e))
    refine wpAny_pure ?_
    rw [Nat.sub_zero, List.take_length]
    exact hR _ H' s' I q
  | succ n ih =>
    intro s tA c stage hstage hn h hS
    refine codeAny_builtin F.entry_sum_loop ?_
    rw [Around.under_plainId F.plain_sum_loop _]
    show wpAny _ A.in1 (seqItems? (.ref S) >>= _) _ _ s
    refine wpAny_bind (wpAny_seqItems hS rfl ?_)
    show wpAny _ A.in1 (tryCatch (pyNext (.ref ga)) _ >>= _) _ _ s
    refine wpAny_bind (wpAny_tryCatch (next_geS (A := A.in1) hh hd h (fun z => nomatch z) fun k i t s' e hi hp hz => ?_))
    cases e
    have hS' := hp _ hS
    have hsum : (ys.take (ys.length - n)).sum = (ys.take (ys.length - (n + 1))).sum + i := by
      rw [show ys.length - n = (ys.length - (n + 1)) + 1 by omega, List.take_add_one, hi]
      simp
    rw [hsum] at ih
    generalize hT : (ys.take (ys.length - (n + 1))).sum = T at hS hS' ih ⊢
    have nb : ∀ {b : Addr} {o : Obj} {f : Obj → Obj}, b ≠ S → s'.heap.get? b = some o → (s'.heap.update S f).get? b = some o := fun {b o f} hb e => (Heap.get?_update_other _ _ (Ne.symm hb)).trans e
    rcases hstage with rfl | rfl
    · show wpAny _ A.in1 (if (_ : Bool) = true then (mkInt (T + i) >>= _) else _) _ _ _
      split
      · refine wpAny_bind (wpAny_mkInt ?_)
        show wpAny _ A.in1 (updateSeq S (fun _ => #[.int (T + i) s'.toks]) >>= _) _ _ _
        refine wpAny_bind ?_
        refine wpAny_updateSeq hS' rfl (wpAny_pure ⟨plainId_quiet F.plain_sum_loop _, ih _ s'.toks _ 0 (Or.inl rfl) (by omega) (hz _ _ _ (fun b o hb e => nb hb e) (Heap.get?_update_self _ hS' rfl) (fun v z => by cases z)) (Heap.get?_update_self _ hS' rfl)⟩)
      · refine wpAny_bind (wpAny_rule ?_)
        refine wpAny_bind (wpAny_attempt (wpAny_holding (PySem.P.add_int ?_)))
        show wpAny _ A.in1 (updateSeq S (fun _ => #[.int (T + i) s'.toks]) >>= _) _ _ _
        refine wpAny_bind ?_
        refine wpAny_updateSeq hS' rfl ?_
        have hS2 := Heap.get?_update_self (Obj.mapSeq fun _ => #[Value.int (T + i) s'.toks]) hS' rfl
        refine wpAny_bind (wpAny_letGo ?_)
        refine wpAny_bind ?_
        refine wpAny_updateSeq hS2 rfl (wpAny_pure ⟨plainId_quiet F.plain_sum_loop _, ih _ s'.toks _ 2 (Or.inr rfl) (by omega) (hz _ _ _ (fun b o hb e => (Heap.get?_update_other _ _ (Ne.symm hb)).trans (nb hb e)) (Heap.get?_update_self _ hS2 rfl) (fun v z => by cases z)) (Heap.get?_update_self _ hS2 rfl)⟩)
    · show wpAny _ A.in1 ((holding [Value.int i t] (binaryOp .Add (.int T tA) (.int i t))).attempt >>= _) _ _ _
      refine wpAny_bind (wpAny_attempt (wpAny_holding (PySem.P.add_int ?_)))
      show wpAny _ A.in1 (updateSeq S (fun _ => #[.int (T + i) s'.toks]) >>= _) _ _ _
      refine wpAny_bind ?_
      refine wpAny_updateSeq hS' rfl ?_
      have hS2 := Heap.get?_update_self (Obj.mapSeq fun _ => #[Value.int (T + i) s'.toks]) hS' rfl
      refine wpAny_bind (wpAny_letGo ?_)
      refine wpAny_bind ?_
      refine wpAny_updateSeq hS2 rfl (wpAny_pure ⟨plainId_quiet F.plain_sum_loop _, ih _ s'.toks _ 2 (Or.inr rfl) (by omega) (hz _ _ _ (fun b o hb e => (Heap.get?_update_other _ _ (Ne.symm hb)).trans (nb hb e)) (Heap.get?_update_self _ hS2 rfl) (fun v z => by cases z)) (Heap.get?_update_self _ hS2 rfl)⟩)
end
end DV

namespace DV
open PySem PySem.Spec PyProof.Rows L2

def tGeS (P : Addr) (wi : L2.TI) (g : L2.TG) (tt : L2.TT) (te : L2.TE) (vs : List Nat) : L2.TE := fun σ H Q => wi σ H fun J H1 => GxR.TabG H1 P ∧ ∀ H2, GxR.Tabbed P H1 H2 → ∃ (ys : List Int) (W : Nat → Nat → Nat → Hp → Prop), (∃ m, W 0 0 m H2) ∧ gTurnS J g tt te vs σ ys Q W
section
variable {X : Cx} {pins : List (Addr × Obj)} {σ : L2.St} {H : Hp} {s : Shared} {c P : Addr} {elt tg iter : Expr} {ifs : List Expr} {scope : Scope} {own : List (Str × Nat)} {gpos : Pos} {wi : L2.TI} {gT : L2.TG} {tt : L2.TT} {te : L2.TE} {k : Nat}
/-- the generator is made; K is reached with it asleep -/
theorem ge_madeS {Q : VK} {K : Value → Shared → Prop} (hr : Room (k + 1) X.A) (TB : GxR.TabB X.base X.mg c P) (hcode : X.env.code = .ref c) (ok : GeOk X.N X.env.scope scope own) (hN : X.N.Nodup) (hcalm : X.calm = true) (hi : PI X tg iter wi)
    (hg : ∀ (s : Shared) (H : Hp) (C : Addr) (code : Value) (fp : List Addr) (pn : List (Addr × Obj)) (AG : Around), Room k AG → PG (gX X s H (gE X scope C code builtinsNs) fp pn AG) tg gT)
    (ht : ∀ (s : Shared) (H : Hp) (C : Addr) (code : Value) (fp : List Addr) (pn : List (Addr × Obj)) (AG : Around), Room k AG → PTs (gX X s H (gE X scope C code builtinsNs) fp pn AG) ifs tt)
    (he : ∀ (s : Shared) (H : Hp) (C : Addr) (code : Value) (fp : List Addr) (pn : List (Addr × Obj)) (AG : Around), Room k AG → PE (gX X s H (gE X scope C code builtinsNs) fp pn AG) elt te)
    (hs : ∀ v, genFold iter X.env v = pure v) (I : L2.Inv X pins σ H s) (h : tGeS P wi gT tt te (own.map (·.2)) σ H Q)
    (hK : ∀ ga gn (ys : List Int) s', s'.heap.IsGen ga gn → (∀ h'' tk oS, (∀ b o, s'.heap.get? b = some o → h''.get? b = some o) → h''.get? s'.heap.objs.size = some oS → (∀ v, oS.data ≠ .cell v) →
      gZs X X.A.in1 pins σ s'.heap.objs.size ga gn ys Q ys.length { s' with heap := h'', toks := tk }) → (∀ t H' s'', L2.Inv X pins σ H' s'' → Q (.int ys.sum) H' → EP X pins σ Q (.int ys.sum t) s'') → K (.ref ga) s') :
    wpAny (model X.prog X.w) X.A (eval (.GeneratorExp elt [⟨tg, iter, ifs, 0⟩] scope gpos) X.env) K X.xe s := by
  have hfree : ∀ y ∈ scope.names, y.2 = .free → ∃ c, X.env.cells.lookup y.1 = some c := fun y hy e => (ok.blk.free y hy e).elim (fun z => I.ok.has _ (.inl z)) fun z => I.ok.has _ (.inr z)
  refine wpAny_GeneratorExp_make ok.co (closure_ok hfree) ok.nocell ok.dot ok.blk.kind (by have := hr.dp; omega) ?_ hs
  refine thn (hi.run pins s σ H _ I h) fun xv s1 hx => thn hx fun itv s2 h2 => ?_
  obtain ⟨it, fp, tn, J, H1, rfl, I2, T, st2, f2, ⟨ps, hP, htr⟩, q⟩ := h2
  refine ⟨I2.nolimit, ?_⟩
  have hPs : s2.heap.get? P = some { cls := .none, data := .fields ps } := I2.hok P _ hP
  have cd : PySem.W.CodeHd s2.heap c P := TB.code.keeps fun b o e => I2.bk b o e
  have nP : ∀ b ∈ fp, b ≠ P := fun b hb z => by
    have := (f2 b hb).1
    rw [z, hP] at this
    cases this
  have cont : ∀ (code : Value) (h3 : Heap) (tk : Nat) (more : Array Value), (∀ b o, b ≠ P → s2.heap.get? b = some o → h3.get? b = some o) → h3.get? P = some { cls := .none, data := .fields (ps ++ more) } → TriplesOk (ps ++ more).toList →
      wpAny (model X.prog X.w) X.A (builtinsFor X.env.globals X.env.builtins) (fun bi s₄ => ∀ h', h'.Ns s₄.heap.objs.size (fun y => if y = (".0" : Str) then some (.ref it) else none) → Heap.SameBut s₄.heap.objs.size (s₄.heap.push { cls := .type "frame", data := .dict #[] }) h' →
          K (.ref h'.objs.size) { s₄ with gens := s₄.gens.push (.fresh (.compStart (.GeneratorExp elt [⟨tg, iter, ifs, 0⟩] scope gpos) 0 (.ref it) .none (gE X scope s₄.heap.objs.size code bi))), toks := s₄.toks + 1 + 1 + 1, heap := h'.push { cls := .type "generator", data := .fields #[.int s₄.gens.size 0, .str "<genexpr>" (s₄.toks + 1), .str (X.env.qual ++ "<genexpr>") (s₄.toks + 1 + 1)] } }) X.xe { s2 with heap := h3, toks := tk } := by
    intro code h3 tk more hk hP3 ht3
    have I3 := GxR.inv_tab (more := more) (h' := h3) (g' := s2.gens) (d' := s2.drawn) (t' := tk) I2 hP hk hP3 I2.bare
    have tb : GxR.Tabbed P H1 (upd H1 P (.tbl (ps ++ more))) := ⟨⟨ps ++ more, upd_same, ht3⟩, fun b hb => upd_ne hb⟩
    obtain ⟨ys, W, ⟨m, w⟩, turn⟩ := q _ tb
    obtain ⟨bm, ob, e1, e2, e3, e4, e5, e6, e7, e8⟩ := TB.bm
    refine wpAny_builtinsFor (m := X.mg) (o := ob) (bm := bm) ?_ e1 e2 (hk _ _ e4 (I2.bk _ _ e5)) e6 e7 e8 ?_
    · rw [I.ok.glob]
      exact I3.mod.glob.keeps I3.bk
    intro h' hns hsb
    generalize hs3 : ({ s2 with heap := h3, toks := tk } : Shared) = s3 at I3 hns hsb ⊢
    have h3h : s3.heap = h3 := by rw [← hs3]
    have sz : h'.objs.size = s3.heap.objs.size + 1 := by
      rw [hsb.1, Heap.size_push]
    have kp' : ∀ b o, s3.heap.get? b = some o → h'.get? b = some o := fun b o e => hsb.extBut b o (Nat.ne_of_lt (Heap.lt_size e)) (Heap.get?_push_of_some _ e)
    have st3 : tn 0 s3.heap := T.keep _ _ _ st2 fun b hb o e => by rw [h3h]; exact hk b o (nP b hb) e
    have f3 : ∀ b ∈ fp, FpOk X pins (upd H1 P (.tbl (ps ++ more))) b := fun b hb => ⟨(upd_ne (nP b hb)).trans (f2 b hb).1, (f2 b hb).2⟩
    have lt3 : ∀ b ∈ fp, b < s3.heap.objs.size := fun b hb => by
      obtain ⟨o, e, _⟩ := T.obj _ _ st3 b hb
      exact Heap.lt_size e
    have main : ∀ (go : Obj) (tk' : Nat), (∀ h : Heap, h.get? h'.objs.size = some go → h.IsGen h'.objs.size s3.gens.size) → (∀ v, go.data ≠ .cell v) → (h'.push go).get? h'.objs.size = some go →
        K (.ref h'.objs.size) { s3 with gens := s3.gens.push (.fresh (.compStart (.GeneratorExp elt [⟨tg, iter, ifs, 0⟩] scope gpos) 0 (.ref it) .none (gE X scope s3.heap.objs.size code builtinsNs))), toks := tk', heap := h'.push go } := by
      intro go tk' hG hgd hgo
      have hb5 : AllBare (s3.gens.push (.fresh (.compStart (.GeneratorExp elt [⟨tg, iter, ifs, 0⟩] scope gpos) 0 (.ref it) .none (gE X scope s3.heap.objs.size code builtinsNs)))) := AllBare.push I3.bare rfl
      have fr : (X.A.in1.in1.over (.compLoop (.GeneratorExp elt [⟨tg, iter, ifs, 0⟩] scope gpos) 0 (.ref it) .none (gE X scope s3.heap.objs.size code builtinsNs)) []).frames = some (gE X scope s3.heap.objs.size code builtinsNs :: X.stack) := over_frames (A := X.A.in1.in1) I.ok.frames
      have rm : Room k (X.A.in1.in1.over (.compLoop (.GeneratorExp elt [⟨tg, iter, ifs, 0⟩] scope gpos) 0 (.ref it) .none (gE X scope s3.heap.objs.size code builtinsNs)) []) := by
        refine ⟨hr.hd, ?_, ?_⟩
        · have := hr.dp
          show X.A.depth + 0 + 1 + 3 * k + 5 < _
          omega
        · have := hr.un
          show X.A.units + 1 + 1 + 0 + 3 + 16 * k + 200 < _
          omega
      refine hK _ s3.gens.size ys _ (hG _ hgo) (fun h'' tk'' oS kpS hoS ncS => ?_) fun t H' s'' I'' q => ⟨.int ys.sum, H', I'', ⟨t, rfl⟩, q⟩
      have szS : (h'.push go).objs.size = s3.heap.objs.size + 2 := by rw [Heap.size_push, sz]
      have hge : s3.heap.objs.size ≤ (h'.push go).objs.size := by rw [szS]; omega
      have hgt : h'.objs.size ≠ (h'.push go).objs.size := by rw [szS, sz]; omega
      change h''.get? (h'.push go).objs.size = some oS at hoS
      have kpF : ∀ b o, s3.heap.get? b = some o → h''.get? b = some o := fun b o e => kpS _ _ (Heap.get?_push_of_some _ (kp' b o e))
      have hgo' : h''.get? h'.objs.size = some go := kpS _ _ hgo
      have I5 := ge_start (fp := fp) (code := code) (g' := s3.gens.push (.fresh (.compStart (.GeneratorExp elt [⟨tg, iter, ifs, 0⟩] scope gpos) 0 (.ref it) .none (gE X scope s3.heap.objs.size code builtinsNs)))) (tk := tk'') (ga := h'.objs.size) (go := go) I3 ok hN
        (fun b hb => ⟨f3 b hb, lt3 b hb⟩) (fun _ => rm.hd) fr kpF (hns.keeps fun b o e => kpS _ _ (Heap.get?_push_of_some _ e)) hb5 (by rw [sz]; exact Nat.lt_succ_self _) hgo' hgd
      have fS := I3.fpOk (b := (h'.push go).objs.size) (H' := upd H1 P (.tbl (ps ++ more))) (by rw [szS]; omega) (I3.hok.fresh (by rw [szS]; omega))
      have I6 := I5.pins_of (pins' := [((h'.push go).objs.size, oS)]) fun p hp => by
        have hp : p = ((h'.push go).objs.size, oS) := by simpa using hp
        subst hp
        refine ⟨hoS, fS.1, ?_, fun z => ?_, ncS⟩
        · show (h'.push go).objs.size ≠ s3.heap.objs.size
          rw [szS]
          omega
        · have z : (h'.push go).objs.size ∈ frs X.stack := z
          rcases List.mem_cons.mp (I3.stkSub _ z) with z | z
          · exact absurd I3.lt (by rw [← z]; exact Nat.not_lt.mpr hge)
          · exact I3.nofs (by rw [szS]; omega) z
      have sg := seg_geS (A := X.A.in1.in1) (Q := Q) (gn := s3.gens.size) (W := W) (ys := ys) (S := (h'.push go).objs.size) rfl I3 f3 fS hge (fun hb => absurd (lt3 _ hb) (Nat.not_lt.mpr hge)) hgt (fun b hb z => absurd (lt3 b hb) (by rw [z, sz]; exact Nat.not_lt.mpr (Nat.le_succ _))) hcalm ok.co hG T (hg s3 _ s3.heap.objs.size code fp [(h'.objs.size, go)] _ rm)
        (ht s3 _ s3.heap.objs.size code fp [(h'.objs.size, go)] _ rm) (he s3 _ s3.heap.objs.size code fp [(h'.objs.size, go)] _ rm) turn m ys.length 0 0 (upd H1 P (.tbl (ps ++ more)))
      refine ⟨hG _ hgo', ?_, ⟨oS, hoS, ncS⟩, ⟨_, ge_back I3 f3 I5, fS⟩, _, Array.getElem?_push_size .., rfl, ?_⟩
      · show h'.objs.size ≠ (h'.push go).objs.size
        rw [szS, sz]
        omega
      refine seg_geStart (X := X) (ce := gE X scope s3.heap.objs.size code builtinsNs) rfl T (T.keep _ _ _ st3 fun b hb o e => kpF b o e) (sg _ _ oS rfl w ?_ (T.keep _ _ _ st3 fun b hb o e => kpF b o e) (fun b hb => (f3 b hb).1) hoS)
      exact inv_gens I6 rfl (bare_set (s := { s3 with gens := _, toks := tk'', heap := h'' }) hb5 rfl) fun _ _ e => e
    exact main _ _ (fun h e => ⟨_, _, _, e, rfl, rfl, rfl⟩) (fun v z => by cases z) (Heap.get?_push_size _ rfl)
  cases hf : codeAmong gpos ps.toList with
  | none =>
    refine wpAny_genexprCodeX hcode (cd.code hPs htr) (cd.tab hPs) hf fun c' h' tk hx hge hlt hco' _ htab' _ => ?_
    obtain ⟨_, _, _, _, _, _, _, _, _, _, _, _, _, _, _, _, _, _, _, htr', _⟩ := hco'
    exact cont _ h' tk _ hx htab'.2 htr'
  | some cv =>
    refine wpAny_genexprCode_hit hcode (cd.code hPs htr) hf ?_
    exact cont cv s2.heap s2.toks #[] (fun _ _ _ e => e) (by rw [Array.append_empty]; exact hPs) (by rw [Array.append_empty]; exact htr)
variable {p pos : Pos}
theorem pe_sumG (hr : Room (k + 1) X.A) (hgl : Gl X "sum") (hm : X.mg "sum" = none) (hbt : bootBuiltins "sum" = some (.builtin "sum")) (TB : GxR.TabB X.base X.mg c P) (hcode : X.env.code = .ref c) (ok : GeOk X.N X.env.scope scope own) (hN : X.N.Nodup) (hcalm : X.calm = true) (hi : PI X tg iter wi)
    (hg : ∀ (s : Shared) (H : Hp) (C : Addr) (code : Value) (fp : List Addr) (pn : List (Addr × Obj)) (AG : Around), Room k AG → PG (gX X s H (gE X scope C code builtinsNs) fp pn AG) tg gT)
    (ht : ∀ (s : Shared) (H : Hp) (C : Addr) (code : Value) (fp : List Addr) (pn : List (Addr × Obj)) (AG : Around), Room k AG → PTs (gX X s H (gE X scope C code builtinsNs) fp pn AG) ifs tt)
    (he : ∀ (s : Shared) (H : Hp) (C : Addr) (code : Value) (fp : List Addr) (pn : List (Addr × Obj)) (AG : Around), Room k AG → PE (gX X s H (gE X scope C code builtinsNs) fp pn AG) elt te)
    (hs : ∀ v, genFold iter X.env v = pure v := by intro _; rfl)
    (hst : starEach [.GeneratorExp elt [⟨tg, iter, ifs, 0⟩] scope gpos] X.env = (false, eval (.GeneratorExp elt [⟨tg, iter, ifs, 0⟩] scope gpos) X.env) :: starEach [] X.env := by rfl) :
    PE X (.Call (.Name "sum" p) [.GeneratorExp elt [⟨tg, iter, ifs, 0⟩] scope gpos] [] pos) (tGeS P wi gT tt te (own.map (·.2))) := by
  refine ⟨fun pins s σ H Q I h => ?_⟩
  refine wpAny_Call_Name_kw (ld_blt I hgl hm hbt ?_)
  refine PyProof.Rows.callWith_builtin1 ?_ hst (by rfl)
  rw [hst]
  show wpAny _ _ (spliced ((false, eval (.GeneratorExp elt [⟨tg, iter, ifs, 0⟩] scope gpos) X.env) :: backTo pos (starEach [] X.env))) _ _ s
  refine Calls.spliced_cons (ge_madeS (Q := Q) hr TB hcode ok hN hcalm hi hg ht he hs I h fun ga gn ys s5 hgen hz hEP => ?_)
  refine Calls.spliced_nil ?_
  refine call_function_tree F.kind_sum F.plain_sum F.entry_sum (F.args_sum1 _) ?_
  unfold Builtin.«sum»
  simp only [List.length_cons, List.length_nil]
  rw [if_neg (by decide)]
  refine wpAny_bind (wpAny_of_eq (show Builtin.Builtins.bindParams "sum" ["start"] 0 { } = pure [none] from rfl) ?_)
  refine wpAny_bind (wpAny_pyIter_gen hgen ?_)
  refine wpAny_bind (wpAny_mkInt ?_)
  refine wpAny_bind (wpAny_pure ?_)
  simp only [List.forIn_cons, List.forIn_nil]
  refine wpAny_bind (wpAny_bind (wpAny_bind (wpAny_isInstance (T := "int") (b := false) (typeIs_int _ _ _) PySem.sub_int_str ?_)))
  simp only [Bool.false_eq_true, if_false]
  refine wpAny_pure (wpAny_bind (wpAny_bind (wpAny_isInstance (T := "int") (b := false) (typeIs_int _ _ _) PySem.sub_int_bytes ?_)))
  simp only [Bool.false_eq_true, if_false]
  refine wpAny_pure (wpAny_bind (wpAny_bind (wpAny_isInstance (T := "int") (b := false) (typeIs_int _ _ _) PySem.sub_int_bytearray ?_)))
  simp only [Bool.false_eq_true, if_false]
  refine wpAny_pure (wpAny_pure ?_)
  refine wpAny_bind (wpAny_newObj_type ?_)
  have hS : (s5.heap.push { cls := .type "list", dict := none, data := .seq #[.int 0 s5.toks] 0, slots := #[] }).get? s5.heap.objs.size = some { cls := .type "list", dict := none, data := .seq #[.int 0 s5.toks] 0, slots := #[] } := Heap.get?_push_size _ rfl
  refine wpAny_pure ⟨plainId_quiet F.plain_sum_loop _, sum_turns hr.hd (by have := hr.dp; omega) (fun t H' s' I' q => hEP t H' s' I' q) ys.length _ s5.toks 0 0 (Or.inl rfl) (Nat.le_refl _) (hz _ _ _ (fun b o e => Heap.get?_push_of_some _ e) hS (fun v z => by cases z)) ?_⟩
  rw [Nat.sub_self]
  exact hS
end
end DV

namespace DV
open PySem L2

/-! ### sum of a generator expression, on data -/
@[simp] def sgTurn (g : GvR) (t : TvR) (re : EvR) (d : D) (E : Env) : Rs (Env × Option Int) := match g d E with
  | none => .stuck
  | some E1 => (noX (t E1)).bind fun b => if b.1 = true then (noX (re b.2.1)).bind fun o => (match o.1.res o.2.1 with
    | some (.int c) => .ok (o.2.1, some c)
    | _ => .stuck) else .ok (b.2.1, none)
def sgLoop (vs : List Nat) (g : GvR) (t : TvR) (re : EvR) : List D → Env → Rs (Env × List Int)
  | [], E => .ok (E, [])
  | d :: ds, E => (sgTurn g t re d E).bind fun r => (sgLoop vs g t re ds (clr vs r.1)).bind fun q => .ok (q.1, r.2.toList ++ q.2)
@[simp] def rSumG (vs : List Nat) (ri : IvR) (g : GvR) (t : TvR) (re : EvR) : EvR := fun E =>
  (ri E).bind fun a => (sgLoop vs g t re a.1 (clr vs a.2)).bind fun r => if r.1.length = a.2.length then .ok (.val (.int r.2.sum), back vs a.2 r.1, true) else .stuck
section
variable [Tb] {X : Cx} {W : WX} {K : PySem.W.Frag}
theorem sgTurn_nox {g : GvR} {t : TvR} {re : EvR} {d : D} {E E1 : Env} {x : Xc} : sgTurn g t re d E ≠ .exc x E1 := fun z => by
  unfold sgTurn at z
  cases hg : g d E with
  | none => rw [hg] at z; cases z
  | some E2 =>
    rw [hg] at z
    have z : (noX (t E2)).bind (fun b => if b.1 = true then (noX (re b.2.1)).bind fun o => (match o.1.res o.2.1 with
      | some (.int c) => .ok (o.2.1, some c)
      | _ => .stuck) else .ok (b.2.1, none)) = .exc x E1 := z
    cases ht : t E2 with
    | stuck => rw [ht] at z; cases z
    | exc _ _ => rw [ht] at z; cases z
    | ok b =>
      rw [ht] at z
      have z : (if b.1 = true then (noX (re b.2.1)).bind (fun o => (match o.1.res o.2.1 with
        | some (.int c) => .ok (o.2.1, some c)
        | _ => .stuck)) else .ok (b.2.1, none)) = .exc x E1 := z
      split at z
      · cases hr : re b.2.1 with
        | stuck => rw [hr] at z; cases z
        | exc _ _ => rw [hr] at z; cases z
        | ok o =>
          rw [hr] at z
          have z : (match o.1.res o.2.1 with
            | some (.int c) => .ok (o.2.1, some c)
            | _ => .stuck) = (.exc x E1 : Rs (Env × Option Int)) := z
          split at z <;> cases z
      · cases z
theorem sgLoop_nox {vs : List Nat} {g : GvR} {t : TvR} {re : EvR} {x : Xc} {E1 : Env} : ∀ (ds : List D) (E : Env), sgLoop vs g t re ds E ≠ .exc x E1
  | [], E => fun z => nomatch z
  | d :: ds, E => fun z => by
    have z : (sgTurn g t re d E).bind (fun r => (sgLoop vs g t re ds (clr vs r.1)).bind fun q => .ok (q.1, r.2.toList ++ q.2)) = .exc x E1 := z
    cases h : sgTurn g t re d E with
    | stuck => rw [h] at z; cases z
    | exc y E' => exact absurd h sgTurn_nox
    | ok r =>
      rw [h] at z
      have z : (sgLoop vs g t re ds (clr vs r.1)).bind (fun q => .ok (q.1, r.2.toList ++ q.2)) = .exc x E1 := z
      cases h2 : sgLoop vs g t re ds (clr vs r.1) with
      | stuck => rw [h2] at z; cases z
      | exc y E' => exact absurd h2 (sgLoop_nox ds _)
      | ok q => rw [h2] at z; cases z
theorem tSg_of {vs : List Nat} {ri : IvR} {g : GvR} {t : TvR} {re : EvR} {P : Addr} (hT : Tb.T P) (σ : L2.St) (H : Hp) (Q : VK) (h : tE K W (rSumG vs ri g t re) σ H Q) :
    tGeS P (tI K W ri) (tG K (fun i => i ∉ vs) g) (tT K W0 t) (tE K W0 re) vs σ H Q := by
  obtain ⟨f, G, E, fp, ek, S, P0⟩ := h
  refine ⟨f, G, E, fp, ek, S, ?_⟩
  unfold rSumG at P0
  cases ea : ri E with
  | stuck => rw [ea] at P0; exact P0
  | exc x E' => rw [ea] at P0; exact P0
  | ok a =>
    obtain ⟨ds, E1⟩ := a
    rw [ea] at P0
    intro J G1 H0 fp1 S0 IT
    refine ⟨(S0.tab P (.inl hT)).1, fun H1 tb => ?_⟩
    have S1 := S0.tabbed hT tb
    have P0 : PostE f W σ Q G H E fp ((sgLoop vs g t re ds (clr vs E1)).bind fun r => if r.1.length = E1.length then .ok (.val (.int r.2.sum), back vs E1 r.1, true) else .stuck) := P0
    cases el : sgLoop vs g t re ds (clr vs E1) with
    | stuck => rw [el] at P0; exact P0.elim
    | exc x E' => exact absurd el (sgLoop_nox ds _)
    | ok r =>
      obtain ⟨Ef, ys⟩ := r
      rw [el] at P0
      have P0 : PostE f W σ Q G H E fp (if Ef.length = E1.length then .ok (.val (.int ys.sum), back vs E1 Ef, true) else .stuck) := P0
      split at P0
      · rename_i hlen
        subst ek
        have SB := blk_in (vs := vs) S1
        have done : ∀ {G2 H2 : Hp} {fp2 : Nat → List Addr}, SR (blkFr f G1 H1 fp1 vs σ) G2 H2 (wipe σ vs) Ef fp2 → (∀ i ∈ vs, ∀ d, Ef[i]? ≠ some (some d)) → Q (.int ys.sum) H2 := fun {G2 H2 fp2} S2 hown => by
          obtain ⟨Sf, kf⟩ := blk_out S1 S2 hown hlen
          exact P0 (.int ys.sum) G2 H2 _ [] Sf (show Rp f.K G2 H2 (.int ys.sum) (.int ys.sum) [] from .int _) .nil fun hc => nomatch hc
        refine ⟨ys, fun i j m H => m = ds.length - i ∧ i ≤ ds.length ∧ j ≤ ys.length ∧ ∃ G E fp, SR (blkFr f G1 H1 fp1 vs σ) G H (wipe σ vs) E fp ∧ sgLoop vs g t re (ds.drop i) E = .ok (Ef, ys.drop j) ∧ (∀ i ∈ vs, ∀ d, E[i]? ≠ some (some d)),
          ⟨ds.length, by simp, Nat.zero_le _, Nat.zero_le _, G1, clr vs E1, _, SB, el, fun i hi d => clr_in hi⟩, ?_⟩
        rintro i j m H2 ⟨rfl, hi, hj, G2, E2, fp2, S2, eloop, hown⟩
        by_cases hlt : i < ds.length
        · refine .inr ⟨IT.goes i G2 H2 hlt S2.g0 S2.ex, fun j' H => j' ≤ ys.length ∧ ∃ G E fp, SR (blkFr f G1 H1 fp1 vs σ) G H (wipe σ vs) E fp ∧ sgLoop vs g t re (ds.drop (i + 1)) E = .ok (Ef, ys.drop j') ∧ (∀ i ∈ vs, ∀ d, E[i]? ≠ some (some d)),
            fun j' H' h => ⟨ds.length - (i + 1), by omega, rfl, hlt, h⟩, fun x H' y => ?_⟩
          have hd : ds[i]? = some ds[i] := List.getElem?_eq_getElem hlt
          obtain ⟨G3, st, r3⟩ := IT.yields i G2 H2 x H' ds[i] hd S2.g0 S2.ex S2.stb y
          have S3 := S2.step st
          rw [List.drop_eq_getElem_cons hlt] at eloop
          have eloop : (sgTurn g t re ds[i] E2).bind (fun r => (sgLoop vs g t re (ds.drop (i + 1)) (clr vs r.1)).bind fun q => .ok (q.1, r.2.toList ++ q.2)) = .ok (Ef, ys.drop j) := eloop
          cases et : sgTurn g t re ds[i] E2 with
          | stuck => rw [et] at eloop; cases eloop
          | exc _ _ => rw [et] at eloop; cases eloop
          | ok rt =>
            obtain ⟨E6, ob⟩ := rt
            rw [et] at eloop
            have eloop : (sgLoop vs g t re (ds.drop (i + 1)) (clr vs E6)).bind (fun q => .ok (q.1, ob.toList ++ q.2)) = .ok (Ef, ys.drop j) := eloop
            cases eq : sgLoop vs g t re (ds.drop (i + 1)) (clr vs E6) with
            | stuck => rw [eq] at eloop; cases eloop
            | exc _ _ => rw [eq] at eloop; cases eloop
            | ok qq =>
              obtain ⟨E7, zs⟩ := qq
              rw [eq] at eloop
              have eloop : (.ok (E7, ob.toList ++ zs) : Rs (Env × List Int)) = .ok (Ef, ys.drop j) := eloop
              have e7 : E7 = Ef := by injection eloop with z; exact congrArg Prod.fst z
              have ezs : ob.toList ++ zs = ys.drop j := by injection eloop with z; exact congrArg Prod.snd z
              rw [e7] at eq
              unfold sgTurn at et
              refine ⟨blkFr f G1 H1 fp1 vs σ, G3, E2, fp2, ds[i], [], rfl, rfl, S3, r3, .nil, ?_⟩
              cases eg : g ds[i] E2 with
              | none => rw [eg] at et; cases et
              | some E3 =>
                rw [eg] at et
                have et : (noX (t E3)).bind (fun b => if b.1 = true then (noX (re b.2.1)).bind fun o => (match o.1.res o.2.1 with
                  | some (.int c) => .ok (o.2.1, some c)
                  | _ => .stuck) else .ok (b.2.1, none)) = .ok (E6, ob) := et
                intro σ5 G5 H5 fp5 S5
                refine ⟨wipe_eq S5.slen fun i hi => S5.pin i hi, ?_⟩
                refine ⟨blkFr f G1 H1 fp1 vs σ, G5, E3, fp5, rfl, S5, ?_⟩
                cases ett : t E3 with
                | stuck => rw [ett] at et; cases et
                | exc _ _ => rw [ett] at et; cases et
                | ok b =>
                  obtain ⟨b, E4, c4⟩ := b
                  rw [ett] at et
                  have et : (if b = true then (noX (re E4)).bind fun o => (match o.1.res o.2.1 with
                    | some (.int c) => .ok (o.2.1, some c)
                    | _ => .stuck) else .ok (E4, none)) = .ok (E6, ob) := et
                  intro G6 H6 fp6 S6 k6
                  cases b with
                  | false =>
                    cases et
                    exact ⟨hj, G6, clr vs _, _, blk_turn S6, by rw [eq, ← ezs]; rfl, fun i hi d => clr_in hi⟩
                  | true =>
                    have et : (noX (re E4)).bind (fun o => (match o.1.res o.2.1 with
                      | some (.int c) => .ok (o.2.1, some c)
                      | _ => .stuck)) = .ok (E6, ob) := et
                    refine ⟨blkFr f G1 H1 fp1 vs σ, G6, E4, fp6, rfl, S6, ?_⟩
                    cases er : re E4 with
                    | stuck => rw [er] at et; cases et
                    | exc _ _ => rw [er] at et; cases et
                    | ok o =>
                      obtain ⟨o, E5, c5⟩ := o
                      rw [er] at et
                      have et : (match o.res E5 with
                        | some (.int c) => .ok (E5, some c)
                        | _ => .stuck) = (.ok (E6, ob) : Rs (Env × Option Int)) := et
                      intro v8 G8 H8 fp8 q8 S8 O8 w8 k8
                      cases ev : o.res E5 with
                      | none => rw [ev] at et; cases et
                      | some d =>
                        rw [ev] at et
                        cases d with
                        | int c =>
                          cases et
                          obtain ⟨q', r', _⟩ := O8.rep S8 ev
                          have ezs : c :: zs = ys.drop j := ezs
                          have hjl : j < ys.length := by
                            rcases Nat.lt_or_ge j ys.length with z | z
                            · exact z
                            · rw [List.drop_eq_nil_of_le z] at ezs
                              cases ezs
                          rw [List.drop_eq_getElem_cons hjl] at ezs
                          injection ezs with ez1 ez2
                          refine ⟨c, r'.int_inv, ?_, hjl, G8, clr vs _, _, blk_turn S8, by rw [eq, ez2], fun i hi d => clr_in hi⟩
                          rw [List.getElem?_eq_getElem hjl, ez1]
                        | _ => cases et
        · have e : i = ds.length := by omega
          subst e
          rw [List.drop_length] at eloop
          have eloop : (.ok (E2, []) : Rs (Env × List Int)) = .ok (Ef, ys.drop j) := eloop
          injection eloop with z
          injection z with z1 z2
          have hj2 : j = ys.length := by
            rcases Nat.lt_or_ge j ys.length with y | y
            · rw [List.drop_eq_getElem_cons y] at z2
              cases z2
            · omega
          subst z1
          exact .inl ⟨IT.stops G2 H2 S2.g0 S2.ex, hj2, done S2 hown⟩
      · exact P0.elim
/-- sum(elt for target in iter if ..) -/
theorem de_sumG {c P : Addr} {elt tg iter : Expr} {ifs : List Expr} {scope : Scope} {own : List (Str × Nat)} {gpos p pos : Pos} {ri : IvR} {g : GvR} {t : TvR} {re : EvR} {k : Nat} (TB : GxR.TabB X.base X.mg c P) (hcode : X.env.code = .ref c) (hT : Tb.T P) (hr : Room (k + 1) X.A) (hgl : Gl X "sum") (hm : X.mg "sum" = none) (hbt : bootBuiltins "sum" = some (.builtin "sum"))
    (hc : X.calm = true) (hN : X.N.Nodup) (hi : DI X W tg iter ri) (ok : GeOk X.N X.env.scope scope own)
    (hg : ∀ (s : Shared) (H : Hp) (C : Addr) (code : Value) (fp : List Addr) (pn : List (Addr × Obj)) (AG : Around), Room k AG → DG (gX X s H (gE X scope C code builtinsNs) fp pn AG) (fun i => i ∉ own.map (·.2)) tg g)
    (ht : ∀ (s : Shared) (H : Hp) (C : Addr) (code : Value) (fp : List Addr) (pn : List (Addr × Obj)) (AG : Around), Room k AG → DTs (gX X s H (gE X scope C code builtinsNs) fp pn AG) W0 ifs t)
    (he : ∀ (s : Shared) (H : Hp) (C : Addr) (code : Value) (fp : List Addr) (pn : List (Addr × Obj)) (AG : Around), Room k AG → DE (gX X s H (gE X scope C code builtinsNs) fp pn AG) W0 elt re) (hs : ∀ v, genFold iter X.env v = pure v := by intro _; rfl)
    (hst : starEach [.GeneratorExp elt [⟨tg, iter, ifs, 0⟩] scope gpos] X.env = (false, eval (.GeneratorExp elt [⟨tg, iter, ifs, 0⟩] scope gpos) X.env) :: starEach [] X.env := by rfl) :
    DE X W (.Call (.Name "sum" p) [.GeneratorExp elt [⟨tg, iter, ifs, 0⟩] scope gpos] [] pos) (rSumG (own.map (·.2)) ri g t re) := (pe_sumG hr hgl hm hbt TB hcode ok hN hc hi hg ht he hs hst).weak (tSg_of hT)
end
end DV

namespace DV
open PySem L2

/-! ### a ** b, of small ones -/
open Classical in
noncomputable def powOk (i j : Int) : Bool := @decide (CPow i j) (Classical.propDecidable _)
noncomputable abbrev opPow : D → D → Option D := opIC (fun i j => powOk i j) fun i j => .int (i ^ j.toNat)
theorem rp_pow {K : PySem.W.Frag} : RP2 K (rI CPow fun i j => .int (i ^ j.toNat)) opPow := rp_IC (fun _ _ h => @of_decide_eq_true _ (Classical.propDecidable _) h) fun _ _ _ _ => .int _
theorem powOk_of {i j : Int} (h1 : 0 ≤ j) (h2 : j ≤ 1000000) (h3 : i.natAbs < 2 ^ 64) : powOk i j = true := @decide_eq_true _ (Classical.propDecidable _) ⟨h1, h2, h3⟩

/-! ### isinstance(x, (t1, t2)) -/
@[simp] def opIsi2 (t1 t2 : Tn) (d : D) : Option D := match d.isTn t1, d.isTn t2 with
  | some b, some c => some (.bl (b || c))
  | _, _ => none
def tyT (t1 t2 : Tn) : HO := .tup [.ty t1.str', .ty t2.str']
theorem rp_isi2 {K : PySem.W.Frag} {t1 t2 : Tn} : RP1 K (fun x H Q => [V.ty t1.str', V.ty t2.str'].length ≤ sizeLine ∧ ∀ p, H p = none → rIsiT K [x, .ref p] (upd H p (tyT t1 t2)) Q) (opIsi2 t1 t2) := by
  intro G H x a d qa Q ex stb ha eo q
  refine ⟨by rw [sizeLine_eq]; simp, fun p hp => ?_⟩
  unfold opIsi2 at eo
  split at eo
  · rename_i b c hb hc
    cases eo
    have st := step_tup (o := tyT t1 t2) ex stb hp
    refine ⟨x, p, [.ty t1.str', .ty t2.str'], .type (tyName a), [.type t1.str', .type t2.str'], b || c, rfl, upd_same, .cons (.ty _) (.cons (.ty _) .nil), ?_, ?_, q _ _ _ [] st (.bl _) List.nodup_nil fun _ h => nomatch h⟩
    · have e2 : Same (upd G p (tyT t1 t2)) (upd H p (tyT t1 t2)) := fun r o hr => by
        by_cases h : r = p
        · rw [h, upd_same] at hr ⊢
          exact hr
        · rw [upd_ne h] at hr ⊢
          exact ex r o hr
      refine tyx_of e2 (Rp.mono st.eg a x qa ha fun r hr => ?_) hb
      obtain ⟨g, o, ho, hw⟩ := Rp.at a x qa ha r hr
      exact ⟨(st.old r o ho hw.notT).trans g, (st.eh r o ho hw.notT).trans ho.symm⟩
    · refine kitAny_cons (kit_ty (kit_tab t1 a b hb)) (fun z => ?_) fun z => by rw [z]; rfl
      refine kitAny_cons (kit_ty (kit_tab t2 a c hc)) (fun y => ?_) fun y => by rw [y, Bool.or_true]
      rw [z, y]
      exact kitAny_nil
  · cases eo
theorem de_isi2 [Tb] {X : Cx} {W : WX} {t1 t2 : Tn} {e : Expr} {ra : EvR} {x y : Str} {p p1 p2 p3 pos : Pos} {cx : Nat} (hg : Gl X "isinstance") (hm : X.mg "isinstance" = none) (hg1 : Gl X x) (hm1 : X.mg x = none) (hv1 : bootBuiltins x = some (.type t1.str')) (hg2 : Gl X y) (hm2 : X.mg y = none) (hv2 : bootBuiltins y = some (.type t2.str')) (ha : DE X W e ra)
    (hn : x ≠ "__name__" := by decide) (hdb : (x == ("__debug__" : Str)) = false := by decide) (hn2 : y ≠ "__name__" := by decide) (hdb2 : (y == ("__debug__" : Str)) = false := by decide)
    (he : starEach [e, .Tuple [.Name x p1, .Name y p2] cx p3] X.env = (false, eval e X.env) :: starEach [.Tuple [.Name x p1, .Name y p2] cx p3] X.env := by rfl) (hpl : (backTo pos (starEach [Expr.Tuple [.Name x p1, .Name y p2] cx p3] X.env)).any (·.1) = false := by rfl) :
    DE X W (.Call (.Name "isinstance" p) [e, .Tuple [.Name x p1, .Name y p2] cx p3] [] pos) (r1 (opIsi2 t1 t2) ra) := by
  have hT : PA X [Expr.Name x p1, Expr.Name y p2] _ := pa_cons (pe_bltn hg1 hm1 hv1 (v := .ty t1.str') rfl hn hdb) (pa_cons (pe_bltn hg2 hm2 hv2 (v := .ty t2.str') rfl hn2 hdb2) pa_nil rfl) rfl
  have hA : PA X [e, .Tuple [.Name x p1, .Name y p2] cx p3] _ := pa_cons ha (pa_cons (pe_tup hT) pa_nil rfl) he
  exact (pe_callB call_isiT hg hm rfl hA (by decide) (by decide) he hpl).weak fun σ H Q h => tE1 (rp_isi2 (t1 := t1) (t2 := t2)) σ H Q h

/-! ### sorted, of pairs of ints -/
inductive All2 {α β : Type} (P : α → β → Prop) : List α → List β → Prop where
  | nil : All2 P [] []
  | cons {a : α} {b : β} {as : List α} {bs : List β} (h : P a b) (t : All2 P as bs) : All2 P (a :: as) (b :: bs)
theorem All2.imp {α β : Type} {P R : α → β → Prop} (k : ∀ a b, P a b → R a b) : ∀ {as : List α} {bs : List β}, All2 P as bs → All2 R as bs
  | _, _, .nil => .nil
  | _, _, .cons h t => .cons (k _ _ h) (t.imp k)
def insP (p : Int × Int) : List (Int × Int) → List (Int × Int)
  | [] => [p]
  | q :: qs => if SrtO.lexB q p = true then q :: insP p qs else p :: q :: qs
def sortP : List (Int × Int) → List (Int × Int)
  | [] => []
  | p :: ps => insP p (sortP ps)
theorem insP_perm (p : Int × Int) : ∀ qs : List (Int × Int), (insP p qs).Perm (p :: qs)
  | [] => .refl _
  | q :: qs => by
    unfold insP
    split
    · exact ((insP_perm p qs).cons q).trans (.swap p q qs)
    · exact .refl _
theorem sortP_perm : ∀ ps : List (Int × Int), (sortP ps).Perm ps
  | [] => .refl _
  | p :: ps => (insP_perm p _).trans ((sortP_perm ps).cons p)
def SrtP (ps : List (Int × Int)) : Prop := ps.Pairwise fun a b => SrtO.lexB b a = false
theorem lexB_tot {a b : Int × Int} (h : SrtO.lexB a b = true) : SrtO.lexB b a = false := by
  rw [SrtO.lexB_iff] at h
  rw [SrtO.lexB_no]
  omega
theorem lexB_tr {a b c : Int × Int} (h1 : SrtO.lexB b a = false) (h2 : SrtO.lexB c b = false) : SrtO.lexB c a = false := by
  rw [SrtO.lexB_no] at h1 h2 ⊢
  omega
theorem lexB_anti {a b : Int × Int} (h1 : SrtO.lexB b a = false) (h2 : SrtO.lexB a b = false) : a = b := by
  rw [SrtO.lexB_no] at h1 h2
  obtain ⟨a1, a2⟩ := a
  obtain ⟨b1, b2⟩ := b
  simp only at h1 h2
  have e1 : a1 = b1 := by omega
  have e2 : a2 = b2 := by omega
  rw [e1, e2]
theorem insP_sorted (p : Int × Int) : ∀ qs : List (Int × Int), SrtP qs → SrtP (insP p qs)
  | [], _ => List.pairwise_singleton _ _
  | q :: qs, h => by
    obtain ⟨h1, h2⟩ := List.pairwise_cons.mp h
    unfold insP
    split
    · rename_i hl
      refine List.pairwise_cons.mpr ⟨fun a ha => ?_, insP_sorted p qs h2⟩
      rcases List.mem_cons.mp ((insP_perm p qs).mem_iff.mp ha) with e | ha
      · rw [e]
        exact lexB_tot hl
      · exact h1 a ha
    · rename_i hl
      have hl : SrtO.lexB q p = false := by simpa using hl
      refine List.pairwise_cons.mpr ⟨fun a ha => ?_, h⟩
      rcases List.mem_cons.mp ha with e | ha
      · rw [e]
        exact hl
      · exact lexB_tr hl (h1 a ha)
theorem sortP_sorted : ∀ ps : List (Int × Int), SrtP (sortP ps)
  | [] => .nil
  | p :: ps => insP_sorted p _ (sortP_sorted ps)
theorem srtP_uniq : ∀ {xs ys : List (Int × Int)}, xs.Perm ys → SrtP xs → SrtP ys → xs = ys
  | [], ys, p, _, _ => (List.nil_perm.mp p).symm
  | x :: xs, [], p, _, _ => by simpa using p.length_eq
  | x :: xs, y :: ys, p, hx, hy => by
    obtain ⟨a1, a2⟩ := List.pairwise_cons.mp hx
    obtain ⟨b1, b2⟩ := List.pairwise_cons.mp hy
    have rx : ∀ z : Int × Int, SrtO.lexB z z = false := fun z => by rw [SrtO.lexB_no]; omega
    have h1 : SrtO.lexB y x = false := by
      rcases List.mem_cons.mp (p.mem_iff.mpr List.mem_cons_self) with h | h
      · rw [h]; exact rx _
      · exact a1 y h
    have h2 : SrtO.lexB x y = false := by
      rcases List.mem_cons.mp (p.mem_iff.mp List.mem_cons_self) with h | h
      · rw [h]; exact rx _
      · exact b1 x h
    have : x = y := lexB_anti h1 h2
    subst this
    rw [srtP_uniq (List.Perm.cons_inv p) a2 b2]
theorem isPair_inj {h : Heap} {v : Value} {x y x' y' : Int} (a : Srt.IsPair h v x y) (b : Srt.IsPair h v x' y') : x = x' ∧ y = y' := by
  obtain ⟨p, o, t, u, n, e, ho, _, hd⟩ := a
  obtain ⟨p', o', t', u', n', e', ho', _, hd'⟩ := b
  rw [e] at e'
  cases e'
  rw [ho] at ho'
  cases ho'
  rw [hd] at hd'
  injection hd' with q
  have q := congrArg Array.toList q
  simp only [List.cons.injEq, Value.int.injEq] at q
  exact ⟨q.1.1, q.2.1.1⟩
open Classical in
noncomputable def keyH (h : Heap) (u : Value) : Int × Int := if z : ∃ p : Int × Int, Srt.IsPair h u p.1 p.2 then Classical.choose z else (0, 0)
theorem keyH_at {h : Heap} {u : Value} {p : Int × Int} (z : Srt.IsPair h u p.1 p.2) : keyH h u = p := by
  have hz : ∃ p : Int × Int, Srt.IsPair h u p.1 p.2 := ⟨p, z⟩
  unfold keyH
  rw [dif_pos hz]
  obtain ⟨e1, e2⟩ := isPair_inj (Classical.choose_spec hz) z
  exact Prod.ext e1 e2
/-- sorted(xs), xs a list of pairs of ints, however they stand -/
def rSortedPT (K : PySem.W.Frag) : List V → Hp → VK → Prop := fun vs H Q => ∃ (a : Addr) (xs : List V) (ps : List (Int × Int)) (P : V → Int × Int → Prop), vs = [V.ref a] ∧ SqL K H a xs ∧ All2 (fun x p => P x p ∧ ∃ t, x = V.ref t ∧ SqT K H t [.int p.1, .int p.2]) xs ps ∧
  ∀ ys p, All2 P ys (sortP ps) → H p = none → Q (.ref p) (upd H p (.lst ys))
theorem pair_of {X : Cx} {pins : List (Addr × Obj)} {s : Shared} {σ : L2.St} {H : Hp} {t : Addr} {i j : Int} (I : L2.Inv X pins σ H s) (h : SqT X.K H t [.int i, .int j]) : Srt.IsPair s.heap (.ref t) i j := by
  obtain ⟨its, r, ⟨o, ho, hc, n, hd⟩, _⟩ := I.tuple h
  obtain ⟨u1, u2, e, ri, rj⟩ := vals2 r
  subst e
  obtain ⟨t1, rfl⟩ := ri
  obtain ⟨t2, rfl⟩ := rj
  exact ⟨t, o, t1, t2, n, rfl, ho, hc, hd⟩
theorem all2_keys {X : Cx} {pins : List (Addr × Obj)} {s : Shared} {σ : L2.St} {H : Hp} {P : V → Int × Int → Prop} (I : L2.Inv X pins σ H s) : ∀ {xs : List V} {ps : List (Int × Int)} {its : List Value}, All2 (fun x p => P x p ∧ ∃ t, x = V.ref t ∧ SqT X.K H t [.int p.1, .int p.2]) xs ps → Vals xs its →
    ps = its.map (keyH s.heap) ∧ ∀ u ∈ its, P (backV u) (keyH s.heap u) ∧ Srt.IsPair s.heap u (keyH s.heap u).1 (keyH s.heap u).2
  | _, _, _, .nil, .nil => ⟨rfl, fun u hu => absurd hu (by simp)⟩
  | _, _, _, .cons (b := p) h t, .cons r rs => by
    obtain ⟨e, k⟩ := all2_keys I t rs
    obtain ⟨hp, tt, rfl, hs⟩ := h
    cases r
    have hp2 := pair_of I hs
    have hk := keyH_at (p := p) hp2
    refine ⟨by rw [List.map_cons, hk, ← e], fun u hu => ?_⟩
    rcases List.mem_cons.mp hu with z | hu
    · rw [z, hk]
      exact ⟨hp, hp2⟩
    · exact k u hu
theorem cr_sortedPT {X : Cx} : CallR X (.builtin "sorted") (rSortedPT X.K) := by
  intro pins s σ H vs us Q I r h
  obtain ⟨a, xs, ps, P, rfl, hs, hx, q⟩ := h
  obtain ⟨its, rv, hl, hz⟩ := I.list hs
  obtain ⟨u, rfl, ru⟩ := vals1 r
  obtain rfl : u = Value.ref a := ru
  obtain ⟨ep, hk⟩ := all2_keys I hx rv
  refine SrtO.sorted_pairsO (k := keyH s.heap) hl.isList (by rw [← rv.length]; exact hz) (fun v hv => (hk v hv).2) fun h' d out h1 h2 kp hd hn => ?_
  have hm : ∀ u ∈ out, u ∈ its := fun u hu => h2.perm.mem_iff.mp hu
  have h3 : ∀ u ∈ out, ∃ a, u = Value.ref a := fun u hu => by
    obtain ⟨t, _, _, _, _, e, _⟩ := (hk u (hm u hu)).2
    exact ⟨t, e⟩
  obtain ⟨n, hn⟩ := hn
  have hsort : out.map (keyH s.heap) = sortP ps := by
    refine srtP_uniq ?_ (List.pairwise_map.mpr h1) (sortP_sorted ps)
    rw [ep]
    exact (h2.perm.map _).trans (sortP_perm _).symm
  have all : ∀ l : List Value, (∀ u ∈ l, u ∈ its) → All2 P (l.map backV) (l.map (keyH s.heap)) := by
    intro l
    induction l with
    | nil => exact fun _ => .nil
    | cons u l ih => exact fun h => .cons (hk u (h u List.mem_cons_self)).1 (ih fun w hw => h w (List.mem_cons_of_mem _ hw))
  refine ⟨.ref d, upd H d (.lst (out.map backV)), I.laid (t' := s.toks) kp hd ⟨?_, out, n, vals_back h3, hn⟩, rfl, q _ d (hsort ▸ all out hm) (I.hok.fresh hd)⟩
  rw [List.length_map, h2.perm.length_eq, ← rv.length]
  exact hz
def pairsD : List D → Option (List (Int × Int))
  | [] => some []
  | .tup [.int i, .int j] :: ds => (pairsD ds).map fun ps => (i, j) :: ps
  | _ :: _ => none
abbrev pairD (p : Int × Int) : D := .tup [.int p.1, .int p.2]
theorem pairsD_map : ∀ ps : List (Int × Int), pairsD (ps.map pairD) = some ps
  | [] => rfl
  | p :: ps => by
    show (pairsD (ps.map pairD)).map (fun qs => (p.1, p.2) :: qs) = _
    rw [pairsD_map ps]
    rfl
theorem pairsD_inv : ∀ {ds : List D} {ps : List (Int × Int)}, pairsD ds = some ps → ds = ps.map pairD
  | [], ps, h => by cases h; rfl
  | d :: ds, ps, h => by
    unfold pairsD at h
    split at h
    · rename_i e
      cases e
    · rename_i i j ds' e
      cases e
      cases h2 : pairsD ds with
      | none => rw [h2] at h; cases h
      | some qs =>
        rw [h2] at h
        cases h
        rw [pairsD_inv h2]
        rfl
    · cases h
def bSorted2 (ds : List D) : Option D := match ds with
  | [.lst _ xs] => (match intsD xs with
    | some ns => some (.lst true ((sortI ns).map D.int))
    | none => (match pairsD xs with
      | some ps => some (.lst true ((sortP ps).map pairD))
      | none => none))
  | _ => none
theorem RpL.pairs {K : PySem.W.Frag} {G H : Hp} (ex : Same G H) : ∀ {ps : List (Int × Int)} {xs : List V} {q : List Addr}, RpL K G H (ps.map pairD) xs q → All2 (fun x p => Rp K G H (pairD p) x [] ∧ ∃ t, x = V.ref t ∧ SqT K H t [.int p.1, .int p.2]) xs ps
  | [], xs, q, h => by
    rw [h.len0.1]
    exact .nil
  | p :: ps, xs, q, h => by
    have h : RpL K G H (pairD p :: ps.map pairD) xs q := h
    unfold RpL at h
    obtain ⟨x, r, f, g, rfl, _, h1, h2⟩ := h
    have e0 := Rp.nil_of (pairD p) x f rfl h1
    subst e0
    refine .cons ⟨h1, ?_⟩ (RpL.pairs ex h2)
    obtain ⟨a, vs, e, hs, hl⟩ := h1.tup_inv ex
    have hl : RpL K G H ([p.1, p.2].map D.int) vs _ := hl.2
    have := hl.ints
    subst this
    exact ⟨a, e, hs⟩
theorem RpL.of2 {K : PySem.W.Frag} {G H : Hp} : ∀ {ps : List (Int × Int)} {xs : List V}, All2 (fun x p => Rp K G H (pairD p) x []) xs ps → RpL K G H (ps.map pairD) xs []
  | _, _, .nil => by
    unfold RpL
    exact ⟨rfl, rfl⟩
  | _, _, .cons h t => by
    show RpL K G H (_ :: _) _ _
    unfold RpL
    exact ⟨_, _, [], [], rfl, rfl, h, RpL.of2 t⟩
theorem rp_sorted2 {K : PySem.W.Frag} : RPn K (fun vs H Q => rSortedI K vs H Q ∨ rSortedPT K vs H Q) bSorted2 := by
  intro G H vs ds d Q ex stb ha eo q
  unfold bSorted2 at eo
  split at eo
  · rename_i m xs
    split at eo
    · rename_i ns hns
      refine .inl (rp_sorted G H vs _ d Q ex stb ha ?_ q)
      unfold bSorted
      simp only [hns]
      exact eo
    · split at eo
      · rename_i ps hps
        cases eo
        have e := pairsD_inv hps
        subst e
        obtain ⟨v, p, rfl, r⟩ := RpA.one (ds := []) ha
        obtain ⟨a, ys, f, rfl, h1, h2, _⟩ := r.lst_inv ex
        refine .inr ⟨a, ys, ps, fun x p => Rp K G H (pairD p) x [], rfl, h1, RpL.pairs ex h2, fun zs l hz hp => ?_⟩
        exact q _ G _ [l] (step_lst ex stb (fun z => z) hp) (Rp.newLst ex hp (RpL.of2 hz)) (by simp) fun r hr => by
          have : r = l := by simpa using hr
          rw [this]; exact hp
      · cases eo
  · cases eo
theorem call_sorted2 {X : Cx} : CallR X (.builtin "sorted") (fun vs H Q => rSortedI X.K vs H Q ∨ rSortedPT X.K vs H Q) := cr_sortedI.or cr_sortedPT
end DV

namespace DV
open PySem PySem.Spec PyProof.Rows L2

/-! ### max(xs, default=d), xs a list of ints -/
def mxI (val : Nat → Int) : Nat → Option Int
  | 0 => none
  | j + 1 => some (match mxI val j with
    | none => val j
    | some m => if val j > m then val j else m)
def bestA (o : Option Int) (t : Tok) : Array Value := match o with
  | none => #[]
  | some m => #[.int m t, .int m t]
theorem mxD_args (a d : Value) : argsOk "max" ⟨[a], [(Str.ofString "default", d)]⟩ := by unfold argsOk; kernel_rfl
theorem max_loopD {prog : Program} {w : World} {A : Around} {R : Result → Shared → Prop} {I S : Addr} {fp wr : List Addr} {n : Nat} {P : Nat → Value → Prop} {St : Nat → Heap → Prop} {d : Value} {key : Str} (W : Walks prog w A.in1 I fp wr n P St) (val : Nat → Int)
    (hv : ∀ i v, P i v → ∃ t, v = .int (val i) t) (hSf : S ∉ fp) :
    ∀ (k j : Nat) (s : Shared) (t : Tok) (c : Nat), n - j = k → j ≤ n → St j s.heap → s.heap.get? S = some { cls := .type "list", dict := none, data := .seq (bestA (mxI val j) t) c, slots := #[] } →
      (∀ h' tk u, (∀ b o, b ∉ wr → b ≠ S → s.heap.get? b = some o → h'.get? b = some o) → R (.ok (.ret (match mxI val n with | none => d | some m => .int m u))) { s with heap := h', toks := tk }) →
      codeAny (model prog w) A (.builtin "max.loop" ⟨[.ref I, .none, .ref S], [(key, d)]⟩) R s := by
  have hSw : S ∉ wr := fun h => hSf (W.sub _ h)
  have hname : (toString "max" ++ toString ".loop" : String) = "max.loop" := by decide
  have old : ∀ {h h2 : Heap} {f : Obj → Obj} {b : Addr} {o : Obj}, b ≠ S → h.get? b = some o → (h.update S f).get? b = some o := fun hb e => (Heap.get?_update_other _ _ (Ne.symm hb)).trans e
  have fpS : ∀ {b : Addr}, b ∈ fp → b ≠ S := fun hb z => hSf (z ▸ hb)
  intro k
  induction k with
  | zero =>
    intro j s t c hk hj hst hS hR
    have hin : j = n := by omega
    subst hin
    refine codeAny_builtin F.entry_max_loop ?_
    rw [Around.under_plainId F.plain_max_loop _]
    show wpAny _ A.in1 (seqItems? (.ref S) >>= _) _ _ s
    refine wpAny_bind (wpAny_seqItems hS rfl ?_)
    show wpAny _ A.in1 (tryCatch (pyNext (.ref I)) _ >>= _) _ _ s
    refine wpAny_bind (wpAny_tryCatch (W.done s _ _ hst fun h' tk hk' => ?_))
    have hS' := hk' S _ hSw hS
    cases hm : mxI val j with
    | none =>
      rw [hm] at hR hS'
      refine wpAny_bind (wpAny_rule (wpAny_pure ?_))
      exact hR h' tk t fun b o hb _ e => hk' b o hb e
    | some m =>
      rw [hm] at hR hS'
      change h'.get? S = some { cls := .type "list", dict := none, data := .seq #[.int m t, .int m t] c, slots := #[] } at hS'
      show wpAny _ A.in1 (updateSeq S (fun _ => #[]) >>= _) _ _ _
      refine wpAny_bind ?_
      refine wpAny_updateSeq hS' rfl (wpAny_bind (wpAny_letGo (wpAny_pure ?_)))
      exact hR _ tk t fun b o hb hbS e => (Heap.get?_update_other _ _ (Ne.symm hbS)).trans (hk' b o hb e)
  | succ k ih =>
    intro j s t c hk hj hst hS hR
    have hlt : j < n := by omega
    refine codeAny_builtin F.entry_max_loop ?_
    rw [Around.under_plainId F.plain_max_loop _]
    show wpAny _ A.in1 (seqItems? (.ref S) >>= _) _ _ s
    refine wpAny_bind (wpAny_seqItems hS rfl ?_)
    show wpAny _ A.in1 (tryCatch (pyNext (.ref I)) _ >>= _) _ _ s
    refine wpAny_bind (wpAny_tryCatch (W.item j s _ _ hlt hst fun v h' tk hP hst' hk' => ?_))
    obtain ⟨u, rfl⟩ := hv j v hP
    have hS' := hk' S _ hSw hS
    have go : ∀ (h2 : Heap) (tk2 : Nat) (t2 : Tok) (c2 : Nat), (∀ b o, b ≠ S → h'.get? b = some o → h2.get? b = some o) → h2.get? S = some { cls := .type "list", dict := none, data := .seq (bestA (mxI val (j + 1)) t2) c2, slots := #[] } →
        codeAny (model prog w) A (.builtin "max.loop" ⟨[.ref I, .none, .ref S], [(key, d)]⟩) R { s with heap := h2, toks := tk2 } := fun h2 tk2 t2 c2 kp hs2 =>
      ih (j + 1) _ t2 c2 (by omega) hlt (W.frame _ _ _ hst' fun b hb o e => kp b o (fpS hb) e) hs2 fun h3 tk3 u3 k3 => hR h3 tk3 u3 fun b o hb hbS e => k3 b o hb hbS (kp b o hbS (hk' b o hb e))
    cases hm : mxI val j with
    | none =>
      rw [hm] at hS'
      change h'.get? S = some { cls := .type "list", dict := none, data := .seq #[] c, slots := #[] } at hS'
      have em : mxI val (j + 1) = some (val j) := by unfold mxI; rw [hm]
      rw [em] at go
      show wpAny _ A.in1 (updateSeq S (fun _ => #[.int (val j) u, .int (val j) u]) >>= _) _ _ _
      refine wpAny_bind ?_
      refine wpAny_updateSeq hS' rfl ?_
      rw [hname]
      exact wpAny_pure ⟨plainId_quiet F.plain_max_loop _, go _ _ u _ (fun b o hb e => old (h2 := h') hb e) (Heap.get?_update_self _ hS' rfl)⟩
    | some m =>
      rw [hm] at hS'
      change h'.get? S = some { cls := .type "list", dict := none, data := .seq #[.int m t, .int m t] c, slots := #[] } at hS'
      have em : mxI val (j + 1) = some (if val j > m then val j else m) := by unfold mxI; rw [hm]
      rw [em] at go
      show wpAny _ A.in1 (tryCatch (holding [Value.int (val j) u, Value.int (val j) u] (richCompare .Gt (Value.int (val j) u) (Value.int m t) >>= _)) _ >>= _) _ _ _
      refine wpAny_bind (wpAny_tryCatch (wpAny_holding (wpAny_bind (PyProof.Rows.gt_int ?_))))
      refine wpAny_bind (wpAny_holding (wpAny_truthy_bool ?_))
      refine wpAny_bind (wpAny_letGo (wpAny_pure ?_))
      by_cases hb : val j > m
      · rw [if_pos hb] at go
        simp only [show decide (m < val j) = true from decide_eq_true hb, show decide (val j > m) = true from decide_eq_true hb, if_true]
        refine wpAny_bind ?_
        refine wpAny_updateSeq hS' rfl (wpAny_bind (wpAny_letGo ?_))
        rw [hname]
        exact wpAny_pure ⟨plainId_quiet F.plain_max_loop _, go _ _ u _ (fun b o hb e => old (h2 := h') hb e) (Heap.get?_update_self _ hS' rfl)⟩
      · rw [if_neg hb] at go
        simp only [show decide (m < val j) = false from decide_eq_false hb, show decide (val j > m) = false from decide_eq_false hb, Bool.false_eq_true, if_false]
        refine wpAny_bind (wpAny_letGo ?_)
        rw [hname]
        exact wpAny_pure ⟨plainId_quiet F.plain_max_loop _, go _ _ t _ (fun _ _ _ e => e) hS'⟩
theorem call_tree_kw {prog : Program} {w : World} {A : Around} {E : Value → Shared → Prop} {s : Shared} {id : String} {b : Builtin} {args : List Value} {kw : List (Str × Value)} {Q : Value → Shared → Prop} (hk : builtinKind id = none) (hp : plainId id = true)
    (hb : entryFor table id = some b) (ha : argsOk id ⟨args, kw⟩)
    (hc : wpAny (model prog w) A.in1 (b ⟨args, kw⟩) (fun fin s' => match fin with
      | .done f => (match (Except.ok f : Result) with | .ok (.ret v) => Q v s' | .ok _ => False | .error e => E e s')
      | .again c' => c'.quiet = true ∧ codeAny (model prog w) A c' (fun r s' => match r with | .ok (.ret v) => Q v s' | .ok _ => False | .error e => E e s') s') E s) :
    wpAny (model prog w) A (call (.builtin id) args kw) Q E s := by
  refine wpAny_call (codeAny_call_builtin hp hb ?_)
  simp only [checkBuiltinCall, hk]
  cases hsig : Manifest.signature? id with
  | none => exact wpAny_pure hc
  | some sig =>
    have h2 : Bind.checkArgs id sig ⟨args, kw⟩ = pure () := by simpa only [argsOk, hsig] using ha
    simp only [h2]
    exact wpAny_pure hc
theorem max_listD {prog : Program} {w : World} {A : Around} {E : Value → Shared → Prop} {s : Shared} {l : Addr} {xs : Array (Int × Tok)} {d : Value} {Q : Value → Shared → Prop} (hh : A.handled = none) (hl : s.heap.IsList l (intItems xs))
    (h : ∀ h' tk u, (∀ b o, s.heap.get? b = some o → h'.get? b = some o) → Q (match mxI (numAt xs) xs.size with | none => d | some m => .int m u) { s with heap := h', toks := tk }) :
    wpAny (model prog w) A (call (.builtin "max") [.ref l] [(Str.ofString "default", d)]) Q E s := by
  have hname : (toString "max" ++ toString ".loop" : String) = "max.loop" := by decide
  refine call_tree_kw F.kind_max F.plain_max F.entry_max (mxD_args _ _) ?_
  show wpAny _ A.in1 (Builtin.Builtins.bindParams "max" ["key", "default"] 0 ⟨[], [(Str.ofString "default", d)]⟩ >>= _) _ _ s
  refine wpAny_bind (wpAny_of_eq (show Builtin.Builtins.bindParams "max" ["key", "default"] 0 ⟨[], [(Str.ofString "default", d)]⟩ = pure [none, some d] from by first | rfl | kernel_rfl) ?_)
  refine wpAny_bind (wpAny_pure ?_)
  refine wpAny_bind (iter_intList hl fun s₂ e st hfp hlI => ?_)
  subst e
  refine wpAny_bind (wpAny_newObj_type ?_)
  rw [hname]
  have W := Walks.list (prog := prog) (w := w) (A := A.in1) hh _ l hlI (intItems xs)
  have hSf : ∀ {fp : List Addr} {h2 : Heap}, (∀ b ∈ fp, b < h2.objs.size) → h2.objs.size ∉ fp := fun hf hm => Nat.lt_irrefl _ (hf _ hm)
  refine wpAny_pure ⟨plainId_quiet F.plain_max_loop _, max_loopD (t := 0) (c := 0) W (numAt xs) (fun _ _ => intItems_at) (hSf hfp) _ 0 _ rfl (Nat.zero_le _) (W.frame _ _ _ st fun b _ o e => Heap.get?_push_of_some _ e) (Heap.get?_push_size _ rfl) fun h' tk u hk => ?_⟩
  have hz : (intItems xs).size = xs.size := by simp [intItems]
  rw [hz]
  exact h h' tk u fun b o e => old_kept (s := s) (fun b o hb e => hk b o hb (Nat.ne_of_lt (Heap.lt_size e)) (Heap.get?_push_of_some _ e)) b o e
end DV

namespace DV
open PySem PySem.Spec PyProof.Rows L2

/-! ### max(xs, default=d), on data -/
def mxL (ns : List Int) : Option Int := ns.foldl (fun o b => some (match o with | none => b | some m => if b > m then b else m)) none
theorem mxL_go : ∀ (ms : List Int) (n : Int), ms.foldl (fun o b => some (match o with | none => b | some m => if b > m then b else m)) (some n) = some (maxL n ms)
  | [], n => rfl
  | m :: ms, n => mxL_go ms (if m > n then m else n)
theorem mxL_cons (n : Int) (ms : List Int) : mxL (n :: ms) = some (maxL n ms) := mxL_go ms n
theorem mxI_take (ns : List Int) (val : Nat → Int) (hv : ∀ i, i < ns.length → val i = ns.getD i 0) : ∀ j, j ≤ ns.length → mxI val j = mxL (ns.take j)
  | 0, _ => rfl
  | j + 1, h => by
    unfold mxI
    rw [mxI_take ns val hv j (by omega), hv j (by omega)]
    have e : ns.take (j + 1) = ns.take j ++ [ns.getD j 0] := by
      rw [List.take_add_one, List.getElem?_eq_getElem (by omega), List.getD_eq_getElem?_getD, List.getElem?_eq_getElem (by omega)]
      rfl
    rw [e]
    unfold mxL
    rw [List.foldl_append]
    rfl
def opMaxD (a b : D) : Option D := match a, b with
  | .lst _ xs, .int d => (match intsD xs with
    | some [] => some (.int d)
    | some (n :: ns) => some (.int (maxL n ns))
    | none => none)
  | _, _ => none
def rMaxDf (K : PySem.W.Frag) : R2 := fun x z H Q => ∃ (a : Addr) (ns : List Int) (d : Int), x = .ref a ∧ z = .int d ∧ SqL K H a (ns.map V.int) ∧ Q (.int (match ns with | [] => d | n :: ms => maxL n ms)) H
theorem rp_maxD {K : PySem.W.Frag} : RP2 K (rMaxDf K) opMaxD := by
  intro G H x y a b d qa qb Q ex stb ra rb eo q
  unfold opMaxD at eo
  split at eo
  · rename_i m xs e
    cases ns : intsD xs with
    | none => rw [ns] at eo; cases eo
    | some l =>
      rw [ns] at eo
      have e1 := intsD_inv ns
      subst e1
      obtain ⟨p, ys, f, rfl, h1, h2, _⟩ := ra.lst_inv ex
      have h3 := h2.ints
      subst h3
      refine ⟨p, l, e, rfl, rb.int_inv, h1, ?_⟩
      cases l with
      | nil =>
        cases eo
        exact q _ G H [] (.refl ex stb) (.int _) List.nodup_nil fun _ h => nomatch h
      | cons n ms =>
        cases eo
        exact q _ G H [] (.refl ex stb) (.int _) List.nodup_nil fun _ h => nomatch h
  · cases eo
theorem cr_maxDf {X : Cx} (hc : X.calm = true) : CallRK X (.builtin "max") [Str.ofString "default"] (fun vs zs H Q => match vs, zs with | [x], [z] => rMaxDf X.K x z H Q | _, _ => False) := by
  intro pins s σ H vs zs us ws Q I r rz h
  split at h
  case h_2 => exact h.elim
  obtain ⟨a, ns, d, rfl, rfl, hs, q⟩ := h
  obtain ⟨its, rv, hl, _⟩ := I.list hs
  obtain rfl := Vals.ref1 r
  obtain ⟨w1, rfl, e1⟩ := vals1 rz
  obtain ⟨t, rfl⟩ := e1
  have hi := rv.ints
  obtain ⟨xs, e⟩ := hi.allInts.items
  have hn : numsOf (intItems xs).toList = ns := by rw [← e]; exact hi.numsOf
  rw [nums_intItems] at hn
  have hl' := hl.isList
  rw [e] at hl'
  refine max_listD (I.ok.hd hc) hl' fun h' tk u hk => ?_
  have hz : xs.size = ns.length := by rw [← hn, List.length_map, Array.length_toList]
  have em : mxI (numAt xs) xs.size = mxL ns := by
    have := mxI_take ns (numAt xs) (fun i _ => by rw [numAt_eq, hn]) ns.length (Nat.le_refl _)
    rw [List.take_length] at this
    rw [hz]
    exact this
  rw [em]
  cases ns with
  | nil => exact ⟨.int d, H, I.kept hk, ⟨t, rfl⟩, q⟩
  | cons n ms =>
    rw [mxL_cons]
    exact ⟨.int _, H, I.kept hk, ⟨u, rfl⟩, q⟩
theorem de_maxD [Tb] {X : Cx} {W : WX} {e1 e2 : Expr} {ra rb : EvR} {p pos kp : Pos} (hc : X.calm = true) (hg : Gl X "max") (hm : X.mg "max" = none) (hv : bootBuiltins "max" = some (.builtin "max")) (ha : DE X W e1 ra) (hb : DE X W e2 rb)
    (he0 : starEach [e1] X.env = (false, eval e1 X.env) :: starEach [] X.env := by rfl) (hp0 : (backTo pos (starEach ([] : List Expr) X.env)).any (·.1) = false := by rfl)
    (he : backTo pos (starEach [e1] X.env) = (false, eval e1 X.env) :: backTo pos (starEach [] X.env) := by rfl) (hpl : (backTo pos (starEach [e1] X.env)).any (·.1) = false := by rfl)
    (hall : (backToKw pos (keywordEach [⟨some (Str.ofString "default"), e2, kp⟩] X.env)).all (·.1.isSome) = true := by rfl) (hnone : (backToKw pos (keywordEach [⟨some (Str.ofString "default"), e2, kp⟩] X.env)).any (·.1.isNone) = false := by rfl) (hks : (backToKw pos (keywordEach [⟨some (Str.ofString "default"), e2, kp⟩] X.env)).filterMap (·.1) = [Str.ofString "default"] := by rfl) :
    DE X W (.Call (.Name "max" p) [e1] [⟨some (Str.ofString "default"), e2, kp⟩] pos) (r2 opMaxD ra rb) :=
  (pe_callBK (cr_maxDf hc) hg hm hv (pa_cons ha pa_nil he0) (pk_cons hb pk_nil) (by decide) (by decide) he hpl hall hnone hks).weak fun σ H Q h => tE2 (rp_maxD (K := X.K)) σ H Q h
end DV

namespace DV
open PySem PySem.Spec PyProof.Rows L2

/-! ### xs[i] += e: xs a local list, i and e names or numbers -/
inductive Ato where
  | v (i : Nat)
  | c (n : Int)
@[simp] def Ato.get : Ato → Env → Option Int
  | .v i, E => match E[i]? with
    | some (some (.int n)) => some n
    | _ => none
  | .c n, _ => some n
def Ato.te : Ato → TE
  | .v i => tVar i
  | .c n => tC (.int n)
@[simp] def sAugA (i0 : Nat) (f : Int → Int → Int) (a b : Ato) : SvR := fun E => match E[i0]?, a.get E, b.get E with
  | some (some (.lst true xs)), some k, some y => (match ixN xs.length k with
    | some j => (match xs[j]? with
      | some (.int x) => .ok (.nx, E.set i0 (some (.lst true (xs.set j (.int (f x y))))))
      | _ => .stuck)
    | none => .stuck)
  | _, _, _ => .stuck
theorem get_listP {X : Cx} : PGet X (rIxL X.K) := by
  intro pins s σ H x y v u Q I rx ry h
  obtain ⟨p, xs, i, z, rfl, rfl, hq, he, q⟩ := h
  cases rx
  obtain ⟨t, rfl⟩ := ry
  obtain ⟨its, r, pl, hz⟩ := I.list hq
  obtain ⟨j, h1, h2, h3, h4, h5⟩ := atI_get he
  obtain ⟨w, ew, rw'⟩ := r.get h2
  have hl := r.length
  have hn := line63
  have fin : EP X pins σ Q w s := ⟨z, H, I, rw', q⟩
  by_cases h0 : 0 ≤ i
  · have hj : i.toNat = j := by
      rw [seqIndex_of h0 h5] at h1
      exact Option.some.inj h1
    exact wpAny_getItem_list pl.isList h0 (by omega) (by rw [hj]; simpa using ew) fin
  · have hj : (i + (its.toArray.size : Int)).toNat = j := by
      rw [seqIndex_neg (by omega) h4] at h1
      rw [List.size_toArray, ← hl]
      exact Option.some.inj h1
    exact wpAny_getItem_list_neg pl.isList (by omega) (by rw [List.size_toArray] <;> omega) (by omega) (by rw [hj]; simpa using ew) fin
section
variable [Tb] {K : PySem.W.Frag} {W : WX} {X : Cx} {pn : Nat → Prop}
theorem Ato.at {f : Fr} {G H : Hp} {σ : L2.St} {E : Env} {fp : Nat → List Addr} (S : SR f G H σ E fp) {Q : VK} : ∀ {a : Ato} {k : Int}, a.get E = some k → Q (.int k) H → a.te σ H Q
  | .v i, k, e, q => by
    have e : (match E[i]? with
      | some (some (.int n)) => some n
      | _ => none) = some k := e
    split at e
    · rename_i n en
      cases e
      obtain ⟨v, eσ, r⟩ := S.slot i _ en
      rw [r.int_inv] at eσ
      exact ⟨_, eσ, q⟩
    · cases e
  | .c n, k, e, q => by
    cases e
    exact q
theorem tAugA_of {i0 : Nat} {f : Int → Int → Int} {a b : Ato} (np : ¬ pn i0) (Dn : Ends) (σ : L2.St) (H : Hp) (h : tS K pn W (sAugA i0 f a b) Dn σ H) : tAugS (tVar i0) a.te b.te (rIxL K) (ipI f) rSetL Dn σ H := by
  obtain ⟨fr, G, E, fp, ek, ep, S, P⟩ := h
  subst ek
  unfold sAugA at P
  split at P
  · rename_i xs k y e0 ea eb
    split at P
    · rename_i j hj
      split at P
      · rename_i x ex
        obtain ⟨v, eσ, rv⟩ := S.slot i0 _ e0
        obtain ⟨p, vs, q0, e1, e2, g, hh, rl⟩ := rv.lst_own
        subst e1
        have hl : vs.length = xs.length := rl.len'
        obtain ⟨w, q1, ew, rw', _, _⟩ := RpL.get xs vs q0 j _ rl ex
        have ewi := rw'.int_inv
        subst ewi
        refine ⟨_, eσ, Ato.at S ea ?_⟩
        refine ⟨p, vs, k, .int x, rfl, rfl, .inl (.inl hh), ?_, Ato.at S eb ⟨x, y, rfl, rfl, ?_⟩⟩
        · unfold L2.atI
          rw [hl, hj]
          exact ew
        have S0 : SR (fr.push G H []) G H σ E fp := S.push (q := []) (fun p hp => nomatch hp) .nil
        have O1 : OpF fr.K G H σ E (.path i0 []) (.ref p) [] := ⟨rfl, .ref p, eσ, rfl⟩
        have O2 : OpsF fr.K G H σ E [.val (.int k), .val (.int (f x y))] [.int k, .int (f x y)] [] :=
          ⟨.int k, [.int (f x y)], [], [], rfl, rfl, (show Rp fr.K G H (.int k) (.int k) [] from .int _), .int (f x y), [], [], [], rfl, rfl, (show Rp fr.K G H (.int _) (.int _) [] from .int _), rfl, rfl⟩
        have M : rSetM (.ref p) [.int k, .int (f x y)] H (fun _ H3 => Dn.nx σ H3) := by
          refine mut_end (f := fr) (W := fun _ _ _ _ => True) (G := G) (H := H) (E := E) (fp := fp) (E2 := E) (c2 := false) (rm_set (K := fr.K)) S O1 S0 O2 .nil (fun _ => Quiet.refl S) ?_
          have em : mutArgs muSet (.path i0 []) ([.val (.int k), .val (.int (f x y))], E, false) = .ok (.val .non, E.set i0 (some (.lst true (xs.set j (.int (f x y))))), true) := by
            show mutFin muSet (.path i0 []) [.int k, .int (f x y)] E = _
            simp only [mutFin, e0, nodeFin, D.atP, muSet, hj, D.setP]
          rw [em]
          exact fun v' G' H' fp' q' S' _ _ _ => P σ G' H' fp' S'
        obtain ⟨i', v', e1, e2⟩ := M
        cases e1
        exact e2
      · exact P.elim
    · exact P.elim
  · exact P.elim
theorem ds_augA {i0 : Nat} {o i e : Expr} {a b : Ato} {op : Operator} {f : Int → Int → Int} {pos tpos : Pos} (np : ¬ pn i0) (ho : PE X o (tVar i0)) (hi : PE X i a.te) (he : PE X e b.te) (hp : PIp X op (ipI f))
    (ha : ∀ ov iv new, augStore i ov iv new = (do holding [new, ov, iv] (setItem ov iv new); release [new, ov, iv] []; pure .next) := by intros; rfl) : DS X pn W (.AugAssign (.Subscript o i tpos) op e pos) (sAugA i0 f a b) := (ps_augS ho hi get_listP he hp set_list ha).weak (tAugA_of np)
end
end DV

namespace DV
open PySem L2

/-! ### all, any of a list of truth values -/
def bools1 (ds : List D) : Option (List Bool) := match ds with
  | [.lst _ xs] => xs.mapM fun d => match d with
    | .bl b => some b
    | _ => none
  | _ => none
theorem boolsM_inv : ∀ {ds : List D} {bs : List Bool}, (ds.mapM fun d => match d with
    | .bl b => some b
    | _ => none) = some bs → ds = bs.map D.bl
  | [], bs, h => by
    cases h
    rfl
  | d :: ds, bs, h => by
    rw [List.mapM_cons] at h
    cases d with
    | bl b =>
      cases h2 : ds.mapM (fun d => match d with
        | .bl b => some b
        | _ => none) with
      | none => rw [h2] at h; cases h
      | some cs =>
        rw [h2] at h
        have h : some (b :: cs) = some bs := h
        cases h
        rw [boolsM_inv h2]
        rfl
    | _ => cases h
theorem bools1_map {m : Bool} : ∀ bs : List Bool, bools1 [.lst m (bs.map D.bl)] = some bs := fun bs => by
  show ((bs.map D.bl).mapM fun d => match d with
    | .bl b => some b
    | _ => none) = some bs
  induction bs with
  | nil => rfl
  | cons b bs ih =>
    rw [List.map_cons, List.mapM_cons, ih]
    rfl
theorem RpL.bools {K : PySem.W.Frag} {G H : Hp} : ∀ {bs : List Bool} {vs : List V} {q : List Addr}, RpL K G H (bs.map D.bl) vs q → vs = bs.map V.bl
  | [], vs, q, h => h.len0.1
  | b :: bs, vs, q, h => by
    have h : RpL K G H (D.bl b :: bs.map D.bl) vs q := h
    unfold RpL at h
    obtain ⟨x, r, f, g, rfl, _, h1, h2⟩ := h
    rw [h1.bl_inv, RpL.bools h2]
    rfl
theorem bools1_rep {K : PySem.W.Frag} {G H : Hp} {ds : List D} {bs : List Bool} {vs : List V} (ex : Same G H) (h : bools1 ds = some bs) (ha : RpA K G H ds vs) : ∃ a, vs = [.ref a] ∧ SqL K H a (bs.map V.bl) := by
  unfold bools1 at h
  split at h
  · rename_i m xs
    have e := boolsM_inv h
    subst e
    obtain ⟨v, p, rfl, r⟩ := RpA.one (ds := []) ha
    obtain ⟨a, ys, f, rfl, h1, h2, _⟩ := r.lst_inv ex
    have h3 := RpL.bools h2
    subst h3
    exact ⟨a, rfl, h1⟩
  · cases h
def bAll (ds : List D) : Option D := (bools1 ds).map fun bs => .bl (bs.all id)
def bAny (ds : List D) : Option D := (bools1 ds).map fun bs => .bl (bs.any id)
theorem rp_all {K : PySem.W.Frag} : RPn K (rAll K) bAll := by
  intro G H vs ds d Q ex stb ha eo q
  unfold bAll at eo
  cases es : bools1 ds with
  | none => rw [es] at eo; cases eo
  | some bs =>
    rw [es] at eo
    cases eo
    obtain ⟨a, rfl, hs⟩ := bools1_rep ex es ha
    exact ⟨a, bs, rfl, hs, q _ G H [] (.refl ex stb) (.bl _) List.nodup_nil fun _ h => nomatch h⟩
theorem rp_any {K : PySem.W.Frag} : RPn K (rAny K) bAny := by
  intro G H vs ds d Q ex stb ha eo q
  unfold bAny at eo
  cases es : bools1 ds with
  | none => rw [es] at eo; cases eo
  | some bs =>
    rw [es] at eo
    cases eo
    obtain ⟨a, rfl, hs⟩ := bools1_rep ex es ha
    exact ⟨a, bs, rfl, hs, q _ G H [] (.refl ex stb) (.bl _) List.nodup_nil fun _ h => nomatch h⟩
/-! ### a def that calls itself: nothing is promised at depth 0 -/
theorem fn_stuck [Tb] {P : Program} {w : World} {K : PySem.W.Frag} {mg : Str → Option Value} {base : Heap} {k n : Nat} {mu : Option Nat} {f : Addr} {fd : FuncData} {ps : List Str} (hn : n = ps.length) : FnOk P w K mg base (L2.CX P w) k f fd ps (spD K ⟨n, mu, fun _ => .stuck⟩) :=
  ⟨fun vs H Q E h => h.1.trans hn, fun A outer s H args us vs Q E hr he hb hv hs => by
    obtain ⟨_, _, _, _, _, _, _, _, _, _, _, h⟩ := hs
    exact h.elim⟩
end DV

namespace DV
open PySem L2

/-! ### not x as a value -/
@[simp] def opNotV : D → Option D
  | .bl b => some (.bl (!b))
  | _ => none
theorem rp_notV {K : PySem.W.Frag} : RP1 K (fun x H Q => ∃ c, x = .bl c ∧ Q (.bl (!c)) H) opNotV := by
  intro G H x a d qa Q ex stb ha eo q
  cases a with
  | bl b =>
    cases eo
    exact ⟨b, ha.bl_inv, q _ G H [] (.refl ex stb) (.bl _) List.nodup_nil fun _ h => nomatch h⟩
  | _ => cases eo
theorem de_notV [Tb] {X : Cx} {W : WX} {a : Expr} {ra : EvR} {pos : Pos} (ha : DE X W a ra) : DE X W (.UnaryOp .Not a pos) (r1 opNotV ra) := (pe_not ha).weak fun σ H Q h => tE1 rp_notV σ H Q h
/-! ### list(range(a, b)) -/
open Classical in
noncomputable def rgOk (a b : Int) : Bool := @decide (RgOk a b) (Classical.propDecidable _)
theorem rgOk_of {a b : Int} (h0 : 0 ≤ a) (h1 : b ≤ 16777216) (h2 : a ≤ 16777216) (h3 : 0 ≤ b) : rgOk a b = true := @decide_eq_true _ (Classical.propDecidable _) (RgOk.of_le h0 h1 h2 h3)
noncomputable def opLr2 (x y : D) : Option D := match x, y with
  | .int a, .int b => if rgOk a b = true then some (.lst true (rangeD a (b - a).toNat)) else none
  | _, _ => none
noncomputable def opLr1 (x : D) : Option D := opLr2 (.int 0) x
theorem rgV_ints (a b : Int) : rgV a b = ((List.range (b - a).toNat).map fun (i : Nat) => a + (i : Int)).map V.int := by
  unfold rgV
  rw [List.map_map]
  rfl
theorem rangeD_ints (a : Int) (n : Nat) : rangeD a n = ((List.range n).map fun (i : Nat) => a + (i : Int)).map D.int := by
  unfold rangeD
  rw [List.map_map]
  rfl
theorem rp_lr2 {K : PySem.W.Frag} : RP2 K (fun x y H Q => ∃ i j, x = .int i ∧ y = .int j ∧ RgOk i j ∧ ∀ q, H q = none → Q (.ref q) (upd H q (.lst (rgV i j)))) opLr2 := by
  intro G H x y a b d qa qb Q ex stb ra rb eo q
  unfold opLr2 at eo
  split at eo
  · rename_i i j
    split at eo
    · rename_i h
      cases eo
      refine ⟨i, j, ra.int_inv, rb.int_inv, @of_decide_eq_true _ (Classical.propDecidable _) h, fun p hp => ?_⟩
      refine q _ G _ [p] (step_lst ex stb (fun z => z) hp) (Rp.newLst ex hp ?_) (by simp) fun r hr => by
        have : r = p := by simpa using hr
        rw [this]; exact hp
      rw [rgV_ints, rangeD_ints]
      exact RpL.ofInts _
    · cases eo
  · cases eo
theorem rp_lr1 {K : PySem.W.Frag} : RP1 K (fun x H Q => ∃ n, x = .int n ∧ RgOk 0 n ∧ ∀ q, H q = none → Q (.ref q) (upd H q (.lst (rgV 0 n)))) opLr1 := by
  intro G H x a d qa Q ex stb ra eo q
  obtain ⟨i, j, e1, e2, h1, h2⟩ := rp_lr2 G H (.int 0) x (.int 0) a d [] qa Q ex stb (.int 0) ra eo q
  cases e1
  exact ⟨j, e2, h1, h2⟩
theorem de_lr1 [Tb] {X : Cx} {W : WX} {a : Expr} {ra : EvR} {p p2 pos pos2 : Pos} (hc : X.calm = true) (hg : Gl X "list") (hm : X.mg "list" = none) (hg2 : Gl X "range") (hm2 : X.mg "range" = none) (ha : DE X W a ra) (na : starEach [a] X.env = (false, eval a X.env) :: starEach [] X.env := by rfl)
    (nb : starEach [.Call (.Name "range" p2) [a] [] pos2] X.env = (false, eval (.Call (.Name "range" p2) [a] [] pos2) X.env) :: starEach [] X.env := by rfl) :
    DE X W (.Call (.Name "list" p) [.Call (.Name "range" p2) [a] [] pos2] [] pos) (r1 opLr1 ra) := (pe_listRg hc hg hm (prg_1 hg2 hm2 ha na) nb).weak fun σ H Q h => tE1 rp_lr1 σ H Q h
theorem de_lr2 [Tb] {X : Cx} {W : WX} {a b : Expr} {ra rb : EvR} {p p2 pos pos2 : Pos} (hc : X.calm = true) (hg : Gl X "list") (hm : X.mg "list" = none) (hg2 : Gl X "range") (hm2 : X.mg "range" = none) (ha : DE X W a ra) (hb : DE X W b rb) (na : starEach [a, b] X.env = (false, eval a X.env) :: starEach [b] X.env := by rfl)
    (nb : starEach [b] X.env = (false, eval b X.env) :: starEach [] X.env := by rfl) (hp : (backTo pos2 (starEach [b] X.env)).any (·.1) = false := by rfl)
    (nc : starEach [.Call (.Name "range" p2) [a, b] [] pos2] X.env = (false, eval (.Call (.Name "range" p2) [a, b] [] pos2) X.env) :: starEach [] X.env := by rfl) :
    DE X W (.Call (.Name "list" p) [.Call (.Name "range" p2) [a, b] [] pos2] [] pos) (r2 opLr2 ra rb) := (pe_listRg hc hg hm (prg_2 hg2 hm2 ha hb na nb hp) nc).weak fun σ H Q h => tE2 rp_lr2 σ H Q h
end DV

namespace DV
open PySem L2

theorem un65 {k : Nat} {A : Around} (hr : Room k A) : A.units + 65 < cLine := by
  have := hr.un
  omega
/-! ### a, b = x, y: names -/
def sPar (i j : Nat) (ra : AvR) : SvR := fun E => (ra E).bind fun a => match toVals a.1 a.2.1 with
  | some ([d1, d2], E2, _) => if d1.fzd = true ∧ d2.fzd = true ∧ i < E2.length ∧ j < E2.length then .ok (.nx, (E2.set i (some d1)).set j (some d2)) else .stuck
  | _ => .stuck
section
variable [Tb] {X : Cx} {W : WX} {K : PySem.W.Frag} {pn : Nat → Prop}
theorem tPar_of {i j : Nat} {ra : AvR} (np : ¬ pn i) (np2 : ¬ pn j) (Dn : Ends) (σ : L2.St) (H : Hp) (h : tS K pn W (sPar i j ra) Dn σ H) : tPar i j (tA K W ra) Dn σ H := by
  obtain ⟨f, G, E, fp, ek, ep, S, P⟩ := h
  refine ⟨f, G, E, fp, ek, S, ?_⟩
  unfold sPar at P
  cases ea : ra E with
  | stuck => rw [ea] at P; exact P
  | exc x E' => rw [ea] at P; exact P.at σ
  | ok a =>
    obtain ⟨os, E1, c1⟩ := a
    rw [ea] at P
    intro vs G1 H1 fp1 q S1 O1 W1 k1
    have P : PostS f W Dn (match toVals os E1 with
      | some ([d1, d2], E2, _) => if d1.fzd = true ∧ d2.fzd = true ∧ i < E2.length ∧ j < E2.length then .ok (.nx, (E2.set i (some d1)).set j (some d2)) else .stuck
      | _ => .stuck) := P
    split at P
    · rename_i d1 d2 E2 c2 et
      obtain ⟨G2, fp2, S2, s2, k2, b2, r2, z2⟩ := toVals_ok os S1 O1 W1 et
      split at P
      · rename_i hz
        obtain ⟨z1, z3, hi, hj⟩ := hz
        unfold RpL at r2
        obtain ⟨v1, r3, f1, f3, e1, e2, h1, h2⟩ := r2
        unfold RpL at h2
        obtain ⟨v2, r4, f4, f5, e3, e4, h3, h4⟩ := h2
        obtain ⟨e5, _⟩ := h4.len0
        subst e5
        subst e3
        have n1 := Rp.nil_of d1 v1 f1 z1 h1
        have n2 := Rp.nil_of d2 v2 f4 z3 h3
        subst n1
        subst n2
        have T1 := S2.set hi (by rw [ep]; exact np) h1 .nil
        have T2 := T1.set (i := j) (by rw [List.length_set]; exact hj) (by rw [ep]; exact np2) h3 .nil
        exact ⟨v1, v2, e1, P _ G2 H1 _ T2⟩
      · exact P.elim
    · exact P.elim
theorem ds_par {i j : Nat} {x y : Str} {a b : Expr} {ra : AvR} {px py pt pt2 pos : Pos} {kt k2 : Nat} (np : ¬ pn i) (np2 : ¬ pn j) (hc : X.calm = true) (hN : X.N.Nodup) (hi : X.N[i]? = some x) (hj : X.N[j]? = some y) (hij : i ≠ j)
    (hx : X.env.scope.names.lookup x = some .local) (hy : X.env.scope.names.lookup y = some .local) (ha : DA X W [a, b] ra)
    (hw : swappedStores [.Tuple [.Name x px, .Name y py] kt pt] (.Tuple [a, b] k2 pt2) X.env = pure (some [x, y]))
    (hs : swapsWithSole [.Tuple [.Name x px, .Name y py] kt pt] (.Tuple [a, b] k2 pt2) pos.line X.env = pure false := by rfl) :
    DS X pn W (.Assign [.Tuple [.Name x px, .Name y py] kt pt] (.Tuple [a, b] k2 pt2) pos) (sPar i j ra) := (ps_par hc hN hi hj hij hx hy ha hw hs).weak (tPar_of np np2)
end
/-- a list comprehension by turns, slots and list told by a predicate -/
theorem lcLoop_run {α : Type} {vs : List Nat} {g : GvR} {t : TvR} {re : EvR} (ga : α → D) (I : Nat → Env → List D → Prop) : ∀ (xs : List α) (i : Nat) (E : Env) (acc : List D), I i E acc →
    (∀ (j : Nat) (E : Env) (acc : List D) (a : α), xs[j]? = some a → I (i + j) E acc → ∃ E2 acc2, lcTurn vs g t re (ga a) E acc = .ok (E2, acc2) ∧ I (i + j + 1) (clr vs E2) acc2) →
    ∃ E2 acc2, lcLoop vs g t re (xs.map ga) E acc = .ok (E2, acc2) ∧ I (i + xs.length) E2 acc2
  | [], i, E, acc, hE, _ => ⟨E, acc, lcLoop_nil, hE⟩
  | a :: xs, i, E, acc, hE, h => by
    obtain ⟨E2, acc2, h1, h2⟩ := h 0 E acc a rfl hE
    obtain ⟨E3, acc3, h3, h4⟩ := lcLoop_run ga I xs (i + 1) (clr vs E2) acc2 h2 fun j E acc b hj hI => by
      have := h (j + 1) E acc b (by simpa using hj) (by rw [show i + (j + 1) = i + 1 + j by omega]; exact hI)
      rw [show i + (j + 1) + 1 = i + 1 + j + 1 by omega] at this
      exact this
    refine ⟨E3, acc3, ?_, by rw [List.length_cons, show i + (xs.length + 1) = i + 1 + xs.length by omega]; exact h4⟩
    rw [List.map_cons, lcLoop_cons h1]
    exact h3
end DV

namespace DV
open PySem L2

/-! ### * with a list of one's own -/
@[simp] noncomputable def opMulP (a b : D) : Option D := match a, b with
  | .lst true xs, .int k => if fzdL xs = true ∧ 0 ≤ k ∧ k ≤ 100000 ∧ xs.length ≤ 100 then some (.lst true (List.replicate k.toNat xs).flatten) else none
  | a, b => opMul a b
def rMulP : R2 := fun x y H Q => rI CMul (fun i j => .int (i * j)) x y H Q ∨ rRep x y H Q
theorem op_mulP {X : Cx} : OpR X (binaryOp .Mult) rMulP := op_mul.or op_rep
theorem RpL.rep {K : PySem.W.Frag} {G H : Hp} {ds : List D} {xs : List V} (h : RpL K G H ds xs []) : ∀ n : Nat, RpL K G H (List.replicate n ds).flatten (List.replicate n xs).flatten []
  | 0 => by
    show RpL K G H [] [] []
    unfold RpL
    exact ⟨rfl, rfl⟩
  | n + 1 => by
    rw [List.replicate_succ, List.replicate_succ, List.flatten_cons, List.flatten_cons]
    exact RpL.append ds h (RpL.rep h n)
theorem rp_mulP {K : PySem.W.Frag} : RP2 K rMulP opMulP := by
  intro G H x y a b d qa qb Q ex stb ra rb eo q
  unfold opMulP at eo
  split at eo
  · rename_i xs k
    split at eo
    · rename_i hc
      cases eo
      obtain ⟨hz, k0, k1, hl⟩ := hc
      obtain ⟨p, ys, f, e1, e2, g, hh, rl⟩ := ra.lst_own
      have hf : f = [] := RpL.nil_of xs ys f hz rl
      subst hf
      have hly := rl.len'
      refine .inr ⟨p, k, ys, e1, rb.int_inv, hh, by omega, by omega, ?_, fun l hp => ?_⟩
      · rw [sizeLine_eq, hly]
        have : xs.length * k.toNat ≤ 100 * 100000 := Nat.mul_le_mul hl (by omega)
        omega
      · exact q _ G _ [l] (step_lst ex stb (fun z => z) hp) (Rp.newLst ex hp (RpL.rep rl k.toNat)) (by simp) fun r hr => by
          have : r = l := by simpa using hr
          rw [this]; exact hp
    · cases eo
  · exact .inl (rp_mul G H x y _ _ d qa qb Q ex stb ra rb eo q)
@[simp] theorem rep1 {α : Type} (a : α) (n : Nat) : (List.replicate n [a]).flatten = List.replicate n a := by
  induction n with
  | zero => rfl
  | succ n ih => rw [List.replicate_succ, List.flatten_cons, ih, List.replicate_succ]; rfl
/-! ### lemmas for loops -/
theorem enumD_map {α : Type} (g : α → D) (xs : List α) : enumD (xs.map g) = xs.zipIdx.map fun p => .tup [.int (p.2 : Nat), g p.1] := by
  unfold enumD
  apply List.ext_getElem?
  intro i
  simp only [List.getElem?_map, List.length_map]
  by_cases h : i < xs.length
  · rw [List.getElem?_range (by simpa using h), List.getElem?_zipIdx]
    simp [List.getElem?_eq_getElem h]
  · rw [List.getElem?_eq_none (by simpa using h), List.getElem?_zipIdx, List.getElem?_eq_none (by simpa using h)]
    rfl
theorem zipIdx_mem {α : Type} {xs : List α} {p : α × Nat} (h : p ∈ xs.zipIdx) : xs[p.2]? = some p.1 := by
  obtain ⟨a, i⟩ := p
  exact List.mk_mem_zipIdx_iff_getElem?.mp h
theorem zipIdx_at {α : Type} {xs : List α} {p : α × Nat} {j : Nat} (h : xs.zipIdx[j]? = some p) : p.2 = j ∧ xs[j]? = some p.1 := by
  rw [List.getElem?_zipIdx] at h
  cases e : xs[j]? with
  | none => rw [e] at h; cases h
  | some a => rw [e] at h; cases h; exact ⟨by simp, rfl⟩
/-- a for that may return -/
theorem sLoop_seek {α : Type} {g : GvR} {b : SvR} (ga : α → D) (I : Env → Prop) (R : D → Prop) : ∀ (xs : List α) (E : Env), I E → (∀ a E, a ∈ xs → I E → (∃ E2, sTurn g b (ga a) E = .ok (.nx, E2) ∧ I E2) ∨ ∃ x E2, sTurn g b (ga a) E = .ok (.rt x, E2) ∧ R x) →
    (∃ E2, sLoop g b (xs.map ga) E = .ok (.nx, E2) ∧ I E2) ∨ ∃ x E2, sLoop g b (xs.map ga) E = .ok (.rt x, E2) ∧ R x
  | [], E, hE, _ => .inl ⟨E, rfl, hE⟩
  | a :: xs, E, hE, h => by
    rw [List.map_cons]
    rcases h a E List.mem_cons_self hE with ⟨E2, h1, h2⟩ | ⟨x, E2, h1, h2⟩
    · rcases sLoop_seek ga I R xs E2 h2 fun b E hb => h b E (List.mem_cons_of_mem _ hb) with ⟨E3, h3, h4⟩ | ⟨x, E3, h3, h4⟩
      · exact .inl ⟨E3, (sLoop_nx h1).trans h3, h4⟩
      · exact .inr ⟨x, E3, (sLoop_nx h1).trans h3, h4⟩
    · exact .inr ⟨x, E2, sLoop_rt h1, h2⟩
/-- sum of a generator -/
theorem sgLoop_map {α : Type} {vs : List Nat} {g : GvR} {t : TvR} {re : EvR} (ga : α → D) (h : α → Int) {E : Env} : ∀ (xs : List α), (∀ a, a ∈ xs → ∃ E2, sgTurn g t re (ga a) E = .ok (E2, some (h a)) ∧ clr vs E2 = E) → sgLoop vs g t re (xs.map ga) E = .ok (E, xs.map h)
  | [], _ => rfl
  | a :: xs, hh => by
    obtain ⟨E2, h2, e2⟩ := hh a List.mem_cons_self
    have ih := sgLoop_map ga h xs fun b hb => hh b (List.mem_cons_of_mem _ hb)
    rw [List.map_cons]
    show (sgTurn g t re (ga a) E).bind _ = _
    rw [h2]
    show (sgLoop vs g t re (xs.map ga) (clr vs E2)).bind _ = _
    rw [e2, ih]
    rfl
end DV

namespace DV
open PySem L2

/-- a slot is given its own again -/
theorem SR.put [Tb] {f : Fr} {G H : Hp} {σ : L2.St} {E : Env} {fp : Nat → List Addr} (S : SR f G H σ E fp) {i : Nat} {d : D} {v : V} {q : List Addr} (hi : i < E.length) (hv : σ[i]? = some (some v)) (r : Rp f.K G H d v q) (w : Ow f fp q) :
    SR f G H σ (E.set i (some d)) (fun j => if j = i then q else fp j) where
  tab := S.tab
  g0 := S.g0
  ex := S.ex
  fr := S.fr
  stb := S.stb
  pin := S.pin
  slen := S.slen
  len := by rw [List.length_set]; exact S.len
  slot := fun j d' e => by
    by_cases h : i = j
    · subst h
      rw [List.getElem?_set_self hi] at e
      cases e
      rw [if_pos rfl]
      exact ⟨v, hv, r⟩
    · rw [List.getElem?_set_ne h] at e
      rw [if_neg (Ne.symm h)]
      exact S.slot j d' e
  none_ := fun j n => by
    by_cases h : i = j
    · subst h
      exact absurd (List.getElem?_set_self hi) (n d)
    · rw [if_neg (Ne.symm h)]
      exact S.none_ j fun d' => by rw [← List.getElem?_set_ne h]; exact n d'
  nd := fun j => by
    show (if j = i then q else fp j).Nodup
    split
    · exact w.nd
    · exact S.nd j
  sep := fun j k a h1 h2 => by
    have h1 : a ∈ (if j = i then q else fp j) := h1
    have h2 : a ∈ (if k = i then q else fp k) := h2
    by_cases hj : j = i
    · by_cases hk : k = i
      · rw [hj, hk]
      · rw [if_pos hj] at h1
        rw [if_neg hk] at h2
        exact absurd h2 (w.sep a h1 k)
    · by_cases hk : k = i
      · rw [if_neg hj] at h1
        rw [if_pos hk] at h2
        exact absurd h1 (w.sep a h2 j)
      · rw [if_neg hj] at h1
        rw [if_neg hk] at h2
        exact S.sep j k a h1 h2
  out := fun j a h => by
    have h : a ∈ (if j = i then q else fp j) := h
    split at h
    · exact w.out a h
    · exact S.out j a h
/-! ### a list comprehension over a list of one's own, that stays one's own -/
@[simp] def rLcB (i0 : Nat) (vs : List Nat) (g : GvR) (t : TvR) (re : EvR) : EvR := fun E => match E[i0]? with
  | some (some (.lst true ds)) => if fzdL ds = true then (lcLoop vs g t re ds (clr vs (E.set i0 none)) []).bind fun r => if r.1.length = E.length then .ok (.val (.lst true r.2), (back vs (E.set i0 none) r.1).set i0 (some (.lst true ds)), true) else .stuck else .stuck
  | _ => .stuck
section
variable [Tb] {X : Cx} {W : WX} {K : PySem.W.Frag}
theorem tLcB_of {i0 : Nat} {vs : List Nat} {g : GvR} {t : TvR} {re : EvR} (σ : L2.St) (H1 : Hp) (Q : VK) (h : tE K W (rLcB i0 vs g t re) σ H1 Q) : tLc (iList K (tVar i0)) (tG K (fun i => i ∉ vs) g) (tT K W0 t) (tE K W0 re) vs σ H1 Q := by
  obtain ⟨f, G1, E1, fp1, ek, S, P⟩ := h
  unfold rLcB at P
  split at P
  · rename_i ds e0
    split at P
    · rename_i hz
      obtain ⟨v, eσ, rv⟩ := S.slot i0 _ e0
      obtain ⟨p0, ys, q0, e1, e2, g0, hh, rl⟩ := rv.lst_own
      have hq0 : q0 = [] := RpL.nil_of ds ys q0 hz rl
      subst hq0
      subst e1
      have rl0 := rl
      have hly := rl.len'
      have hi0 : i0 < E1.length := (List.getElem?_eq_some_iff.mp e0).1
      refine ⟨_, eσ, p0, rfl, ⟨ys, .inl (.inl hh)⟩, fun Dl hD => ?_⟩
      have wB : Ow f (fun j => if j = i0 then [] else fp1 j) [p0] := ⟨by simp, fun a ha z => S.out i0 a (by rw [e2]; exact ha) z, fun a ha j hj => by
        have hj : a ∈ (if j = i0 then [] else fp1 j) := hj
        split at hj
        · cases hj
        · rename_i n
          exact n (S.sep j i0 a hj (by rw [e2]; exact ha))⟩
      have SP : SR (f.push G1 H1 [p0]) G1 H1 σ (E1.set i0 none) (fun j => if j = i0 then [] else fp1 j) := (S.drop i0).push (fun a ha => by
        rw [List.mem_singleton.mp ha]
        exact ⟨g0, _, hh, trivial⟩) wB
      generalize hfpB : (fun j => if j = i0 then [] else fp1 j) = fpB at SP wB
      cases el : lcLoop vs g t re ds (clr vs (E1.set i0 none)) [] with
      | stuck => rw [el] at P; exact P.elim
      | exc x E' => exact absurd el (lcLoop_nox ds _ _)
      | ok r =>
        obtain ⟨Ef, accf⟩ := r
        rw [el] at P
        have P : PostE f W σ Q G1 H1 E1 fp1 (if Ef.length = E1.length then .ok (.val (.lst true accf), (back vs (E1.set i0 none) Ef).set i0 (some (.lst true ds)), true) else .stuck) := P
        split at P
        · rename_i hlen0
          have hlen : Ef.length = (E1.set i0 none).length := by rw [List.length_set]; exact hlen0
          subst ek
          have SB := blk_in (vs := vs) SP
          have atP : ∀ {G2 H2 : Hp} {σ2 : L2.St} {E2 : Env} {fp2 : Nat → List Addr}, SR (blkFr (f.push G1 H1 [p0]) G1 H1 fpB vs σ) G2 H2 σ2 E2 fp2 → H2 p0 = some (.lst ys) := fun S2 => (S2.fr p0 (.inl (.inr List.mem_cons_self))).1.trans hh
          have st0 := step_lst (o := .lst []) SB.ex SB.stb (fun z => z) hD
          have S0 := SB.step st0
          have FD : ∀ q, (∀ a ∈ q, a = Dl) → q.Nodup → Ow (blkFr (f.push G1 H1 [p0]) G1 H1 fpB vs σ) (fun i => if i ∈ vs then [] else fpB i) q := fun q hq hn => SB.fresh hn fun p hp => by rw [hq p hp]; exact hD
          refine ⟨fun i m H => m = ds.length - i ∧ i ≤ ds.length ∧ ∃ G E fp acc us q, SR (blkFr (f.push G1 H1 [p0]) G1 H1 fpB vs σ) G H (wipe σ vs) E fp ∧ H Dl = some (.lst us) ∧ G Dl = none ∧ RpL f.K G H acc us q ∧ Ow (blkFr (f.push G1 H1 [p0]) G1 H1 fpB vs σ) fp (Dl :: q) ∧ lcLoop vs g t re (ds.drop i) E acc = .ok (Ef, accf) ∧ (∀ i ∈ vs, ∀ d, E[i]? ≠ some (some d)),
            ⟨ds.length, by simp, Nat.zero_le _, G1, clr vs (E1.set i0 none), _, [], [], [], S0, upd_same, same_none SB.ex hD, by unfold RpL; exact ⟨rfl, rfl⟩, FD [Dl] (fun a h => by simpa using h) (by simp), el, fun i hi d => clr_in hi⟩, ?_⟩
          rintro i m H2 ⟨rfl, hi, G2, E2, fp2, acc, us, q, S2, hDl, gDl, rl, w2, eloop, hown⟩
          by_cases hlt : i < ds.length
          · refine .inr ⟨⟨ys, ys[i]'(by omega), .inl (.inl (atP S2)), List.getElem?_eq_getElem _⟩, fun H => ∃ G E fp acc us q, SR (blkFr (f.push G1 H1 [p0]) G1 H1 fpB vs σ) G H (wipe σ vs) E fp ∧ H Dl = some (.lst us) ∧ G Dl = none ∧ RpL f.K G H acc us q ∧ Ow (blkFr (f.push G1 H1 [p0]) G1 H1 fpB vs σ) fp (Dl :: q) ∧ lcLoop vs g t re (ds.drop (i + 1)) E acc = .ok (Ef, accf) ∧ (∀ i ∈ vs, ∀ d, E[i]? ≠ some (some d)),
              fun H' h => ⟨ds.length - (i + 1), by omega, rfl, hlt, h⟩, fun x H' y => ?_⟩
            have hd : ds[i]? = some ds[i] := List.getElem?_eq_getElem hlt
            obtain ⟨eH, hy⟩ := y
            subst eH
            have hyx := hy ys (.inl (.inl (atP S2)))
            obtain ⟨x', q', ex', rx', sq', _⟩ := RpL.get ds ys [] i _ rl0 hd
            have e1 : x' = x := Option.some.inj (ex'.symm.trans hyx)
            subst e1
            have hq' : q' = [] := List.eq_nil_iff_forall_not_mem.mpr fun a ha => nomatch (sq' a ha)
            subst hq'
            have r3 : Rp f.K G2 H' ds[i] x' [] := Rp.mono S2.g0 _ _ _ rx' fun a ha => nomatch ha
            have st : Step G2 H' G2 H' := .refl S2.ex S2.stb
            have S3 := S2.step st
            have hDl3 : H' Dl = some (.lst us) := st.eh Dl _ hDl trivial
            have gDl3 : G2 Dl = none := (st.old Dl _ hDl trivial).trans gDl
            have rl3 := rl.step st
            have w3 := w2
            have atq : ∀ p ∈ Dl :: q, G2 p = none ∧ ∃ o, H' p = some o ∧ NotT o := fun p hp => by
              rcases List.mem_cons.mp hp with z | z
              · rw [z]; exact ⟨gDl3, _, hDl3, trivial⟩
              · obtain ⟨g', o, ho, hw⟩ := RpL.at acc us q rl3 p z
                exact ⟨g', o, ho, hw.notT⟩
            have S4 := S3.push atq w3
            have atD : ∀ {G5 H5 : Hp} {σ5 : L2.St} {E5 : Env} {fp5 : Nat → List Addr}, SR ((blkFr (f.push G1 H1 [p0]) G1 H1 fpB vs σ).push G2 H' (Dl :: q)) G5 H5 σ5 E5 fp5 → SR (blkFr (f.push G1 H1 [p0]) G1 H1 fpB vs σ) G5 H5 σ5 E5 fp5 ∧ H5 Dl = some (.lst us) ∧ G5 Dl = none ∧ RpL f.K G5 H5 acc us q ∧ Ow (blkFr (f.push G1 H1 [p0]) G1 H1 fpB vs σ) fp5 (Dl :: q) := fun {G5 H5 σ5 E5 fp5} S5 => by
              obtain ⟨w5, k5, s5⟩ := SR.pushed w3 S5
              refine ⟨S3.pop S5, (k5 Dl List.mem_cons_self).2.trans hDl3, (k5 Dl List.mem_cons_self).1, RpL.mono s5 acc us q rl3 fun p hp => k5 p (List.mem_cons_of_mem _ hp), w5⟩
            rw [List.drop_eq_getElem_cons hlt] at eloop
            have eloop : (lcTurn vs g t re ds[i] E2 acc).bind (fun r => lcLoop vs g t re (ds.drop (i + 1)) (clr vs r.1) r.2) = .ok (Ef, accf) := eloop
            cases et : lcTurn vs g t re ds[i] E2 acc with
            | stuck => rw [et] at eloop; cases eloop
            | exc _ _ => rw [et] at eloop; cases eloop
            | ok rt =>
              obtain ⟨E6, acc6⟩ := rt
              rw [et] at eloop
              have eloop : lcLoop vs g t re (ds.drop (i + 1)) (clr vs E6) acc6 = .ok (Ef, accf) := eloop
              unfold lcTurn at et
              refine ⟨(blkFr (f.push G1 H1 [p0]) G1 H1 fpB vs σ).push G2 H' (Dl :: q), G2, E2, fp2, ds[i], [], rfl, rfl, S4, r3, .nil, ?_⟩
              cases eg : g ds[i] E2 with
              | none => rw [eg] at et; cases et
              | some E3 =>
                rw [eg] at et
                have et : (noX (t E3)).bind (fun b => if b.1 = true then (noX (re b.2.1)).bind fun o => lcStep acc o else .ok (b.2.1, acc)) = .ok (E6, acc6) := et
                intro σ5 G5 H5 fp5 S5
                refine ⟨wipe_eq S5.slen fun i hi => S5.pin i hi, ?_⟩
                refine ⟨(blkFr (f.push G1 H1 [p0]) G1 H1 fpB vs σ).push G2 H' (Dl :: q), G5, E3, fp5, rfl, S5, ?_⟩
                cases ett : t E3 with
                | stuck => rw [ett] at et; cases et
                | exc _ _ => rw [ett] at et; cases et
                | ok b =>
                  obtain ⟨b, E4, c4⟩ := b
                  rw [ett] at et
                  have et : (if b = true then (noX (re E4)).bind fun o => lcStep acc o else .ok (E4, acc)) = .ok (E6, acc6) := et
                  intro G6 H6 fp6 S6 k6
                  cases b with
                  | false =>
                    cases et
                    obtain ⟨S7, d7, g7, r7, w7⟩ := atD S6
                    exact ⟨G6, clr vs _, _, _, us, q, blk_turn S7, d7, g7, r7, w7.forget, eloop, fun i hi d => clr_in hi⟩
                  | true =>
                    have et : (noX (re E4)).bind (fun o => lcStep acc o) = .ok (E6, acc6) := et
                    refine ⟨(blkFr (f.push G1 H1 [p0]) G1 H1 fpB vs σ).push G2 H' (Dl :: q), G6, E4, fp6, rfl, S6, ?_⟩
                    cases er : re E4 with
                    | stuck => rw [er] at et; cases et
                    | exc _ _ => rw [er] at et; cases et
                    | ok o =>
                      obtain ⟨o, E5, c5⟩ := o
                      rw [er] at et
                      have et : lcStep acc (o, E5, c5) = .ok (E6, acc6) := et
                      intro v8 G8 H8 fp8 q8 S8 O8 w8 k8
                      unfold lcStep at et
                      cases ev : toVal o E5 with
                      | none => rw [show toVal (o, E5, c5).1 (o, E5, c5).2.1 = none from ev] at et; cases et
                      | some pv =>
                        obtain ⟨d, E7, c7⟩ := pv
                        rw [show toVal (o, E5, c5).1 (o, E5, c5).2.1 = some (d, E7, c7) from ev] at et
                        have et : (if acc.length < sizeLine then .ok (E7, acc ++ [d]) else .stuck) = (.ok (E6, acc6) : Rs (Env × List D)) := et
                        split at et
                        · rename_i hz
                          cases et
                          obtain ⟨G9, fp9, S9, s9, k9, b9, r9, z9⟩ := toVal_ok S8 O8 w8 ev
                          have w9 := w8.sub b9
                          obtain ⟨S10, d10, g10, r10, w10⟩ := atD S9
                          refine ⟨us, d10, by rw [r10.len']; exact hz, ?_⟩
                          -- the new item
                          have nDq8 : Dl ∉ q8 := fun z => w9.out Dl z (.inr List.mem_cons_self)
                          have nDq : Dl ∉ q := (List.nodup_cons.mp w10.nd).1
                          have dq : ∀ a ∈ q, a ∉ q8 := fun a ha z => w9.out a z (.inr (List.mem_cons_of_mem _ ha))
                          have w9' : Ow (blkFr (f.push G1 H1 [p0]) G1 H1 fpB vs σ) fp9 q8 := ⟨w9.nd, fun a ha z => w9.out a ha (.inl z), w9.sep⟩
                          have wq : Ow (blkFr (f.push G1 H1 [p0]) G1 H1 fpB vs σ) fp9 ((Dl :: q) ++ q8) := w10.append w9' fun a ha z => by
                            rcases List.mem_cons.mp ha with y | y
                            · exact nDq8 (y ▸ z)
                            · exact dq a y z
                          -- the list is written: it is nobody's but this frame's
                          have S11 : SR (blkFr (f.push G1 H1 [p0]) G1 H1 fpB vs σ) G9 (upd H8 Dl (.lst (us ++ [v8]))) σ5 E6 fp9 := by
                            refine ⟨S10.g0, fun a o h => ?_, fun a h => ?_, fun a o h z => ?_, S10.pin, S10.slen, S10.len, fun j d' e => ?_, S10.none_, S10.nd, S10.sep, S10.out, S10.tabU d10 trivial⟩
                            · have : a ≠ Dl := fun z => by rw [z, g10] at h; cases h
                              rw [upd_ne this]; exact S10.ex a o h
                            · have : a ≠ Dl := fun z => w10.out Dl List.mem_cons_self (z ▸ h)
                              rw [upd_ne this]; exact S10.fr a h
                            · by_cases ha : a = Dl
                              · subst ha; rw [upd_same] at h; cases h; cases z
                              · rw [upd_ne ha] at h; exact S10.stb a o h z
                            · obtain ⟨v, e1, r⟩ := S10.slot j d' e
                              exact ⟨v, e1, r.off fun z => w10.sep Dl List.mem_cons_self j z⟩
                          exact ⟨G9, clr vs E6, _, acc ++ [d], us ++ [v8], q ++ q8, blk_turn S11, upd_same, g10, RpL.append acc (r10.off nDq) (RpL.one.mpr (Rp.off r9 nDq8)), (by rw [← List.cons_append]; exact wq.forget), eloop, fun i hi d => clr_in hi⟩
                        · cases et
          · have e : i = ds.length := by omega
            subst e
            refine .inl ⟨⟨ys, .inl (.inl (atP S2)), by omega⟩, ?_⟩
            rw [List.drop_length] at eloop
            have eloop : (.ok (E2, acc) : Rs (Env × List D)) = .ok (Ef, accf) := eloop
            cases eloop
            obtain ⟨Sf, kf⟩ := blk_out SP S2 hown hlen
            have wD := kf _ w2
            obtain ⟨wp, kp, sg⟩ := SR.pushed wB Sf
            have S3 := (S.drop i0).pop Sf
            have rp : Rp f.K G2 H2 (.lst true ds) (.ref p0) [p0] := Rp.own_lst (kp p0 List.mem_cons_self).1 (atP S2) (RpL.mono sg ds ys [] rl0 fun a ha => nomatch ha)
            have S4 := S3.put (by rw [back_length, hlen, List.length_set]; exact hi0) eσ rp wp
            refine P (.ref Dl) G2 H2 _ (Dl :: q) S4 (Rp.own_lst gDl hDl rl) ⟨wD.nd, fun a ha z => wD.out a ha (.inl z), fun a ha j hj => ?_⟩ fun hc => nomatch hc
            have hj : a ∈ (if j = i0 then [p0] else _) := hj
            split at hj
            · exact wD.out a ha (.inr hj)
            · exact wD.sep a ha j hj
        · exact P.elim
    · exact P.elim
  · exact P.elim
@[simp] def rLcV (i0 : Nat) (vs : List Nat) (g : GvR) (t : TvR) (re : EvR) : EvR := fun E => match E[i0]? with
  | some (some (.lst true _)) => rLcB i0 vs g t re E
  | _ => rLc vs (rSeq (rVar i0)) g t re E
theorem _root_.L2.PE.both {X : Cx} {e : Expr} {t t' : TE} (h : PE X e t) (h' : PE X e t') : PE X e (fun σ H Q => t σ H Q ∨ t' σ H Q) := ⟨fun pins s σ H Q I w => w.elim (fun w => h.run pins s σ H Q I w) fun w => h'.run pins s σ H Q I w⟩
/-- [elt for target in name if ..] -/
theorem de_lcV {i0 : Nat} {elt tg iter : Expr} {ifs : List Expr} {scope : Scope} {own : List (Str × Nat)} {pos : Pos} {g : GvR} {t : TvR} {re : EvR} (ho : PE X iter (tVar i0)) (hc : X.calm = true) (hN : X.N.Nodup) (hi : DI X W tg iter (rSeq (rVar i0))) (ok : BlkOk X.N X.env.scope scope own)
    (hg : ∀ (s : Shared) (H : Hp) (C : Addr) (cl : List (Str × Addr)) (fp : List Addr), DG (X.blk s H scope (compEnvC scope cl C X.env) fp) (fun i => i ∉ own.map (·.2)) tg g) (ht : ∀ (s : Shared) (H : Hp) (C : Addr) (cl : List (Str × Addr)) (fp : List Addr), DTs (X.blk s H scope (compEnvC scope cl C X.env) fp) W0 ifs t)
    (he : ∀ (s : Shared) (H : Hp) (C : Addr) (cl : List (Str × Addr)) (fp : List Addr), DE (X.blk s H scope (compEnvC scope cl C X.env) fp) W0 elt re) (hs : ∀ x, foldedSetIterable iter X.env x = pure x := by intro _; rfl) :
    DE X W (.ListComp elt [⟨tg, iter, ifs, 0⟩] scope pos) (rLcV i0 (own.map (·.2)) g t re) :=
  ((pe_lc hc hN (pi_list ho) ok hg ht he hs).both (pe_lc hc hN hi ok hg ht he hs)).weak fun σ H Q h => by
    obtain ⟨f, G, E, fp, ek, S, P⟩ := h
    unfold rLcV at P
    split at P
    · exact .inl (tLcB_of σ H Q ⟨f, G, E, fp, ek, S, P⟩)
    · exact .inr (tLc_of σ H Q ⟨f, G, E, fp, ek, S, P⟩)
end
end DV

namespace K82
open PySem PySem.Spec PyProof.Rows L2 DV
def top (i : Nat) : Stmt := PySem.Challenge.pw_pledgedwatts_k82_bills_tick_by_tick.main.body.getD i (.Pass ⟨0, 0, 0, 0⟩)
abbrev st_applies : Stmt := top 2
abbrev st_counted : Stmt := top 3
abbrev st_events : Stmt := top 4
abbrev st_quantities : Stmt := top 5
abbrev st_total : Stmt := top 6
abbrev st_bill : Stmt := top 7
abbrev st__law_refill : Stmt := top 9
abbrev st__law_draw : Stmt := top 10
abbrev st__law_exact : Stmt := top 11
abbrev st__law_tariff : Stmt := top 12
abbrev st__law_course : Stmt := top 13
abbrev st__law_bill : Stmt := top 14
abbrev st_law : Stmt := top 15
abbrev FnP (K : PySem.W.Frag) (x : Str) (st : Stmt) (f : Addr) (fd : FuncData) : Prop := FunD K x x (defArgs st) (defBody st) (defScope st) [] [] f fd
abbrev N_applies : List Str := ["entry", "tick", "hour", "_", "first", "last"]
theorem sc_applies : FnScope N_applies ["entry", "tick"] (defScope st_applies) := ⟨rfl, rfl, rfl, by decide +kernel, rfl, by decide +kernel, by decide +kernel⟩
abbrev N_counted : List Str := ["entries", "kind", "tick", "index", "entry"]
theorem sc_counted : FnScope N_counted ["entries", "kind", "tick"] (defScope st_counted) := ⟨rfl, rfl, rfl, by decide +kernel, rfl, by decide +kernel, by decide +kernel⟩
abbrev N_events : List Str := ["course", "busy", "told", "begin", "draws", "grace", "at", "units", "tick"]
theorem sc_events : FnScope N_events ["course"] (defScope st_events) := ⟨rfl, rfl, rfl, by decide +kernel, rfl, by decide +kernel, by decide +kernel⟩
abbrev N_quantities : List Str := ["entries", "course", "told", "kind", "tick", "quantity", "index"]
theorem sc_quantities : FnScope N_quantities ["entries", "course"] (defScope st_quantities) := ⟨rfl, rfl, rfl, by decide +kernel, rfl, by decide +kernel, by decide +kernel⟩
abbrev N_total : List Str := ["lines", "_", "coins"]
theorem sc_total : FnScope N_total ["lines"] (defScope st_total) := ⟨rfl, rfl, rfl, by decide +kernel, rfl, by decide +kernel, by decide +kernel⟩
abbrev N_bill : List Str := ["tariff", "course", "lines", "base", "entries", "least", "most", "taxes", "index", "quantity", "_", "price", "step", "tax"]
theorem sc_bill : FnScope N_bill ["tariff", "course"] (defScope st_bill) := ⟨rfl, rfl, rfl, by decide +kernel, rfl, by decide +kernel, by decide +kernel⟩
abbrev N__law_refill : List Str := ["script", "k", "cell"]
theorem sc__law_refill : FnScope N__law_refill ["script", "k"] (defScope st__law_refill) := ⟨rfl, rfl, rfl, by decide +kernel, rfl, by decide +kernel, by decide +kernel⟩
abbrev N__law_draw : List Str := ["state", "script", "size", "digit"]
theorem sc__law_draw : FnScope N__law_draw ["state", "script", "size"] (defScope st__law_draw) := ⟨rfl, rfl, rfl, by decide +kernel, rfl, by decide +kernel, by decide +kernel⟩
abbrev N__law_exact : List Str := ["first", "second", "alike", "k"]
theorem sc__law_exact : FnScope N__law_exact ["first", "second"] (defScope st__law_exact) := ⟨rfl, rfl, rfl, by decide +kernel, rfl, by decide +kernel, by decide +kernel⟩
abbrev N__law_tariff : List Str := ["state", "script", "entries", "k", "least", "most", "taxes", "kind", "first", "last", "price", "step"]
theorem sc__law_tariff : FnScope N__law_tariff ["state", "script"] (defScope st__law_tariff) := ⟨rfl, rfl, rfl, by decide +kernel, rfl, by decide +kernel, by decide +kernel⟩
abbrev N__law_course : List Str := ["state", "script", "begin", "draws", "k"]
theorem sc__law_course : FnScope N__law_course ["state", "script", "begin"] (defScope st__law_course) := ⟨rfl, rfl, rfl, by decide +kernel, rfl, by decide +kernel, by decide +kernel⟩
abbrev N__law_bill : List Str := ["tariff", "course", "counts", "idle", "k", "lines", "j", "base", "entries", "least", "most", "taxes", "begin", "draws", "grace", "told", "hour", "edge", "kind", "many", "fits", "steps", "hours", "low", "high", "one"]
theorem sc__law_bill : FnScope N__law_bill ["tariff", "course"] (defScope st__law_bill) := ⟨rfl, rfl, rfl, by decide +kernel, rfl, by decide +kernel, by decide +kernel⟩
abbrev N_law : List Str := ["script", "state", "tariff", "k", "course", "given", "due", "told", "later", "more", "plain", "base", "least", "most", "near", "one"]
theorem sc_law : FnScope N_law ["script"] (defScope st_law) := ⟨rfl, rfl, rfl, by decide +kernel, rfl, by decide +kernel, by decide +kernel⟩
noncomputable def r_applies (n : Nat) : SvR :=
  (sSeq (sAsg (rVar 0) (gTupD 5 (gConsD (gSet 3) (gConsD (gSet 4) (gConsD (gSet 5) (gConsD (gSet 3) (gConsD (gSet 3) gNilD))))))) (sSeq (sSet 2 (r2 opMod (rVar 1) (rC (.int 24)))) (sRet (rIf (rTest (r2 opLtI (rVar 4) (rVar 5))) (rChain opLeI opLtI (rVar 4) (rVar 2) (rVar 5)) (rOrV (r2 opGeI (rVar 2) (rVar 4)) (r2 opLtI (rVar 2) (rVar 5)))))))
noncomputable def fs_applies : FS := ⟨2, none, fun ds => runDef (r_applies bigF) N_applies.length none ds⟩
@[simp] theorem fs_applies_n : fs_applies.n = 2 := rfl
@[simp] theorem fs_applies_mu : fs_applies.mu = none := rfl
noncomputable def lg_counted_1 : GvR :=
  (gTupD 2 (gConsD (gSet 3) (gConsD (gSet 4) gNilD)))
noncomputable def lb_counted_2 : SvR :=
  (sIf (rAnd (rTest (r2 opEq (rIx2 (rVar 4) (rC (.int 0))) (rVar 1))) (rTruth (rCall fs_applies (rCons (rVar 4) (rCons (rVar 2) rNil))))) (sRet (rMove 3)) sSkip)
noncomputable def r_counted (n : Nat) : SvR :=
  (sSeq (sFor (rEnum (rVar 0)) lg_counted_1 lb_counted_2) (sRet (rC .non)))
noncomputable def fs_counted : FS := ⟨3, none, fun ds => runDef (r_counted bigF) N_counted.length none ds⟩
@[simp] theorem fs_counted_n : fs_counted.n = 3 := rfl
@[simp] theorem fs_counted_mu : fs_counted.mu = none := rfl
noncomputable def cg_events_1 : GvR :=
  (gTupD 2 (gConsD (gSet 6) (gConsD (gSet 7) gNilD)))
noncomputable def ct_events_2 : TvR :=
  (rTest (r2 opGtI (rVar 7) (rC (.int 0))))
noncomputable def ce_events_3 : EvR :=
  (r2 opAdd (rVar 6) (rC (.int 1)))
noncomputable def lg_events_4 : GvR :=
  (gTupD 2 (gConsD (gSet 6) (gConsD (gSet 7) gNilD)))
noncomputable def lb_events_5 : SvR :=
  (sSeq (sSet 8 (r2 opAdd (rVar 3) (rVar 6))) (sSeq (sDrop (rMut muApp (rVar 2) (rCons (rTup (rCons (rC (.str "unit")) (rCons (rVar 8) (rCons (rVar 7) rNil)))) rNil))) (sIf (rTest (r2 opLtI (rVar 6) (rVar 1))) (sDrop (rMut muApp (rVar 2) (rCons (rTup (rCons (rC (.str "tick")) (rCons (rVar 8) (rCons (rC (.int 1)) rNil)))) rNil))) (sIf (rTest (r2 opGeI (rVar 6) (r2 opAdd (rVar 1) (rVar 5)))) (sDrop (rMut muApp (rVar 2) (rCons (rTup (rCons (rC (.str "blocked")) (rCons (rVar 8) (rCons (rC (.int 1)) rNil)))) rNil))) sSkip))))
noncomputable def r_events (n : Nat) : SvR :=
  (sSeq (sAsg (rVar 0) (gTupD 3 (gConsD (gSet 3) (gConsD (gSet 4) (gConsD (gSet 5) gNilD))))) (sSeq (sSet 1 (r2 opMaxD (rLc [6, 7] (rEnum (rVar 4)) cg_events_1 ct_events_2 ce_events_3) (rC (.int 0)))) (sSeq (sSet 2 (rLst (rCons (rTup (rCons (rC (.str "start")) (rCons (rVar 3) (rCons (rC (.int 1)) rNil)))) rNil))) (sSeq (sFor (rEnum (rVar 4)) lg_events_4 lb_events_5) (sRet (rMove 2))))))
noncomputable def fs_events : FS := ⟨1, none, fun ds => runDef (r_events bigF) N_events.length none ds⟩
@[simp] theorem fs_events_n : fs_events.n = 1 := rfl
@[simp] theorem fs_events_mu : fs_events.mu = none := rfl
noncomputable def lg_quantities_1 : GvR :=
  (gTupD 3 (gConsD (gSet 3) (gConsD (gSet 4) (gConsD (gSet 5) gNilD))))
noncomputable def lb_quantities_2 : SvR :=
  (sSeq (sSet 6 (rCall fs_counted (rCons (rVar 0) (rCons (rVar 3) (rCons (rVar 4) rNil))))) (sIf (rTest (r2 opNotN (rVar 6) (rC .non))) (sAugA 2 (fun i j => i + j) (.v 6) (.v 5)) sSkip))
noncomputable def r_quantities (n : Nat) : SvR :=
  (sSeq (sSet 2 (r2 opMulP (rLst (rCons (rC (.int 0)) rNil)) (rn bLen (rCons (rVar 0) rNil)))) (sSeq (sFor (rSeq (rCall fs_events (rCons (rVar 1) rNil))) lg_quantities_1 lb_quantities_2) (sRet (rMove 2))))
noncomputable def fs_quantities : FS := ⟨2, none, fun ds => runDef (r_quantities bigF) N_quantities.length none ds⟩
@[simp] theorem fs_quantities_n : fs_quantities.n = 2 := rfl
@[simp] theorem fs_quantities_mu : fs_quantities.mu = none := rfl
noncomputable def cg_total_1 : GvR :=
  (gTupD 4 (gConsD (gSet 1) (gConsD (gSet 1) (gConsD (gSet 1) (gConsD (gSet 2) gNilD)))))
noncomputable def ct_total_2 : TvR :=
  tYesD
noncomputable def ce_total_3 : EvR :=
  (rVar 2)
noncomputable def r_total (n : Nat) : SvR :=
  (sRet (rSumG [1, 1, 1, 2] (rSeq (rVar 0)) cg_total_1 ct_total_2 ce_total_3))
noncomputable def fs_total : FS := ⟨1, none, fun ds => runDef (r_total bigF) N_total.length none ds⟩
@[simp] theorem fs_total_n : fs_total.n = 1 := rfl
@[simp] theorem fs_total_mu : fs_total.mu = none := rfl
noncomputable def lg_bill_1 : GvR :=
  (gTupD 2 (gConsD (gSet 8) (gConsD (gSet 9) gNilD)))
noncomputable def lb_bill_2 : SvR :=
  (sSeq (sAsg (rIx2 (rVar 4) (rVar 8)) (gTupD 5 (gConsD (gSet 10) (gConsD (gSet 10) (gConsD (gSet 10) (gConsD (gSet 11) (gConsD (gSet 12) gNilD))))))) (sIf (rTest (r2 opGtI (rVar 9) (rC (.int 0)))) (sDrop (rMut muApp (rVar 2) (rCons (rTup (rCons (rC (.str "entry")) (rCons (rVar 8) (rCons (rVar 9) (rCons (r2 opMulP (rVar 11) (r1 opNeg (r2 opFdiv (r1 opNeg (rVar 9)) (rVar 12)))) rNil))))) rNil))) sSkip))
noncomputable def cg_bill_3 : GvR :=
  (gTupD 2 (gConsD (gSet 8) (gConsD (gSet 13) gNilD)))
noncomputable def ct_bill_4 : TvR :=
  tYesD
noncomputable def ce_bill_5 : EvR :=
  (rTup (rCons (rC (.str "tax")) (rCons (rVar 8) (rCons (rVar 3) (rCons (r2 opFdiv (r2 opMulP (rVar 3) (rVar 13)) (rC (.int 1000))) rNil)))))
noncomputable def r_bill (n : Nat) : SvR :=
  (sSeq (sAsg (rVar 0) (gTupD 4 (gConsD (gSet 4) (gConsD (gSet 5) (gConsD (gSet 6) (gConsD (gSet 7) gNilD)))))) (sSeq (sSet 2 (rLst rNil)) (sSeq (sFor (rEnum (rCall fs_quantities (rCons (rVar 4) (rCons (rVar 1) rNil)))) lg_bill_1 lb_bill_2) (sSeq (sIf (rTest (r2 opLtI (rCall fs_total (rCons (rVar 2) rNil)) (rVar 5))) (sDrop (rMut muApp (rVar 2) (rCons (rTup (rCons (rC (.str "least")) (rCons (rC (.int 0)) (rCons (rC (.int 0)) (rCons (r2 opSub (rVar 5) (rCall fs_total (rCons (rVar 2) rNil))) rNil))))) rNil))) (sIf (rTest (r2 opGtI (rCall fs_total (rCons (rVar 2) rNil)) (rVar 6))) (sDrop (rMut muApp (rVar 2) (rCons (rTup (rCons (rC (.str "most")) (rCons (rC (.int 0)) (rCons (rC (.int 0)) (rCons (r2 opSub (rVar 6) (rCall fs_total (rCons (rVar 2) rNil))) rNil))))) rNil))) sSkip)) (sSeq (sSet 3 (rCall fs_total (rCons (rVar 2) rNil))) (sRet (r2 opAdd (rVar 2) (rLc [8, 13] (rEnum (rVar 7)) cg_bill_3 ct_bill_4 ce_bill_5))))))))
noncomputable def fs_bill : FS := ⟨2, none, fun ds => runDef (r_bill bigF) N_bill.length none ds⟩
@[simp] theorem fs_bill_n : fs_bill.n = 2 := rfl
@[simp] theorem fs_bill_mu : fs_bill.mu = none := rfl
noncomputable def r__law_refill (n : Nat) : SvR :=
  (sSeq (sSet 2 (rC (.int 0))) (sSeq (sIf (rTruth (rVar 0)) (sSet 2 (rIx2 (rVar 0) (r2 opMod (rVar 1) (rn bLen (rCons (rVar 0) rNil))))) sSkip) (sSeq (sIf (rTest (r2 opLtI (rVar 2) (rC (.int 0)))) (sSet 2 (r2 opSub (rC (.int 1)) (r2 opMulP (rC (.int 2)) (rVar 2)))) sSkip) (sSeq (sIf (rAnd (rTest (r2 opGeI (rVar 2) (r2 opPow (rC (.int 10)) (rC (.int 18))))) (rTest (r2 opLtI (rVar 1) (rn bLen (rCons (rVar 0) rNil))))) (sRet (rMove 2)) sSkip) (sRet (r2 opMod (rn bInt (rCons (r2 opAdd (r2 opMulP (rn bInt (rCons (r2 opAdd (r2 opAdd (r2 opMulP (rVar 2) (rC (.int 48271))) (r2 opMulP (rVar 1) (rC (.int 69621)))) (rC (.int 12345))) rNil)) (rC (.int 40692))) (rC (.int 7))) rNil)) (rC (.int 2147483399))))))))
noncomputable def fs__law_refill : FS := ⟨2, none, fun ds => runDef (r__law_refill bigF) N__law_refill.length none ds⟩
@[simp] theorem fs__law_refill_n : fs__law_refill.n = 2 := rfl
@[simp] theorem fs__law_refill_mu : fs__law_refill.mu = none := rfl
noncomputable def r__law_draw (n : Nat) : SvR :=
  (sSeq (sIf (rTest (r2 opEq (rIx2 (rVar 0) (rC (.int 1))) (rC (.int 0)))) (sSeq (sAsg (rCall fs__law_refill (rCons (rVar 1) (rCons (rIx2 (rVar 0) (rC (.int 0))) rNil))) (gSubD (rVar 0) (rC (.int 1)))) (sAsg (r2 opAdd (rIx2 (rVar 0) (rC (.int 0))) (rC (.int 1))) (gSubD (rVar 0) (rC (.int 0))))) sSkip) (sSeq (sSet 3 (r2 opMod (rn bInt (rCons (rIx2 (rVar 0) (rC (.int 1))) rNil)) (rVar 2))) (sSeq (sAsg (r2 opFdiv (rIx2 (rVar 0) (rC (.int 1))) (rVar 2)) (gSubD (rVar 0) (rC (.int 1)))) (sRet (rMove 3)))))
noncomputable def fs__law_draw : FS := ⟨3, (some 0), fun ds => runDef (r__law_draw bigF) N__law_draw.length (some 0) ds⟩
@[simp] theorem fs__law_draw_n : fs__law_draw.n = 3 := rfl
@[simp] theorem fs__law_draw_mu : fs__law_draw.mu = (some 0) := rfl
noncomputable def cg__law_exact_1 : GvR :=
  (gSet 3)
noncomputable def ct__law_exact_2 : TvR :=
  tYesD
noncomputable def ce__law_exact_3 (self : FS) : EvR :=
  (rCall self (rCons (rIx2 (rVar 0) (rVar 3)) (rCons (rIx2 (rVar 1) (rVar 3)) rNil)))
noncomputable def r__law_exact (self : FS) (n : Nat) : SvR :=
  (sSeq (sIf (rTruth (r1 (opIsi2 .list .tuple) (rVar 0))) (sSeq (sIf (rOr (rTest (r2 opNe (r1 (opIsi .list) (rVar 0)) (r1 (opIsi .list) (rVar 1)))) (rTest (r2 opNe (r1 (opIsi .tuple) (rVar 0)) (r1 (opIsi .tuple) (rVar 1))))) (sRet (rC (.bl false))) sSkip) (sRet (rAndV (r2 opEq (rn bLen (rCons (rVar 0) rNil)) (rn bLen (rCons (rVar 1) rNil))) (rn bAll (rCons (rLc [3] (rRange1 (rCons (rn bLen (rCons (rVar 0) rNil)) rNil)) cg__law_exact_1 ct__law_exact_2 (ce__law_exact_3 self)) rNil))))) sSkip) (sSeq (sIf (rOr (rTest (r2 opIsN (rVar 0) (rC .non))) (rTest (r2 opIsN (rVar 1) (rC .non)))) (sRet (rAndV (r2 opIsN (rVar 0) (rC .non)) (r2 opIsN (rVar 1) (rC .non)))) sSkip) (sSeq (sSet 2 (rAndV (r2 opEq (r1 (opIsi .str) (rVar 0)) (r1 (opIsi .str) (rVar 1))) (r2 opEq (r1 (opIsi .bool) (rVar 0)) (r1 (opIsi .bool) (rVar 1))))) (sRet (rAndV (rVar 2) (rAndV (r2 opEq (r1 (opIsi .int) (rVar 0)) (r1 (opIsi .int) (rVar 1))) (r2 opEq (rVar 0) (rVar 1))))))))
noncomputable def fd__law_exact : Nat → FS
  | 0 => ⟨2, none, fun _ => .stuck⟩
  | d + 1 => ⟨2, none, fun ds => runDef (r__law_exact (fd__law_exact d) bigF) N__law_exact.length none ds⟩
@[simp] theorem fd__law_exact_n : ∀ d, (fd__law_exact d).n = 2
  | 0 => rfl
  | _ + 1 => rfl
@[simp] theorem fd__law_exact_mu : ∀ d, (fd__law_exact d).mu = none
  | 0 => rfl
  | _ + 1 => rfl
noncomputable def fs__law_exact : FS := fd__law_exact 8
@[simp] theorem fs__law_exact_n : fs__law_exact.n = 2 := rfl
@[simp] theorem fs__law_exact_mu : fs__law_exact.mu = none := rfl
noncomputable def lg__law_tariff_1 : GvR :=
  (gSet 3)
noncomputable def lb__law_tariff_2 : SvR :=
  (sSeq (sSet 7 (rIx2 (rLst (rCons (rC (.str "start")) (rCons (rC (.str "unit")) (rCons (rC (.str "tick")) (rCons (rC (.str "blocked")) (rCons (rC (.str "unit")) (rCons (rC (.str "tick")) rNil))))))) (rCall fs__law_draw (rCons (rVar 0) (rCons (rVar 1) (rCons (rC (.int 6)) rNil)))))) (sSeq (sSet 8 (rIx2 (rLst (rCons (rC (.int 0)) (rCons (rC (.int 0)) (rCons (rCall fs__law_draw (rCons (rVar 0) (rCons (rVar 1) (rCons (rC (.int 24)) rNil)))) (rCons (rC (.int 23)) rNil))))) (rCall fs__law_draw (rCons (rVar 0) (rCons (rVar 1) (rCons (rC (.int 4)) rNil)))))) (sSeq (sSet 9 (rIx2 (rLst (rCons (rC (.int 24)) (rCons (rVar 8) (rCons (rCall fs__law_draw (rCons (rVar 0) (rCons (rVar 1) (rCons (rC (.int 25)) rNil)))) (rCons (rC (.int 0)) rNil))))) (rCall fs__law_draw (rCons (rVar 0) (rCons (rVar 1) (rCons (rC (.int 4)) rNil)))))) (sSeq (sSet 10 (rIx2 (rLst (rCons (rCall fs__law_draw (rCons (rVar 0) (rCons (rVar 1) (rCons (rC (.int 100)) rNil)))) (rCons (rCall fs__law_draw (rCons (rVar 0) (rCons (rVar 1) (rCons (rC (.int 10000)) rNil)))) (rCons (rC (.int 0)) (rCons (rC (.int 9999)) rNil))))) (rCall fs__law_draw (rCons (rVar 0) (rCons (rVar 1) (rCons (rC (.int 4)) rNil)))))) (sSeq (sSet 11 (rIf (rTest (r2 opEq (rVar 7) (rC (.str "start")))) (rC (.int 1)) (rIx2 (rLst (rCons (rC (.int 1)) (rCons (rC (.int 20)) (rCons (r2 opAdd (rC (.int 1)) (rCall fs__law_draw (rCons (rVar 0) (rCons (rVar 1) (rCons (rC (.int 20)) rNil))))) (rCons (r2 opAdd (rC (.int 1)) (rCall fs__law_draw (rCons (rVar 0) (rCons (rVar 1) (rCons (rC (.int 5)) rNil))))) rNil))))) (rCall fs__law_draw (rCons (rVar 0) (rCons (rVar 1) (rCons (rC (.int 4)) rNil))))))) (sDrop (rMut muApp (rVar 2) (rCons (rTup (rCons (rVar 7) (rCons (rVar 8) (rCons (rVar 9) (rCons (rVar 10) (rCons (rVar 11) rNil)))))) rNil))))))))
noncomputable def cg__law_tariff_3 : GvR :=
  (gSet 3)
noncomputable def ct__law_tariff_4 : TvR :=
  tYesD
noncomputable def ce__law_tariff_5 : EvR :=
  (rIx2 (rLst (rCons (rC (.int 200)) (rCons (rCall fs__law_draw (rCons (rVar 0) (rCons (rVar 1) (rCons (rC (.int 1000)) rNil)))) (rCons (rC (.int 0)) (rCons (rC (.int 999)) rNil))))) (rCall fs__law_draw (rCons (rVar 0) (rCons (rVar 1) (rCons (rC (.int 4)) rNil)))))
noncomputable def r__law_tariff (n : Nat) : SvR :=
  (sSeq (sSet 2 (rLst rNil)) (sSeq (sFor (rRange1 (rCons (rIx2 (rLst (rCons (rC (.int 1)) (rCons (rC (.int 3)) (rCons (rC (.int 6)) (rCons (rC (.int 12)) (rCons (r2 opAdd (rC (.int 1)) (rCall fs__law_draw (rCons (rVar 0) (rCons (rVar 1) (rCons (rC (.int 12)) rNil))))) rNil)))))) (rCall fs__law_draw (rCons (rVar 0) (rCons (rVar 1) (rCons (rC (.int 5)) rNil))))) rNil)) lg__law_tariff_1 lb__law_tariff_2) (sSeq (sSet 4 (rIx2 (rLst (rCons (rC (.int 0)) (rCons (rC (.int 0)) (rCons (rCall fs__law_draw (rCons (rVar 0) (rCons (rVar 1) (rCons (rC (.int 500)) rNil)))) (rCons (rCall fs__law_draw (rCons (rVar 0) (rCons (rVar 1) (rCons (rC (.int 20000)) rNil)))) rNil))))) (rCall fs__law_draw (rCons (rVar 0) (rCons (rVar 1) (rCons (rC (.int 4)) rNil)))))) (sSeq (sSet 5 (r2 opAdd (rVar 4) (rIx2 (rLst (rCons (r2 opSub (rC (.int 999999)) (rVar 4)) (rCons (rCall fs__law_draw (rCons (rVar 0) (rCons (rVar 1) (rCons (rC (.int 5000)) rNil)))) (rCons (rC (.int 0)) (rCons (rCall fs__law_draw (rCons (rVar 0) (rCons (rVar 1) (rCons (rC (.int 900000)) rNil)))) rNil))))) (rCall fs__law_draw (rCons (rVar 0) (rCons (rVar 1) (rCons (rC (.int 4)) rNil))))))) (sSeq (sSet 6 (rn bTuple (rCons (rLc [3] (rRange1 (rCons (rCall fs__law_draw (rCons (rVar 0) (rCons (rVar 1) (rCons (rC (.int 4)) rNil)))) rNil)) cg__law_tariff_3 ct__law_tariff_4 ce__law_tariff_5) rNil))) (sRet (rTup (rCons (rn bTuple (rCons (rVar 2) rNil)) (rCons (rVar 4) (rCons (rn bMin (rCons (rC (.int 999999)) (rCons (rVar 5) rNil))) (rCons (rVar 6) rNil)))))))))))
noncomputable def fs__law_tariff : FS := ⟨2, (some 0), fun ds => runDef (r__law_tariff bigF) N__law_tariff.length (some 0) ds⟩
@[simp] theorem fs__law_tariff_n : fs__law_tariff.n = 2 := rfl
@[simp] theorem fs__law_tariff_mu : fs__law_tariff.mu = (some 0) := rfl
noncomputable def lg__law_course_1 : GvR :=
  (gSet 4)
noncomputable def lb__law_course_2 : SvR :=
  (sDrop (rMut muApp (rVar 3) (rCons (rIx2 (rLst (rCons (rC (.int 0)) (rCons (rC (.int 0)) (rCons (rCall fs__law_draw (rCons (rVar 0) (rCons (rVar 1) (rCons (rC (.int 100)) rNil)))) (rCons (r2 opAdd (rC (.int 1)) (rCall fs__law_draw (rCons (rVar 0) (rCons (rVar 1) (rCons (rC (.int 6)) rNil))))) rNil))))) (rCall fs__law_draw (rCons (rVar 0) (rCons (rVar 1) (rCons (rC (.int 4)) rNil))))) rNil)))
noncomputable def lg__law_course_3 : GvR :=
  (gSet 4)
noncomputable def lb__law_course_4 : SvR :=
  (sAsg (rC (.int 0)) (gSubD (rVar 3) (r2 opSub (r2 opSub (rn bLen (rCons (rVar 3) rNil)) (rC (.int 1))) (rVar 4))))
noncomputable def r__law_course (n : Nat) : SvR :=
  (sSeq (sSet 3 (rLst rNil)) (sSeq (sFor (rRange1 (rCons (rIx2 (rLst (rCons (rC (.int 0)) (rCons (rC (.int 1)) (rCons (rC (.int 30)) (rCons (rC (.int 96)) (rCons (rCall fs__law_draw (rCons (rVar 0) (rCons (rVar 1) (rCons (rC (.int 97)) rNil)))) rNil)))))) (rCall fs__law_draw (rCons (rVar 0) (rCons (rVar 1) (rCons (rC (.int 5)) rNil))))) rNil)) lg__law_course_1 lb__law_course_2) (sSeq (sFor (rRange1 (rCons (rn bMin (rCons (rn bLen (rCons (rVar 3) rNil)) (rCons (rIx2 (rLst (rCons (rC (.int 0)) (rCons (rC (.int 3)) (rCons (rC (.int 10)) (rCons (rC (.int 96)) (rCons (rCall fs__law_draw (rCons (rVar 0) (rCons (rVar 1) (rCons (rC (.int 40)) rNil)))) rNil)))))) (rCall fs__law_draw (rCons (rVar 0) (rCons (rVar 1) (rCons (rC (.int 5)) rNil))))) rNil))) rNil)) lg__law_course_3 lb__law_course_4) (sRet (rTup (rCons (rVar 2) (rCons (rVar 3) (rCons (rIx2 (rLst (rCons (rC (.int 0)) (rCons (rC (.int 1)) (rCons (rCall fs__law_draw (rCons (rVar 0) (rCons (rVar 1) (rCons (rC (.int 12)) rNil)))) (rCons (rC (.int 96)) rNil))))) (rCall fs__law_draw (rCons (rVar 0) (rCons (rVar 1) (rCons (rC (.int 4)) rNil))))) rNil))))))))
noncomputable def fs__law_course : FS := ⟨3, (some 0), fun ds => runDef (r__law_course bigF) N__law_course.length (some 0) ds⟩
@[simp] theorem fs__law_course_n : fs__law_course.n = 3 := rfl
@[simp] theorem fs__law_course_mu : fs__law_course.mu = (some 0) := rfl
noncomputable def wt__law_bill_1 : TvR :=
  (rAnd (rTest (r2 opLtI (rVar 3) (rn bLen (rCons (rVar 13) rNil)))) (rTest (r2 opEq (rIx2 (rVar 13) (r2 opSub (r2 opSub (rn bLen (rCons (rVar 13) rNil)) (rC (.int 1))) (rVar 3))) (rC (.int 0)))))
noncomputable def wb__law_bill_2 : SvR :=
  (sSet 3 (r2 opAdd (rVar 3) (rC (.int 1))))
noncomputable def lg__law_bill_3 : GvR :=
  (gSet 6)
noncomputable def lb__law_bill_4 : SvR :=
  (sSeq (sPar 23 24 (rCons (rIx2 (rIx2 (rVar 8) (rVar 6)) (rC (.int 1))) (rCons (rIx2 (rIx2 (rVar 8) (rVar 6)) (rC (.int 2))) rNil))) (sSeq (sSet 22 (rIf (rTest (r2 opLtI (rVar 23) (rVar 24))) (r2 opLr2 (rVar 23) (rVar 24)) (r2 opAdd (r2 opLr2 (rVar 23) (rC (.int 24))) (r1 opLr1 (rVar 24))))) (sIf (rAnd (rTest (r2 opEq (rIx2 (rIx2 (rVar 8) (rVar 6)) (rC (.int 0))) (rVar 18))) (rTest (r2 (opIn false) (rVar 16) (rVar 22)))) (sDrop (rMut muApp (rVar 20) (rCons (rVar 6) rNil))) sSkip)))
noncomputable def lg__law_bill_5 : GvR :=
  (gTupD 2 (gConsD (gSet 18) (gConsD (gSet 19) gNilD)))
noncomputable def lb__law_bill_6 : SvR :=
  (sSeq (sSet 20 (rLst rNil)) (sSeq (sFor (rRange1 (rCons (rn bLen (rCons (rVar 8) rNil)) rNil)) lg__law_bill_3 lb__law_bill_4) (sIf (rTruth (rVar 20)) (sAsg (r2 opAdd (rIx2 (rVar 2) (rIx2 (rVar 20) (rC (.int 0)))) (rVar 19)) (gSubD (rVar 2) (rIx2 (rVar 20) (rC (.int 0))))) sSkip)))
noncomputable def lg__law_bill_7 : GvR :=
  (gSet 4)
noncomputable def lb__law_bill_8 : SvR :=
  (sSeq (sSet 15 (rLst (rCons (rTup (rCons (rC (.str "start")) (rCons (rC (.int 1)) rNil))) rNil))) (sSeq (sIf (rTest (r2 opGeI (rVar 4) (rC (.int 0)))) (sSeq (sSet 15 (rLst (rCons (rTup (rCons (rC (.str "unit")) (rCons (rIx2 (rVar 13) (rVar 4)) rNil))) rNil))) (sIf (rTest (r2 opLtI (rVar 4) (r2 opSub (rn bLen (rCons (rVar 13) rNil)) (rVar 3)))) (sDrop (rMut muApp (rVar 15) (rCons (rTup (rCons (rC (.str "tick")) (rCons (rC (.int 1)) rNil))) rNil))) (sIf (rTest (r2 opGeI (rVar 4) (r2 opAdd (r2 opSub (rn bLen (rCons (rVar 13) rNil)) (rVar 3)) (rVar 14)))) (sDrop (rMut muApp (rVar 15) (rCons (rTup (rCons (rC (.str "blocked")) (rCons (rC (.int 1)) rNil))) rNil))) sSkip))) sSkip) (sSeq (sSet 16 (r2 opMod (r2 opAdd (rVar 12) (rn bMax (rCons (rC (.int 0)) (rCons (rVar 4) rNil)))) (rC (.int 24)))) (sFor (rSeq (rVar 15)) lg__law_bill_5 lb__law_bill_6))))
noncomputable def lg__law_bill_9 : GvR :=
  (gSet 6)
noncomputable def lb__law_bill_10 : SvR :=
  (sIf (rTest (r2 opGtI (rIx2 (rVar 2) (rVar 6)) (rC (.int 0)))) (sSeq (sSet 21 (r2 opFdiv (r2 opSub (r2 opAdd (rIx2 (rVar 2) (rVar 6)) (rIx2 (rIx2 (rVar 8) (rVar 6)) (rC (.int 4)))) (rC (.int 1))) (rIx2 (rIx2 (rVar 8) (rVar 6)) (rC (.int 4))))) (sDrop (rMut muApp (rVar 5) (rCons (rTup (rCons (rC (.str "entry")) (rCons (rVar 6) (rCons (rIx2 (rVar 2) (rVar 6)) (rCons (r2 opMulP (rIx2 (rIx2 (rVar 8) (rVar 6)) (rC (.int 3))) (rVar 21)) rNil))))) rNil)))) sSkip)
noncomputable def cg__law_bill_11 : GvR :=
  (gSet 25)
noncomputable def ct__law_bill_12 : TvR :=
  tYesD
noncomputable def ce__law_bill_13 : EvR :=
  (rIx2 (rVar 25) (rC (.int 3)))
noncomputable def lg__law_bill_14 : GvR :=
  (gSet 6)
noncomputable def lb__law_bill_15 : SvR :=
  (sDrop (rMut muApp (rVar 5) (rCons (rTup (rCons (rC (.str "tax")) (rCons (rVar 6) (rCons (rVar 7) (rCons (r2 opFdiv (r2 opSub (r2 opMulP (rVar 7) (rIx2 (rVar 11) (rVar 6))) (r2 opMod (r2 opMulP (rVar 7) (rIx2 (rVar 11) (rVar 6))) (rC (.int 1000)))) (rC (.int 1000))) rNil))))) rNil)))
noncomputable def r__law_bill (n : Nat) : SvR :=
  (sSeq (sAsg (rVar 0) (gTupD 4 (gConsD (gSet 8) (gConsD (gSet 9) (gConsD (gSet 10) (gConsD (gSet 11) gNilD)))))) (sSeq (sAsg (rVar 1) (gTupD 3 (gConsD (gSet 12) (gConsD (gSet 13) (gConsD (gSet 14) gNilD))))) (sSeq (sSet 2 (r2 opMulP (rLst (rCons (rC (.int 0)) rNil)) (rn bLen (rCons (rVar 8) rNil)))) (sSeq (sSet 3 (rC (.int 0))) (sSeq (sWhile wt__law_bill_1 wb__law_bill_2 n) (sSeq (sFor (rRange2 (rCons (r1 opNeg (rC (.int 1))) (rCons (rn bLen (rCons (rVar 13) rNil)) rNil))) lg__law_bill_7 lb__law_bill_8) (sSeq (sSet 5 (rLst rNil)) (sSeq (sFor (rRange1 (rCons (rn bLen (rCons (rVar 8) rNil)) rNil)) lg__law_bill_9 lb__law_bill_10) (sSeq (sSet 7 (rn bSum (rCons (rLcV 5 [25] cg__law_bill_11 ct__law_bill_12 ce__law_bill_13) rNil))) (sSeq (sIf (rOr (rTest (r2 opLtI (rVar 7) (rVar 9))) (rTest (r2 opGtI (rVar 7) (rVar 10)))) (sSeq (sSet 17 (rIf (rTest (r2 opLtI (rVar 7) (rVar 9))) (rVar 9) (rVar 10))) (sSeq (sDrop (rMut muApp (rVar 5) (rCons (rTup (rCons (rIf (rTest (r2 opLtI (rVar 7) (rVar 9))) (rC (.str "least")) (rC (.str "most"))) (rCons (rC (.int 0)) (rCons (rC (.int 0)) (rCons (r2 opSub (rVar 17) (rVar 7)) rNil))))) rNil))) (sSet 7 (rVar 17)))) sSkip) (sSeq (sFor (rRange1 (rCons (rn bLen (rCons (rVar 11) rNil)) rNil)) lg__law_bill_14 lb__law_bill_15) (sRet (rMove 5)))))))))))))
noncomputable def fs__law_bill : FS := ⟨2, none, fun ds => runDef (r__law_bill bigF) N__law_bill.length none ds⟩
@[simp] theorem fs__law_bill_n : fs__law_bill.n = 2 := rfl
@[simp] theorem fs__law_bill_mu : fs__law_bill.mu = none := rfl
noncomputable def cg_law_1 : GvR :=
  (gSet 15)
noncomputable def ct_law_2 : TvR :=
  tYesD
noncomputable def ce_law_3 : EvR :=
  (rIx2 (rVar 15) (rC (.int 3)))
noncomputable def cg_law_4 : GvR :=
  (gSet 15)
noncomputable def ct_law_5 : TvR :=
  tYesD
noncomputable def ce_law_6 : EvR :=
  (rIx2 (rVar 15) (rC (.int 3)))
noncomputable def lg_law_7 : GvR :=
  (gTupD 2 (gConsD (gSet 12) (gConsD (gSet 13) gNilD)))
noncomputable def lb_law_8 : SvR :=
  (sIf (rTest (rChain opLeI opLeI (rVar 12) (rVar 13) (rC (.int 999999)))) (sSeq (sSet 14 (rTup (rCons (rIx2 (rVar 2) (rC (.int 0))) (rCons (rVar 12) (rCons (rVar 13) (rCons (rIx2 (rVar 2) (rC (.int 3))) rNil)))))) (sIf (rNot (rTruth (rCall fs__law_exact (rCons (rCall fs__law_bill (rCons (rVar 14) (rCons (rVar 4) rNil))) (rCons (rCall fs_bill (rCons (rVar 14) (rCons (rVar 5) rNil))) rNil))))) (sRet (rC (.bl false))) sSkip)) sSkip)
noncomputable def lg_law_9 : GvR :=
  (gSet 3)
noncomputable def lb_law_10 : SvR :=
  (sSeq (sSet 4 (rCall fs__law_course (rCons (rVar 1) (rCons (rVar 0) (rCons (rIx2 (rLst (rCons (rC (.int 0)) (rCons (rC (.int 23)) (rCons (rCall fs__law_draw (rCons (rVar 1) (rCons (rVar 0) (rCons (rC (.int 24)) rNil)))) (rCons (rCall fs__law_draw (rCons (rVar 1) (rCons (rVar 0) (rCons (rC (.int 976)) rNil)))) rNil))))) (rCall fs__law_draw (rCons (rVar 1) (rCons (rVar 0) (rCons (rC (.int 4)) rNil))))) rNil))))) (sSeq (sSet 5 (rTup (rCons (rIx2 (rVar 4) (rC (.int 0))) (rCons (rn bList (rCons (rIx2 (rVar 4) (rC (.int 1))) rNil)) (rCons (rIx2 (rVar 4) (rC (.int 2))) rNil))))) (sSeq (sSet 6 (rCall fs__law_bill (rCons (rVar 2) (rCons (rVar 4) rNil)))) (sSeq (sSet 7 (rCall fs_bill (rCons (rVar 2) (rCons (rVar 5) rNil)))) (sSeq (sIf (rOr (rNot (rTruth (rCall fs__law_exact (rCons (rVar 6) (rCons (rVar 7) rNil))))) (rOr (rNot (rTruth (rCall fs__law_exact (rCons (rn bSum (rCons (rLcV 6 [15] cg_law_1 ct_law_2 ce_law_3) rNil)) (rCons (rCall fs_total (rCons (rVar 7) rNil)) rNil))))) (rTest (r2 opNe (rVar 5) (rVar 4))))) (sRet (rC (.bl false))) sSkip) (sSeq (sSet 8 (rCall fs_bill (rCons (rVar 2) (rCons (rTup (rCons (r2 opAdd (rIx2 (rVar 4) (rC (.int 0))) (rC (.int 24))) (rCons (rn bList (rCons (rIx2 (rVar 4) (rC (.int 1))) rNil)) (rCons (rIx2 (rVar 4) (rC (.int 2))) rNil)))) rNil)))) (sSeq (sIf (rNot (rTruth (rCall fs__law_exact (rCons (rVar 6) (rCons (rVar 8) rNil))))) (sRet (rC (.bl false))) sSkip) (sSeq (sSet 9 (rIf (rTest (r2 opLtI (rIx2 (rVar 4) (rC (.int 2))) (rC (.int 96)))) (rCall fs_bill (rCons (rVar 2) (rCons (rTup (rCons (rIx2 (rVar 4) (rC (.int 0))) (rCons (rn bList (rCons (rIx2 (rVar 4) (rC (.int 1))) rNil)) (rCons (r2 opAdd (rIx2 (rVar 4) (rC (.int 2))) (rC (.int 1))) rNil)))) rNil))) (rVar 6))) (sSeq (sIf (rTest (r2 opGtI (rCall fs_total (rCons (rVar 9) rNil)) (rCall fs_total (rCons (rVar 7) rNil)))) (sRet (rC (.bl false))) sSkip) (sSeq (sSet 10 (rTup (rCons (rIx2 (rVar 2) (rC (.int 0))) (rCons (rC (.int 0)) (rCons (rC (.int 999999)) (rCons (rTup rNil) rNil)))))) (sSeq (sSet 11 (rn bSum (rCons (rLc [15] (rSeq (rCall fs__law_bill (rCons (rVar 10) (rCons (rVar 4) rNil)))) cg_law_4 ct_law_5 ce_law_6) rNil))) (sSeq (sFor (rSeq (rLst (rCons (rTup (rCons (rVar 11) (rCons (rVar 11) rNil))) (rCons (rTup (rCons (r2 opAdd (rVar 11) (rC (.int 1))) (rCons (rC (.int 999999)) rNil))) (rCons (rTup (rCons (rC (.int 0)) (rCons (rn bMax (rCons (rC (.int 0)) (rCons (r2 opSub (rVar 11) (rC (.int 1))) rNil))) rNil))) (rCons (rTup (rCons (rC (.int 0)) (rCons (rVar 11) rNil))) rNil)))))) lg_law_7 lb_law_8) (sSeq (sDrop (rMut muApp (rVar 7) (rCons (rTup (rCons (rC (.str "late")) (rCons (rC (.int 0)) (rCons (rC (.int 0)) (rCons (rC (.int 1)) rNil))))) rNil))) (sIf (rNot (rTruth (rCall fs__law_exact (rCons (rVar 6) (rCons (rCall fs_bill (rCons (rVar 2) (rCons (rVar 5) rNil))) rNil))))) (sRet (rC (.bl false))) sSkip))))))))))))))
noncomputable def r_law (n : Nat) : SvR :=
  (sSeq (sSet 1 (rLst (rCons (rC (.int 0)) (rCons (rC (.int 0)) rNil)))) (sSeq (sSet 2 (rCall fs__law_tariff (rCons (rVar 1) (rCons (rVar 0) rNil)))) (sSeq (sFor (rRange1 (rCons (rC (.int 3)) rNil)) lg_law_9 lb_law_10) (sRet (rCall fs__law_exact (rCons (rC (.int 0)) (rCons (rCall fs_total (rCons (rLst rNil) rNil)) rNil)))))))
noncomputable def fs_law : FS := ⟨1, none, fun ds => runDef (r_law bigF) N_law.length none ds⟩
@[simp] theorem fs_law_n : fs_law.n = 1 := rfl
@[simp] theorem fs_law_mu : fs_law.mu = none := rfl
section
variable [Tb] {P : Program} {w : World} {K : PySem.W.Frag} {mg : Str → Option Value} {base : Heap} {f : Addr} {fd : FuncData}
theorem ok_applies (F : FnP K "applies" st_applies f fd) (gf : mg "applies" = some (.ref f)) (i_DAY : ∃ t, mg "DAY" = some (.int 24 t)) : Cal P w K mg base 1 "applies" ["entry", "tick"] fs_applies := by
  refine ⟨f, fd, fnD F sc_applies r_applies rfl (by decide) (fun _ h => nomatch h) (fun cdv hcd A outer sh H E hr n => ?_) (fun ds _ _ => ⟨bigF, rfl⟩), F.kp, F.bindsN fun _ _ _ _ _ _ us hl => match us, hl with | [_, _], _ => rfl, gf⟩
  exact (dss_cons (ds_asg (de_var (pv 0)) (dg_tup rfl (dgs_cons (dg_name (i := 3) (fun h => nomatch (show (none : Option Nat) = some 3 from h)) sc_applies.nd rfl (by first | exact .inl rfl | exact .inr rfl)) (dgs_cons (dg_name (i := 4) (fun h => nomatch (show (none : Option Nat) = some 4 from h)) sc_applies.nd rfl (by first | exact .inl rfl | exact .inr rfl)) (dgs_cons (dg_name (i := 5) (fun h => nomatch (show (none : Option Nat) = some 5 from h)) sc_applies.nd rfl (by first | exact .inl rfl | exact .inr rfl)) (dgs_cons (dg_name (i := 3) (fun h => nomatch (show (none : Option Nat) = some 3 from h)) sc_applies.nd rfl (by first | exact .inl rfl | exact .inr rfl)) (dgs_cons (dg_name (i := 3) (fun h => nomatch (show (none : Option Nat) = some 3 from h)) sc_applies.nd rfl (by first | exact .inl rfl | exact .inr rfl)) dgs_nil)))))))
      (dss_cons (ds_set (i := 2) (fun h => nomatch (show (none : Option Nat) = some 2 from h)) sc_applies.nd rfl (by first | exact .inl rfl | exact .inr rfl) (de_op op_mod rp_mod (de_var (pv 1)) (de_gint rfl i_DAY)))
      (dss_one (ds_ret (de_if (dt_cmp op_lt rp_ltI (de_var (pv 4)) (de_var (pv 5)) (nomark _)) (de_chain op_le rp_leI op_lt rp_ltI (de_var (pv 4)) (de_var (pv 2)) (de_var (pv 5))) (de_or (de_cmp op_ge rp_geI (de_var (pv 2)) (de_var (pv 4)) (nomark _)) (de_one (de_cmp op_lt rp_ltI (de_var (pv 2)) (de_var (pv 5)) (nomark _)))))))))
theorem ok_counted (F : FnP K "counted" st_counted f fd) (gf : mg "counted" = some (.ref f)) (n_enumerate : mg "enumerate" = none)
    (C_applies : Cal P w K mg base 1 "applies" ["entry", "tick"] fs_applies) : Cal P w K mg base 2 "counted" ["entries", "kind", "tick"] fs_counted := by
  obtain ⟨g_applies, d_applies, G_applies, k_applies, b_applies, m_applies⟩ := C_applies
  refine ⟨f, fd, fnD F sc_counted r_counted rfl (by decide) (fun _ h => nomatch h) (fun cdv hcd A outer sh H E hr n => ?_) (fun ds _ _ => ⟨bigF, rfl⟩), F.kp, F.bindsN fun _ _ _ _ _ _ us hl => match us, hl with | [_, _, _], _ => rfl, gf⟩
  exact (dss_cons (ds_for (passes_of rfl) rfl (di_enum rfl n_enumerate (de_var (pv 0))) (dg_tup rfl (dgs_cons (dg_name (i := 3) (fun h => nomatch (show (none : Option Nat) = some 3 from h)) sc_counted.nd rfl (by first | exact .inl rfl | exact .inr rfl)) (dgs_cons (dg_name (i := 4) (fun h => nomatch (show (none : Option Nat) = some 4 from h)) sc_counted.nd rfl (by first | exact .inl rfl | exact .inr rfl)) dgs_nil))) (dss_one (ds_if (dt_of (dw_and (dt_cmp (op_eqD hr.units) rp_eq (de_ix (de_var (pv 4)) de_int) (de_var (pv 1)) (nomark _)) (dw_and1 (dt_truth (de_call (G_applies.mono (by omega)) hr rfl m_applies k_applies b_applies (takes_of rfl rfl rfl rfl) (da_cons (de_var (pv 4)) (da_cons (de_var (pv 2)) da_nil))))))) (dss_one (ds_ret (de_move (pv 3)))) dss_nil)))
      (dss_one (ds_ret de_non)))
theorem ok_events (F : FnP K "events" st_events f fd) (gf : mg "events" = some (.ref f)) (n_enumerate : mg "enumerate" = none) (n_max : mg "max" = none) : Cal P w K mg base 1 "events" ["course"] fs_events := by
  refine ⟨f, fd, fnD F sc_events r_events rfl (by decide) (fun _ h => nomatch h) (fun cdv hcd A outer sh H E hr n => ?_) (fun ds _ _ => ⟨bigF, rfl⟩), F.kp, F.bindsN fun _ _ _ _ _ _ us hl => match us, hl with | [_], _ => rfl, gf⟩
  exact (dss_cons (ds_asg (de_var (pv 0)) (dg_tup rfl (dgs_cons (dg_name (i := 3) (fun h => nomatch (show (none : Option Nat) = some 3 from h)) sc_events.nd rfl (by first | exact .inl rfl | exact .inr rfl)) (dgs_cons (dg_name (i := 4) (fun h => nomatch (show (none : Option Nat) = some 4 from h)) sc_events.nd rfl (by first | exact .inl rfl | exact .inr rfl)) (dgs_cons (dg_name (i := 5) (fun h => nomatch (show (none : Option Nat) = some 5 from h)) sc_events.nd rfl (by first | exact .inl rfl | exact .inr rfl)) dgs_nil)))))
      (dss_cons (ds_set (i := 1) (fun h => nomatch (show (none : Option Nat) = some 1 from h)) sc_events.nd rfl (by first | exact .inl rfl | exact .inr rfl) (de_maxD rfl rfl n_max boot_max (de_lc (own := [("at", 6), ("units", 7)]) rfl sc_events.nd (di_enum rfl n_enumerate (de_var (pv 4))) (blkOk_by (N := N_events) (sc := defScope st_events) (by decide +kernel)) (fun _ _ _ _ _ => (dg_tup rfl (dgs_cons (dg_name (i := 6) (fun h => h (.head _)) sc_events.nd rfl (by first | exact .inl rfl | exact .inr rfl)) (dgs_cons (dg_name (i := 7) (fun h => h (.tail _ (.head _))) sc_events.nd rfl (by first | exact .inl rfl | exact .inr rfl)) dgs_nil)))) (fun _ _ _ _ _ => (dts_one (dt_cmp op_gt rp_gtI (de_var (pv 7)) de_int (nomark _)))) (fun _ _ _ _ _ => (de_op op_addP rp_add (de_var (pv 6)) de_int))) de_int))
      (dss_cons (ds_set (i := 2) (fun h => nomatch (show (none : Option Nat) = some 2 from h)) sc_events.nd rfl (by first | exact .inl rfl | exact .inr rfl) (de_lst (da_cons (de_tup (da_cons de_str (da_cons (de_var (pv 3)) (da_cons de_int da_nil)))) da_nil)))
      (dss_cons (ds_for (passes_of rfl) rfl (di_enum rfl n_enumerate (de_var (pv 4))) (dg_tup rfl (dgs_cons (dg_name (i := 6) (fun h => nomatch (show (none : Option Nat) = some 6 from h)) sc_events.nd rfl (by first | exact .inl rfl | exact .inr rfl)) (dgs_cons (dg_name (i := 7) (fun h => nomatch (show (none : Option Nat) = some 7 from h)) sc_events.nd rfl (by first | exact .inl rfl | exact .inr rfl)) dgs_nil))) (dss_cons (ds_set (i := 8) (fun h => nomatch (show (none : Option Nat) = some 8 from h)) sc_events.nd rfl (by first | exact .inl rfl | exact .inr rfl) (de_op op_addP rp_add (de_var (pv 3)) (de_var (pv 6))))
      (dss_cons (ds_expr (de_mut PySem.F.plainAttrs_list PySem.F.slot_list_append PySem.F.type_list_append mt_append rm_app (de_var (pv 2)) (da_cons (de_tup (da_cons de_str (da_cons (de_var (pv 8)) (da_cons (de_var (pv 7)) da_nil)))) da_nil)))
      (dss_one (ds_if (dt_cmp op_lt rp_ltI (de_var (pv 6)) (de_var (pv 1)) (nomark _)) (dss_one (ds_expr (de_mut PySem.F.plainAttrs_list PySem.F.slot_list_append PySem.F.type_list_append mt_append rm_app (de_var (pv 2)) (da_cons (de_tup (da_cons de_str (da_cons (de_var (pv 8)) (da_cons de_int da_nil)))) da_nil)))) (dss_one (ds_if (dt_cmp op_ge rp_geI (de_var (pv 6)) (de_op op_addP rp_add (de_var (pv 1)) (de_var (pv 5))) (nomark _)) (dss_one (ds_expr (de_mut PySem.F.plainAttrs_list PySem.F.slot_list_append PySem.F.type_list_append mt_append rm_app (de_var (pv 2)) (da_cons (de_tup (da_cons de_str (da_cons (de_var (pv 8)) (da_cons de_int da_nil)))) da_nil)))) dss_nil)))))))
      (dss_one (ds_ret (de_move (pv 2))))))))
theorem ok_quantities (F : FnP K "quantities" st_quantities f fd) (gf : mg "quantities" = some (.ref f)) (n_len : mg "len" = none)
    (C_events : Cal P w K mg base 1 "events" ["course"] fs_events)
    (C_counted : Cal P w K mg base 2 "counted" ["entries", "kind", "tick"] fs_counted) : Cal P w K mg base 3 "quantities" ["entries", "course"] fs_quantities := by
  obtain ⟨g_events, d_events, G_events, k_events, b_events, m_events⟩ := C_events
  obtain ⟨g_counted, d_counted, G_counted, k_counted, b_counted, m_counted⟩ := C_counted
  refine ⟨f, fd, fnD F sc_quantities r_quantities rfl (by decide) (fun _ h => nomatch h) (fun cdv hcd A outer sh H E hr n => ?_) (fun ds _ _ => ⟨bigF, rfl⟩), F.kp, F.bindsN fun _ _ _ _ _ _ us hl => match us, hl with | [_, _], _ => rfl, gf⟩
  exact (dss_cons (ds_set (i := 2) (fun h => nomatch (show (none : Option Nat) = some 2 from h)) sc_quantities.nd rfl (by first | exact .inl rfl | exact .inr rfl) (de_op op_mulP rp_mulP (de_lst (da_cons de_int da_nil)) (de_callB DV.call_len rp_len rfl n_len boot_len (da_cons (de_var (pv 0)) da_nil))))
      (dss_cons (ds_for (passes_of rfl) rfl (di_seq (de_call (G_events.mono (by omega)) hr rfl m_events k_events b_events (takes_of rfl rfl rfl rfl) (da_cons (de_var (pv 1)) da_nil))) (dg_tup rfl (dgs_cons (dg_name (i := 3) (fun h => nomatch (show (none : Option Nat) = some 3 from h)) sc_quantities.nd rfl (by first | exact .inl rfl | exact .inr rfl)) (dgs_cons (dg_name (i := 4) (fun h => nomatch (show (none : Option Nat) = some 4 from h)) sc_quantities.nd rfl (by first | exact .inl rfl | exact .inr rfl)) (dgs_cons (dg_name (i := 5) (fun h => nomatch (show (none : Option Nat) = some 5 from h)) sc_quantities.nd rfl (by first | exact .inl rfl | exact .inr rfl)) dgs_nil)))) (dss_cons (ds_set (i := 6) (fun h => nomatch (show (none : Option Nat) = some 6 from h)) sc_quantities.nd rfl (by first | exact .inl rfl | exact .inr rfl) (de_call (G_counted.mono (by omega)) hr rfl m_counted k_counted b_counted (takes_of rfl rfl rfl rfl) (da_cons (de_var (pv 0)) (da_cons (de_var (pv 3)) (da_cons (de_var (pv 4)) da_nil)))))
      (dss_one (ds_if (dt_cmp op_notN rp_notN (de_var (pv 6)) de_non (nomark _)) (dss_one (ds_augA (a := (.v 6)) (b := (.v 5)) (fun h => nomatch (show (none : Option Nat) = some 2 from h)) (pv 2) (pv 6) (pv 5) ip_add)) dss_nil))))
      (dss_one (ds_ret (de_move (pv 2))))))
theorem ok_total (F : FnP K "total" st_total f fd) (gf : mg "total" = some (.ref f)) (n_sum : mg "sum" = none)
    (tb : TabF base mg fd) : Cal P w K mg base 2 "total" ["lines"] fs_total := by
  obtain ⟨tc, tP, e_tc, TBc, hTP⟩ := tb
  refine ⟨f, fd, fnD F sc_total r_total rfl (by decide) (fun _ h => nomatch h) (fun cdv hcd A outer sh H E hr n => ?_) (fun ds _ _ => ⟨bigF, rfl⟩), F.kp, F.bindsN fun _ _ _ _ _ _ us hl => match us, hl with | [_], _ => rfl, gf⟩
  exact (dss_one (ds_ret (de_sumG (own := [("_", 1), ("_", 1), ("_", 1), ("coins", 2)]) (k := 0) TBc (hcd.symm.trans e_tc) hTP (hr.mono (by decide)) rfl n_sum boot_sum rfl sc_total.nd (di_seq (de_var (pv 0))) (geOk_by (N := N_total) (sc := defScope st_total) (by decide +kernel)) (fun _ _ _ _ _ _ _ hr => (dg_tup rfl (dgs_cons (dg_name (i := 1) (fun h => h (.head _)) sc_total.nd rfl (by first | exact .inl rfl | exact .inr rfl)) (dgs_cons (dg_name (i := 1) (fun h => h (.head _)) sc_total.nd rfl (by first | exact .inl rfl | exact .inr rfl)) (dgs_cons (dg_name (i := 1) (fun h => h (.head _)) sc_total.nd rfl (by first | exact .inl rfl | exact .inr rfl)) (dgs_cons (dg_name (i := 2) (fun h => h (.tail _ (.tail _ (.tail _ (.head _))))) sc_total.nd rfl (by first | exact .inl rfl | exact .inr rfl)) dgs_nil)))))) (fun _ _ _ _ _ _ _ hr => dts_nil) (fun _ _ _ _ _ _ _ hr => (de_var (pv 2))))))
theorem ok_bill (F : FnP K "bill" st_bill f fd) (gf : mg "bill" = some (.ref f)) (n_enumerate : mg "enumerate" = none)
    (C_quantities : Cal P w K mg base 3 "quantities" ["entries", "course"] fs_quantities)
    (C_total : Cal P w K mg base 2 "total" ["lines"] fs_total) : Cal P w K mg base 4 "bill" ["tariff", "course"] fs_bill := by
  obtain ⟨g_quantities, d_quantities, G_quantities, k_quantities, b_quantities, m_quantities⟩ := C_quantities
  obtain ⟨g_total, d_total, G_total, k_total, b_total, m_total⟩ := C_total
  refine ⟨f, fd, fnD F sc_bill r_bill rfl (by decide) (fun _ h => nomatch h) (fun cdv hcd A outer sh H E hr n => ?_) (fun ds _ _ => ⟨bigF, rfl⟩), F.kp, F.bindsN fun _ _ _ _ _ _ us hl => match us, hl with | [_, _], _ => rfl, gf⟩
  exact (dss_cons (ds_asg (de_var (pv 0)) (dg_tup rfl (dgs_cons (dg_name (i := 4) (fun h => nomatch (show (none : Option Nat) = some 4 from h)) sc_bill.nd rfl (by first | exact .inl rfl | exact .inr rfl)) (dgs_cons (dg_name (i := 5) (fun h => nomatch (show (none : Option Nat) = some 5 from h)) sc_bill.nd rfl (by first | exact .inl rfl | exact .inr rfl)) (dgs_cons (dg_name (i := 6) (fun h => nomatch (show (none : Option Nat) = some 6 from h)) sc_bill.nd rfl (by first | exact .inl rfl | exact .inr rfl)) (dgs_cons (dg_name (i := 7) (fun h => nomatch (show (none : Option Nat) = some 7 from h)) sc_bill.nd rfl (by first | exact .inl rfl | exact .inr rfl)) dgs_nil))))))
      (dss_cons (ds_set (i := 2) (fun h => nomatch (show (none : Option Nat) = some 2 from h)) sc_bill.nd rfl (by first | exact .inl rfl | exact .inr rfl) (de_lst da_nil))
      (dss_cons (ds_for (passes_of rfl) rfl (di_enum rfl n_enumerate (de_call (G_quantities.mono (by omega)) hr rfl m_quantities k_quantities b_quantities (takes_of rfl rfl rfl rfl) (da_cons (de_var (pv 4)) (da_cons (de_var (pv 1)) da_nil)))) (dg_tup rfl (dgs_cons (dg_name (i := 8) (fun h => nomatch (show (none : Option Nat) = some 8 from h)) sc_bill.nd rfl (by first | exact .inl rfl | exact .inr rfl)) (dgs_cons (dg_name (i := 9) (fun h => nomatch (show (none : Option Nat) = some 9 from h)) sc_bill.nd rfl (by first | exact .inl rfl | exact .inr rfl)) dgs_nil))) (dss_cons (ds_asg (de_ix (de_var (pv 4)) (de_var (pv 8))) (dg_tup rfl (dgs_cons (dg_name (i := 10) (fun h => nomatch (show (none : Option Nat) = some 10 from h)) sc_bill.nd rfl (by first | exact .inl rfl | exact .inr rfl)) (dgs_cons (dg_name (i := 10) (fun h => nomatch (show (none : Option Nat) = some 10 from h)) sc_bill.nd rfl (by first | exact .inl rfl | exact .inr rfl)) (dgs_cons (dg_name (i := 10) (fun h => nomatch (show (none : Option Nat) = some 10 from h)) sc_bill.nd rfl (by first | exact .inl rfl | exact .inr rfl)) (dgs_cons (dg_name (i := 11) (fun h => nomatch (show (none : Option Nat) = some 11 from h)) sc_bill.nd rfl (by first | exact .inl rfl | exact .inr rfl)) (dgs_cons (dg_name (i := 12) (fun h => nomatch (show (none : Option Nat) = some 12 from h)) sc_bill.nd rfl (by first | exact .inl rfl | exact .inr rfl)) dgs_nil)))))))
      (dss_one (ds_if (dt_cmp op_gt rp_gtI (de_var (pv 9)) de_int (nomark _)) (dss_one (ds_expr (de_mut PySem.F.plainAttrs_list PySem.F.slot_list_append PySem.F.type_list_append mt_append rm_app (de_var (pv 2)) (da_cons (de_tup (da_cons de_str (da_cons (de_var (pv 8)) (da_cons (de_var (pv 9)) (da_cons (de_op op_mulP rp_mulP (de_var (pv 11)) (de_un un_neg rp_neg (de_op op_fdiv rp_fdiv (de_un un_neg rp_neg (de_var (pv 9))) (de_var (pv 12))))) da_nil))))) da_nil)))) dss_nil))))
      (dss_cons (ds_if (dt_cmp op_lt rp_ltI (de_call (G_total.mono (by omega)) hr rfl m_total k_total b_total (takes_of rfl rfl rfl rfl) (da_cons (de_var (pv 2)) da_nil)) (de_var (pv 5)) (nomark _)) (dss_one (ds_expr (de_mut PySem.F.plainAttrs_list PySem.F.slot_list_append PySem.F.type_list_append mt_append rm_app (de_var (pv 2)) (da_cons (de_tup (da_cons de_str (da_cons de_int (da_cons de_int (da_cons (de_op op_sub rp_sub (de_var (pv 5)) (de_call (G_total.mono (by omega)) hr rfl m_total k_total b_total (takes_of rfl rfl rfl rfl) (da_cons (de_var (pv 2)) da_nil))) da_nil))))) da_nil)))) (dss_one (ds_if (dt_cmp op_gt rp_gtI (de_call (G_total.mono (by omega)) hr rfl m_total k_total b_total (takes_of rfl rfl rfl rfl) (da_cons (de_var (pv 2)) da_nil)) (de_var (pv 6)) (nomark _)) (dss_one (ds_expr (de_mut PySem.F.plainAttrs_list PySem.F.slot_list_append PySem.F.type_list_append mt_append rm_app (de_var (pv 2)) (da_cons (de_tup (da_cons de_str (da_cons de_int (da_cons de_int (da_cons (de_op op_sub rp_sub (de_var (pv 6)) (de_call (G_total.mono (by omega)) hr rfl m_total k_total b_total (takes_of rfl rfl rfl rfl) (da_cons (de_var (pv 2)) da_nil))) da_nil))))) da_nil)))) dss_nil)))
      (dss_cons (ds_set (i := 3) (fun h => nomatch (show (none : Option Nat) = some 3 from h)) sc_bill.nd rfl (by first | exact .inl rfl | exact .inr rfl) (de_call (G_total.mono (by omega)) hr rfl m_total k_total b_total (takes_of rfl rfl rfl rfl) (da_cons (de_var (pv 2)) da_nil)))
      (dss_one (ds_ret (de_op op_addP rp_add (de_var (pv 2)) (de_lc (own := [("index", 8), ("tax", 13)]) rfl sc_bill.nd (di_enum rfl n_enumerate (de_var (pv 7))) (blkOk_by (N := N_bill) (sc := defScope st_bill) (by decide +kernel)) (fun _ _ _ _ _ => (dg_tup rfl (dgs_cons (dg_name (i := 8) (fun h => h (.head _)) sc_bill.nd rfl (by first | exact .inl rfl | exact .inr rfl)) (dgs_cons (dg_name (i := 13) (fun h => h (.tail _ (.head _))) sc_bill.nd rfl (by first | exact .inl rfl | exact .inr rfl)) dgs_nil)))) (fun _ _ _ _ _ => dts_nil) (fun _ _ _ _ _ => (de_tup (da_cons de_str (da_cons (de_var (pv 8)) (da_cons (de_var (pv 3)) (da_cons (de_op op_fdiv rp_fdiv (de_op op_mulP rp_mulP (de_var (pv 3)) (de_var (pv 13))) de_int) da_nil)))))))))))))))
theorem ok__law_refill (F : FnP K "_law_refill" st__law_refill f fd) (gf : mg "_law_refill" = some (.ref f)) (n_len : mg "len" = none) (n_int : mg "int" = none) : Cal P w K mg base 1 "_law_refill" ["script", "k"] fs__law_refill := by
  refine ⟨f, fd, fnD F sc__law_refill r__law_refill rfl (by decide) (fun _ h => nomatch h) (fun cdv hcd A outer sh H E hr n => ?_) (fun ds _ _ => ⟨bigF, rfl⟩), F.kp, F.bindsN fun _ _ _ _ _ _ us hl => match us, hl with | [_, _], _ => rfl, gf⟩
  exact (dss_cons (ds_set (i := 2) (fun h => nomatch (show (none : Option Nat) = some 2 from h)) sc__law_refill.nd rfl (by first | exact .inl rfl | exact .inr rfl) de_int)
      (dss_cons (ds_if (dt_truth (de_var (pv 0))) (dss_one (ds_set (i := 2) (fun h => nomatch (show (none : Option Nat) = some 2 from h)) sc__law_refill.nd rfl (by first | exact .inl rfl | exact .inr rfl) (de_ix (de_var (pv 0)) (de_op op_mod rp_mod (de_var (pv 1)) (de_callB DV.call_len rp_len rfl n_len boot_len (da_cons (de_var (pv 0)) da_nil)))))) dss_nil)
      (dss_cons (ds_if (dt_cmp op_lt rp_ltI (de_var (pv 2)) de_int (nomark _)) (dss_one (ds_set (i := 2) (fun h => nomatch (show (none : Option Nat) = some 2 from h)) sc__law_refill.nd rfl (by first | exact .inl rfl | exact .inr rfl) (de_op op_sub rp_sub de_int (de_op op_mulP rp_mulP de_int (de_var (pv 2)))))) dss_nil)
      (dss_cons (ds_if (dt_of (dw_and (dt_cmp op_ge rp_geI (de_var (pv 2)) (de_op op_pow rp_pow de_int de_int) (nomark _)) (dw_and1 (dt_cmp op_lt rp_ltI (de_var (pv 1)) (de_callB DV.call_len rp_len rfl n_len boot_len (da_cons (de_var (pv 0)) da_nil)) (nomark _))))) (dss_one (ds_ret (de_move (pv 2)))) dss_nil)
      (dss_one (ds_ret (de_op op_mod rp_mod (de_callTy call_int1 rp_int rfl n_int boot_int (da_cons (de_op op_addP rp_add (de_op op_mulP rp_mulP (de_callTy call_int1 rp_int rfl n_int boot_int (da_cons (de_op op_addP rp_add (de_op op_addP rp_add (de_op op_mulP rp_mulP (de_var (pv 2)) de_int) (de_op op_mulP rp_mulP (de_var (pv 1)) de_int)) de_int) da_nil)) de_int) de_int) da_nil)) de_int)))))))
theorem ok__law_draw (F : FnP K "_law_draw" st__law_draw f fd) (gf : mg "_law_draw" = some (.ref f)) (n_int : mg "int" = none)
    (C__law_refill : Cal P w K mg base 1 "_law_refill" ["script", "k"] fs__law_refill) : Cal P w K mg base 2 "_law_draw" ["state", "script", "size"] fs__law_draw := by
  obtain ⟨g__law_refill, d__law_refill, G__law_refill, k__law_refill, b__law_refill, m__law_refill⟩ := C__law_refill
  refine ⟨f, fd, fnD F sc__law_draw r__law_draw rfl (by decide) (fun j h => by cases h; decide) (fun cdv hcd A outer sh H E hr n => ?_) (fun ds _ _ => ⟨bigF, rfl⟩), F.kp, F.bindsN fun _ _ _ _ _ _ us hl => match us, hl with | [_, _, _], _ => rfl, gf⟩
  exact (dss_cons (ds_if (dt_cmp (op_eqD hr.units) rp_eq (de_ix (de_var (pv 0)) de_int) de_int (nomark _)) (dss_cons (ds_asg (de_call (G__law_refill.mono (by omega)) hr rfl m__law_refill k__law_refill b__law_refill (takes_of rfl rfl rfl rfl) (da_cons (de_var (pv 1)) (da_cons (de_ix (de_var (pv 0)) de_int) da_nil))) (dg_sub (W := W0) (de_var (pv 0)) de_int))
      (dss_one (ds_asg (de_op op_addP rp_add (de_ix (de_var (pv 0)) de_int) de_int) (dg_sub (W := W0) (de_var (pv 0)) de_int)))) dss_nil)
      (dss_cons (ds_set (i := 3) (fun h => absurd (Option.some.inj (show (some 0 : Option Nat) = some 3 from h)) (by decide)) sc__law_draw.nd rfl (by first | exact .inl rfl | exact .inr rfl) (de_op op_mod rp_mod (de_callTy call_int1 rp_int rfl n_int boot_int (da_cons (de_ix (de_var (pv 0)) de_int) da_nil)) (de_var (pv 2))))
      (dss_cons (ds_asg (de_op op_fdiv rp_fdiv (de_ix (de_var (pv 0)) de_int) (de_var (pv 2))) (dg_sub (W := W0) (de_var (pv 0)) de_int))
      (dss_one (ds_ret (de_move (pv 3)))))))
theorem okd__law_exact (F : FnP K "_law_exact" st__law_exact f fd) (gf : mg "_law_exact" = some (.ref f)) (n_isinstance : mg "isinstance" = none) (n_list : mg "list" = none) (n_tuple : mg "tuple" = none) (n_len : mg "len" = none) (n_range : mg "range" = none) (n_all : mg "all" = none) (n_str : mg "str" = none) (n_bool : mg "bool" = none) (n_int : mg "int" = none) (d : Nat) (C__law_exact : Cal P w K mg base (0 + d + 1) "_law_exact" ["first", "second"] (fd__law_exact d)) : Cal P w K mg base (0 + (d + 1) + 1) "_law_exact" ["first", "second"] (fd__law_exact (d + 1)) := by
  obtain ⟨g__law_exact, d__law_exact, G__law_exact, k__law_exact, b__law_exact, m__law_exact⟩ := C__law_exact
  refine ⟨f, fd, fnD (k := 0 + d + 1) F sc__law_exact (r__law_exact (fd__law_exact d)) rfl (by decide) (fun _ h => nomatch h) (fun cdv hcd A outer sh H E hr n => ?_) (fun ds _ _ => ⟨bigF, rfl⟩), F.kp, F.bindsN fun _ _ _ _ _ _ us hl => match us, hl with | [_, _], _ => rfl, gf⟩
  exact (dss_cons (ds_if (dt_truth (de_isi2 (t1 := .list) (t2 := .tuple) rfl n_isinstance rfl n_list boot_list rfl n_tuple boot_tuple (de_var (pv 0)))) (dss_cons (ds_if (dt_of (dw_or (dt_cmp (op_neD hr.units) rp_ne (de_isi (t := .list) rfl n_isinstance rfl n_list boot_list (de_var (pv 0))) (de_isi (t := .list) rfl n_isinstance rfl n_list boot_list (de_var (pv 1))) (nomark _)) (dw_or1 (dt_cmp (op_neD hr.units) rp_ne (de_isi (t := .tuple) rfl n_isinstance rfl n_tuple boot_tuple (de_var (pv 0))) (de_isi (t := .tuple) rfl n_isinstance rfl n_tuple boot_tuple (de_var (pv 1))) (nomark _))))) (dss_one (ds_ret de_bl)) dss_nil)
      (dss_one (ds_ret (de_and (de_cmp (op_eqD hr.units) rp_eq (de_callB DV.call_len rp_len rfl n_len boot_len (da_cons (de_var (pv 0)) da_nil)) (de_callB DV.call_len rp_len rfl n_len boot_len (da_cons (de_var (pv 1)) da_nil)) (nomark _)) (de_one (de_callB (cr_all rfl) rp_all rfl n_all boot_all (da_cons (de_lc (own := [("k", 3)]) rfl sc__law_exact.nd (di_range1 rfl n_range (da_cons (de_callB DV.call_len rp_len rfl n_len boot_len (da_cons (de_var (pv 0)) da_nil)) da_nil)) (blkOk_by (N := N__law_exact) (sc := defScope st__law_exact) (by decide +kernel)) (fun _ _ _ _ _ => (dg_name (i := 3) (fun h => h (.head _)) sc__law_exact.nd rfl (by first | exact .inl rfl | exact .inr rfl))) (fun _ _ _ _ _ => dts_nil) (fun _ _ _ _ _ => (de_call (G__law_exact.mono (by omega)) hr rfl m__law_exact k__law_exact b__law_exact takes0 (da_cons (de_ix (de_var (pv 0)) (de_var (pv 3))) (da_cons (de_ix (de_var (pv 1)) (de_var (pv 3))) da_nil))))) da_nil))))))) dss_nil)
      (dss_cons (ds_if (dt_of (dw_or (dt_cmp op_isN rp_isN (de_var (pv 0)) de_non (nomark _)) (dw_or1 (dt_cmp op_isN rp_isN (de_var (pv 1)) de_non (nomark _))))) (dss_one (ds_ret (de_and (de_cmp op_isN rp_isN (de_var (pv 0)) de_non (nomark _)) (de_one (de_cmp op_isN rp_isN (de_var (pv 1)) de_non (nomark _)))))) dss_nil)
      (dss_cons (ds_set (i := 2) (fun h => nomatch (show (none : Option Nat) = some 2 from h)) sc__law_exact.nd rfl (by first | exact .inl rfl | exact .inr rfl) (de_and (de_cmp (op_eqD hr.units) rp_eq (de_isi (t := .str) rfl n_isinstance rfl n_str boot_str (de_var (pv 0))) (de_isi (t := .str) rfl n_isinstance rfl n_str boot_str (de_var (pv 1))) (nomark _)) (de_one (de_cmp (op_eqD hr.units) rp_eq (de_isi (t := .bool) rfl n_isinstance rfl n_bool boot_bool (de_var (pv 0))) (de_isi (t := .bool) rfl n_isinstance rfl n_bool boot_bool (de_var (pv 1))) (nomark _)))))
      (dss_one (ds_ret (de_and (de_var (pv 2)) (de_and (de_cmp (op_eqD hr.units) rp_eq (de_isi (t := .int) rfl n_isinstance rfl n_int boot_int (de_var (pv 0))) (de_isi (t := .int) rfl n_isinstance rfl n_int boot_int (de_var (pv 1))) (nomark _)) (de_one (de_cmp (op_eqD hr.units) rp_eq (de_var (pv 0)) (de_var (pv 1)) (nomark _))))))))))
theorem ok__law_exact (F : FnP K "_law_exact" st__law_exact f fd) (gf : mg "_law_exact" = some (.ref f)) (n_isinstance : mg "isinstance" = none) (n_list : mg "list" = none) (n_tuple : mg "tuple" = none) (n_len : mg "len" = none) (n_range : mg "range" = none) (n_all : mg "all" = none) (n_str : mg "str" = none) (n_bool : mg "bool" = none) (n_int : mg "int" = none) : Cal P w K mg base 9 "_law_exact" ["first", "second"] fs__law_exact := by
  have h : ∀ d, Cal P w K mg base (0 + d + 1) "_law_exact" ["first", "second"] (fd__law_exact d) := by
    intro d
    induction d with
    | zero => exact ⟨f, fd, fn_stuck rfl, F.kp, F.bindsN fun _ _ _ _ _ _ us hl => match us, hl with | [_, _], _ => rfl, gf⟩
    | succ d ih => exact okd__law_exact F gf n_isinstance n_list n_tuple n_len n_range n_all n_str n_bool n_int d ih
  exact h 8
theorem ok__law_tariff (F : FnP K "_law_tariff" st__law_tariff f fd) (gf : mg "_law_tariff" = some (.ref f)) (n_range : mg "range" = none) (n_tuple : mg "tuple" = none) (n_min : mg "min" = none)
    (C__law_draw : Cal P w K mg base 2 "_law_draw" ["state", "script", "size"] fs__law_draw) : Cal P w K mg base 3 "_law_tariff" ["state", "script"] fs__law_tariff := by
  obtain ⟨g__law_draw, d__law_draw, G__law_draw, k__law_draw, b__law_draw, m__law_draw⟩ := C__law_draw
  refine ⟨f, fd, fnD F sc__law_tariff r__law_tariff rfl (by decide) (fun j h => by cases h; decide) (fun cdv hcd A outer sh H E hr n => ?_) (fun ds _ _ => ⟨bigF, rfl⟩), F.kp, F.bindsN fun _ _ _ _ _ _ us hl => match us, hl with | [_, _], _ => rfl, gf⟩
  exact (dss_cons (ds_set (i := 2) (fun h => absurd (Option.some.inj (show (some 0 : Option Nat) = some 2 from h)) (by decide)) sc__law_tariff.nd rfl (by first | exact .inl rfl | exact .inr rfl) (de_lst da_nil))
      (dss_cons (ds_for (passes_of rfl) rfl (di_range1 rfl n_range (da_cons (de_ix (de_lst (da_cons de_int (da_cons de_int (da_cons de_int (da_cons de_int (da_cons (de_op op_addP rp_add de_int (de_call (G__law_draw.mono (by omega)) hr rfl m__law_draw k__law_draw b__law_draw (takes_of rfl rfl rfl rfl) (da_cons (de_var (pv 0)) (da_cons (de_var (pv 1)) (da_cons de_int da_nil))))) da_nil)))))) (de_call (G__law_draw.mono (by omega)) hr rfl m__law_draw k__law_draw b__law_draw (takes_of rfl rfl rfl rfl) (da_cons (de_var (pv 0)) (da_cons (de_var (pv 1)) (da_cons de_int da_nil))))) da_nil)) (dg_name (i := 3) (fun h => absurd (Option.some.inj (show (some 0 : Option Nat) = some 3 from h)) (by decide)) sc__law_tariff.nd rfl (by first | exact .inl rfl | exact .inr rfl)) (dss_cons (ds_set (i := 7) (fun h => absurd (Option.some.inj (show (some 0 : Option Nat) = some 7 from h)) (by decide)) sc__law_tariff.nd rfl (by first | exact .inl rfl | exact .inr rfl) (de_ix (de_lst (da_cons de_str (da_cons de_str (da_cons de_str (da_cons de_str (da_cons de_str (da_cons de_str da_nil))))))) (de_call (G__law_draw.mono (by omega)) hr rfl m__law_draw k__law_draw b__law_draw (takes_of rfl rfl rfl rfl) (da_cons (de_var (pv 0)) (da_cons (de_var (pv 1)) (da_cons de_int da_nil))))))
      (dss_cons (ds_set (i := 8) (fun h => absurd (Option.some.inj (show (some 0 : Option Nat) = some 8 from h)) (by decide)) sc__law_tariff.nd rfl (by first | exact .inl rfl | exact .inr rfl) (de_ix (de_lst (da_cons de_int (da_cons de_int (da_cons (de_call (G__law_draw.mono (by omega)) hr rfl m__law_draw k__law_draw b__law_draw (takes_of rfl rfl rfl rfl) (da_cons (de_var (pv 0)) (da_cons (de_var (pv 1)) (da_cons de_int da_nil)))) (da_cons de_int da_nil))))) (de_call (G__law_draw.mono (by omega)) hr rfl m__law_draw k__law_draw b__law_draw (takes_of rfl rfl rfl rfl) (da_cons (de_var (pv 0)) (da_cons (de_var (pv 1)) (da_cons de_int da_nil))))))
      (dss_cons (ds_set (i := 9) (fun h => absurd (Option.some.inj (show (some 0 : Option Nat) = some 9 from h)) (by decide)) sc__law_tariff.nd rfl (by first | exact .inl rfl | exact .inr rfl) (de_ix (de_lst (da_cons de_int (da_cons (de_var (pv 8)) (da_cons (de_call (G__law_draw.mono (by omega)) hr rfl m__law_draw k__law_draw b__law_draw (takes_of rfl rfl rfl rfl) (da_cons (de_var (pv 0)) (da_cons (de_var (pv 1)) (da_cons de_int da_nil)))) (da_cons de_int da_nil))))) (de_call (G__law_draw.mono (by omega)) hr rfl m__law_draw k__law_draw b__law_draw (takes_of rfl rfl rfl rfl) (da_cons (de_var (pv 0)) (da_cons (de_var (pv 1)) (da_cons de_int da_nil))))))
      (dss_cons (ds_set (i := 10) (fun h => absurd (Option.some.inj (show (some 0 : Option Nat) = some 10 from h)) (by decide)) sc__law_tariff.nd rfl (by first | exact .inl rfl | exact .inr rfl) (de_ix (de_lst (da_cons (de_call (G__law_draw.mono (by omega)) hr rfl m__law_draw k__law_draw b__law_draw (takes_of rfl rfl rfl rfl) (da_cons (de_var (pv 0)) (da_cons (de_var (pv 1)) (da_cons de_int da_nil)))) (da_cons (de_call (G__law_draw.mono (by omega)) hr rfl m__law_draw k__law_draw b__law_draw (takes_of rfl rfl rfl rfl) (da_cons (de_var (pv 0)) (da_cons (de_var (pv 1)) (da_cons de_int da_nil)))) (da_cons de_int (da_cons de_int da_nil))))) (de_call (G__law_draw.mono (by omega)) hr rfl m__law_draw k__law_draw b__law_draw (takes_of rfl rfl rfl rfl) (da_cons (de_var (pv 0)) (da_cons (de_var (pv 1)) (da_cons de_int da_nil))))))
      (dss_cons (ds_set (i := 11) (fun h => absurd (Option.some.inj (show (some 0 : Option Nat) = some 11 from h)) (by decide)) sc__law_tariff.nd rfl (by first | exact .inl rfl | exact .inr rfl) (de_if (dt_cmp (op_eqD hr.units) rp_eq (de_var (pv 7)) de_str (nomark _)) de_int (de_ix (de_lst (da_cons de_int (da_cons de_int (da_cons (de_op op_addP rp_add de_int (de_call (G__law_draw.mono (by omega)) hr rfl m__law_draw k__law_draw b__law_draw (takes_of rfl rfl rfl rfl) (da_cons (de_var (pv 0)) (da_cons (de_var (pv 1)) (da_cons de_int da_nil))))) (da_cons (de_op op_addP rp_add de_int (de_call (G__law_draw.mono (by omega)) hr rfl m__law_draw k__law_draw b__law_draw (takes_of rfl rfl rfl rfl) (da_cons (de_var (pv 0)) (da_cons (de_var (pv 1)) (da_cons de_int da_nil))))) da_nil))))) (de_call (G__law_draw.mono (by omega)) hr rfl m__law_draw k__law_draw b__law_draw (takes_of rfl rfl rfl rfl) (da_cons (de_var (pv 0)) (da_cons (de_var (pv 1)) (da_cons de_int da_nil)))))))
      (dss_one (ds_expr (de_mut PySem.F.plainAttrs_list PySem.F.slot_list_append PySem.F.type_list_append mt_append rm_app (de_var (pv 2)) (da_cons (de_tup (da_cons (de_var (pv 7)) (da_cons (de_var (pv 8)) (da_cons (de_var (pv 9)) (da_cons (de_var (pv 10)) (da_cons (de_var (pv 11)) da_nil)))))) da_nil))))))))))
      (dss_cons (ds_set (i := 4) (fun h => absurd (Option.some.inj (show (some 0 : Option Nat) = some 4 from h)) (by decide)) sc__law_tariff.nd rfl (by first | exact .inl rfl | exact .inr rfl) (de_ix (de_lst (da_cons de_int (da_cons de_int (da_cons (de_call (G__law_draw.mono (by omega)) hr rfl m__law_draw k__law_draw b__law_draw (takes_of rfl rfl rfl rfl) (da_cons (de_var (pv 0)) (da_cons (de_var (pv 1)) (da_cons de_int da_nil)))) (da_cons (de_call (G__law_draw.mono (by omega)) hr rfl m__law_draw k__law_draw b__law_draw (takes_of rfl rfl rfl rfl) (da_cons (de_var (pv 0)) (da_cons (de_var (pv 1)) (da_cons de_int da_nil)))) da_nil))))) (de_call (G__law_draw.mono (by omega)) hr rfl m__law_draw k__law_draw b__law_draw (takes_of rfl rfl rfl rfl) (da_cons (de_var (pv 0)) (da_cons (de_var (pv 1)) (da_cons de_int da_nil))))))
      (dss_cons (ds_set (i := 5) (fun h => absurd (Option.some.inj (show (some 0 : Option Nat) = some 5 from h)) (by decide)) sc__law_tariff.nd rfl (by first | exact .inl rfl | exact .inr rfl) (de_op op_addP rp_add (de_var (pv 4)) (de_ix (de_lst (da_cons (de_op op_sub rp_sub de_int (de_var (pv 4))) (da_cons (de_call (G__law_draw.mono (by omega)) hr rfl m__law_draw k__law_draw b__law_draw (takes_of rfl rfl rfl rfl) (da_cons (de_var (pv 0)) (da_cons (de_var (pv 1)) (da_cons de_int da_nil)))) (da_cons de_int (da_cons (de_call (G__law_draw.mono (by omega)) hr rfl m__law_draw k__law_draw b__law_draw (takes_of rfl rfl rfl rfl) (da_cons (de_var (pv 0)) (da_cons (de_var (pv 1)) (da_cons de_int da_nil)))) da_nil))))) (de_call (G__law_draw.mono (by omega)) hr rfl m__law_draw k__law_draw b__law_draw (takes_of rfl rfl rfl rfl) (da_cons (de_var (pv 0)) (da_cons (de_var (pv 1)) (da_cons de_int da_nil)))))))
      (dss_cons (ds_set (i := 6) (fun h => absurd (Option.some.inj (show (some 0 : Option Nat) = some 6 from h)) (by decide)) sc__law_tariff.nd rfl (by first | exact .inl rfl | exact .inr rfl) (de_callTy call_tuple_of rp_tuple rfl n_tuple boot_tuple (da_cons (de_lc (own := [("k", 3)]) rfl sc__law_tariff.nd (di_range1 rfl n_range (da_cons (de_call (G__law_draw.mono (by omega)) hr rfl m__law_draw k__law_draw b__law_draw (takes_of rfl rfl rfl rfl) (da_cons (de_var (pv 0)) (da_cons (de_var (pv 1)) (da_cons de_int da_nil)))) da_nil)) (blkOk_by (N := N__law_tariff) (sc := defScope st__law_tariff) (by decide +kernel)) (fun _ _ _ _ _ => (dg_name (i := 3) (fun h => h (.head _)) sc__law_tariff.nd rfl (by first | exact .inl rfl | exact .inr rfl))) (fun _ _ _ _ _ => dts_nil) (fun _ _ _ _ _ => (de_ix (de_lst (da_cons de_int (da_cons (de_call (G__law_draw.mono (by omega)) hr rfl m__law_draw k__law_draw b__law_draw takes0 (da_cons (de_var (pv 0)) (da_cons (de_var (pv 1)) (da_cons de_int da_nil)))) (da_cons de_int (da_cons de_int da_nil))))) (de_call (G__law_draw.mono (by omega)) hr rfl m__law_draw k__law_draw b__law_draw takes0 (da_cons (de_var (pv 0)) (da_cons (de_var (pv 1)) (da_cons de_int da_nil))))))) da_nil)))
      (dss_one (ds_ret (de_tup (da_cons (de_callTy call_tuple_of rp_tuple rfl n_tuple boot_tuple (da_cons (de_var (pv 2)) da_nil)) (da_cons (de_var (pv 4)) (da_cons (de_callB (call_min rfl) rp_min rfl n_min boot_min (da_cons de_int (da_cons (de_var (pv 5)) da_nil))) (da_cons (de_var (pv 6)) da_nil))))))))))))
theorem ok__law_course (F : FnP K "_law_course" st__law_course f fd) (gf : mg "_law_course" = some (.ref f)) (n_range : mg "range" = none) (n_len : mg "len" = none) (n_min : mg "min" = none)
    (C__law_draw : Cal P w K mg base 2 "_law_draw" ["state", "script", "size"] fs__law_draw) : Cal P w K mg base 3 "_law_course" ["state", "script", "begin"] fs__law_course := by
  obtain ⟨g__law_draw, d__law_draw, G__law_draw, k__law_draw, b__law_draw, m__law_draw⟩ := C__law_draw
  refine ⟨f, fd, fnD F sc__law_course r__law_course rfl (by decide) (fun j h => by cases h; decide) (fun cdv hcd A outer sh H E hr n => ?_) (fun ds _ _ => ⟨bigF, rfl⟩), F.kp, F.bindsN fun _ _ _ _ _ _ us hl => match us, hl with | [_, _, _], _ => rfl, gf⟩
  exact (dss_cons (ds_set (i := 3) (fun h => absurd (Option.some.inj (show (some 0 : Option Nat) = some 3 from h)) (by decide)) sc__law_course.nd rfl (by first | exact .inl rfl | exact .inr rfl) (de_lst da_nil))
      (dss_cons (ds_for (passes_of rfl) rfl (di_range1 rfl n_range (da_cons (de_ix (de_lst (da_cons de_int (da_cons de_int (da_cons de_int (da_cons de_int (da_cons (de_call (G__law_draw.mono (by omega)) hr rfl m__law_draw k__law_draw b__law_draw (takes_of rfl rfl rfl rfl) (da_cons (de_var (pv 0)) (da_cons (de_var (pv 1)) (da_cons de_int da_nil)))) da_nil)))))) (de_call (G__law_draw.mono (by omega)) hr rfl m__law_draw k__law_draw b__law_draw (takes_of rfl rfl rfl rfl) (da_cons (de_var (pv 0)) (da_cons (de_var (pv 1)) (da_cons de_int da_nil))))) da_nil)) (dg_name (i := 4) (fun h => absurd (Option.some.inj (show (some 0 : Option Nat) = some 4 from h)) (by decide)) sc__law_course.nd rfl (by first | exact .inl rfl | exact .inr rfl)) (dss_one (ds_expr (de_mut PySem.F.plainAttrs_list PySem.F.slot_list_append PySem.F.type_list_append mt_append rm_app (de_var (pv 3)) (da_cons (de_ix (de_lst (da_cons de_int (da_cons de_int (da_cons (de_call (G__law_draw.mono (by omega)) hr rfl m__law_draw k__law_draw b__law_draw (takes_of rfl rfl rfl rfl) (da_cons (de_var (pv 0)) (da_cons (de_var (pv 1)) (da_cons de_int da_nil)))) (da_cons (de_op op_addP rp_add de_int (de_call (G__law_draw.mono (by omega)) hr rfl m__law_draw k__law_draw b__law_draw (takes_of rfl rfl rfl rfl) (da_cons (de_var (pv 0)) (da_cons (de_var (pv 1)) (da_cons de_int da_nil))))) da_nil))))) (de_call (G__law_draw.mono (by omega)) hr rfl m__law_draw k__law_draw b__law_draw (takes_of rfl rfl rfl rfl) (da_cons (de_var (pv 0)) (da_cons (de_var (pv 1)) (da_cons de_int da_nil))))) da_nil)))))
      (dss_cons (ds_for (passes_of rfl) rfl (di_range1 rfl n_range (da_cons (de_callB (call_min rfl) rp_min rfl n_min boot_min (da_cons (de_callB DV.call_len rp_len rfl n_len boot_len (da_cons (de_var (pv 3)) da_nil)) (da_cons (de_ix (de_lst (da_cons de_int (da_cons de_int (da_cons de_int (da_cons de_int (da_cons (de_call (G__law_draw.mono (by omega)) hr rfl m__law_draw k__law_draw b__law_draw (takes_of rfl rfl rfl rfl) (da_cons (de_var (pv 0)) (da_cons (de_var (pv 1)) (da_cons de_int da_nil)))) da_nil)))))) (de_call (G__law_draw.mono (by omega)) hr rfl m__law_draw k__law_draw b__law_draw (takes_of rfl rfl rfl rfl) (da_cons (de_var (pv 0)) (da_cons (de_var (pv 1)) (da_cons de_int da_nil))))) da_nil))) da_nil)) (dg_name (i := 4) (fun h => absurd (Option.some.inj (show (some 0 : Option Nat) = some 4 from h)) (by decide)) sc__law_course.nd rfl (by first | exact .inl rfl | exact .inr rfl)) (dss_one (ds_asg de_int (dg_sub (W := W0) (de_var (pv 3)) (de_op op_sub rp_sub (de_op op_sub rp_sub (de_callB DV.call_len rp_len rfl n_len boot_len (da_cons (de_var (pv 3)) da_nil)) de_int) (de_var (pv 4)))))))
      (dss_one (ds_ret (de_tup (da_cons (de_var (pv 2)) (da_cons (de_var (pv 3)) (da_cons (de_ix (de_lst (da_cons de_int (da_cons de_int (da_cons (de_call (G__law_draw.mono (by omega)) hr rfl m__law_draw k__law_draw b__law_draw (takes_of rfl rfl rfl rfl) (da_cons (de_var (pv 0)) (da_cons (de_var (pv 1)) (da_cons de_int da_nil)))) (da_cons de_int da_nil))))) (de_call (G__law_draw.mono (by omega)) hr rfl m__law_draw k__law_draw b__law_draw (takes_of rfl rfl rfl rfl) (da_cons (de_var (pv 0)) (da_cons (de_var (pv 1)) (da_cons de_int da_nil))))) da_nil)))))))))
theorem ok__law_bill (F : FnP K "_law_bill" st__law_bill f fd) (gf : mg "_law_bill" = some (.ref f)) (n_len : mg "len" = none) (n_range : mg "range" = none) (n_max : mg "max" = none) (n_list : mg "list" = none) (n_sum : mg "sum" = none) : Cal P w K mg base 1 "_law_bill" ["tariff", "course"] fs__law_bill := by
  refine ⟨f, fd, fnD F sc__law_bill r__law_bill rfl (by decide) (fun _ h => nomatch h) (fun cdv hcd A outer sh H E hr n => ?_) (fun ds _ _ => ⟨bigF, rfl⟩), F.kp, F.bindsN fun _ _ _ _ _ _ us hl => match us, hl with | [_, _], _ => rfl, gf⟩
  exact (dss_cons (ds_asg (de_var (pv 0)) (dg_tup rfl (dgs_cons (dg_name (i := 8) (fun h => nomatch (show (none : Option Nat) = some 8 from h)) sc__law_bill.nd rfl (by first | exact .inl rfl | exact .inr rfl)) (dgs_cons (dg_name (i := 9) (fun h => nomatch (show (none : Option Nat) = some 9 from h)) sc__law_bill.nd rfl (by first | exact .inl rfl | exact .inr rfl)) (dgs_cons (dg_name (i := 10) (fun h => nomatch (show (none : Option Nat) = some 10 from h)) sc__law_bill.nd rfl (by first | exact .inl rfl | exact .inr rfl)) (dgs_cons (dg_name (i := 11) (fun h => nomatch (show (none : Option Nat) = some 11 from h)) sc__law_bill.nd rfl (by first | exact .inl rfl | exact .inr rfl)) dgs_nil))))))
      (dss_cons (ds_asg (de_var (pv 1)) (dg_tup rfl (dgs_cons (dg_name (i := 12) (fun h => nomatch (show (none : Option Nat) = some 12 from h)) sc__law_bill.nd rfl (by first | exact .inl rfl | exact .inr rfl)) (dgs_cons (dg_name (i := 13) (fun h => nomatch (show (none : Option Nat) = some 13 from h)) sc__law_bill.nd rfl (by first | exact .inl rfl | exact .inr rfl)) (dgs_cons (dg_name (i := 14) (fun h => nomatch (show (none : Option Nat) = some 14 from h)) sc__law_bill.nd rfl (by first | exact .inl rfl | exact .inr rfl)) dgs_nil)))))
      (dss_cons (ds_set (i := 2) (fun h => nomatch (show (none : Option Nat) = some 2 from h)) sc__law_bill.nd rfl (by first | exact .inl rfl | exact .inr rfl) (de_op op_mulP rp_mulP (de_lst (da_cons de_int da_nil)) (de_callB DV.call_len rp_len rfl n_len boot_len (da_cons (de_var (pv 8)) da_nil))))
      (dss_cons (ds_set (i := 3) (fun h => nomatch (show (none : Option Nat) = some 3 from h)) sc__law_bill.nd rfl (by first | exact .inl rfl | exact .inr rfl) de_int)
      (dss_cons (ds_while n (passes_of rfl) (dt_of (dw_and (dt_cmp op_lt rp_ltI (de_var (pv 3)) (de_callB DV.call_len rp_len rfl n_len boot_len (da_cons (de_var (pv 13)) da_nil)) (nomark _)) (dw_and1 (dt_cmp (op_eqD hr.units) rp_eq (de_ix (de_var (pv 13)) (de_op op_sub rp_sub (de_op op_sub rp_sub (de_callB DV.call_len rp_len rfl n_len boot_len (da_cons (de_var (pv 13)) da_nil)) de_int) (de_var (pv 3)))) de_int (nomark _))))) (dss_one (ds_set (i := 3) (fun h => nomatch (show (none : Option Nat) = some 3 from h)) sc__law_bill.nd rfl (by first | exact .inl rfl | exact .inr rfl) (de_op op_addP rp_add (de_var (pv 3)) de_int))))
      (dss_cons (ds_for (passes_of rfl) rfl (di_range2 rfl n_range (da_cons (de_un un_neg rp_neg de_int) (da_cons (de_callB DV.call_len rp_len rfl n_len boot_len (da_cons (de_var (pv 13)) da_nil)) da_nil))) (dg_name (i := 4) (fun h => nomatch (show (none : Option Nat) = some 4 from h)) sc__law_bill.nd rfl (by first | exact .inl rfl | exact .inr rfl)) (dss_cons (ds_set (i := 15) (fun h => nomatch (show (none : Option Nat) = some 15 from h)) sc__law_bill.nd rfl (by first | exact .inl rfl | exact .inr rfl) (de_lst (da_cons (de_tup (da_cons de_str (da_cons de_int da_nil))) da_nil)))
      (dss_cons (ds_if (dt_cmp op_ge rp_geI (de_var (pv 4)) de_int (nomark _)) (dss_cons (ds_set (i := 15) (fun h => nomatch (show (none : Option Nat) = some 15 from h)) sc__law_bill.nd rfl (by first | exact .inl rfl | exact .inr rfl) (de_lst (da_cons (de_tup (da_cons de_str (da_cons (de_ix (de_var (pv 13)) (de_var (pv 4))) da_nil))) da_nil)))
      (dss_one (ds_if (dt_cmp op_lt rp_ltI (de_var (pv 4)) (de_op op_sub rp_sub (de_callB DV.call_len rp_len rfl n_len boot_len (da_cons (de_var (pv 13)) da_nil)) (de_var (pv 3))) (nomark _)) (dss_one (ds_expr (de_mut PySem.F.plainAttrs_list PySem.F.slot_list_append PySem.F.type_list_append mt_append rm_app (de_var (pv 15)) (da_cons (de_tup (da_cons de_str (da_cons de_int da_nil))) da_nil)))) (dss_one (ds_if (dt_cmp op_ge rp_geI (de_var (pv 4)) (de_op op_addP rp_add (de_op op_sub rp_sub (de_callB DV.call_len rp_len rfl n_len boot_len (da_cons (de_var (pv 13)) da_nil)) (de_var (pv 3))) (de_var (pv 14))) (nomark _)) (dss_one (ds_expr (de_mut PySem.F.plainAttrs_list PySem.F.slot_list_append PySem.F.type_list_append mt_append rm_app (de_var (pv 15)) (da_cons (de_tup (da_cons de_str (da_cons de_int da_nil))) da_nil)))) dss_nil))))) dss_nil)
      (dss_cons (ds_set (i := 16) (fun h => nomatch (show (none : Option Nat) = some 16 from h)) sc__law_bill.nd rfl (by first | exact .inl rfl | exact .inr rfl) (de_op op_mod rp_mod (de_op op_addP rp_add (de_var (pv 12)) (de_callB (call_max rfl) rp_max rfl n_max boot_max (da_cons de_int (da_cons (de_var (pv 4)) da_nil)))) de_int))
      (dss_one (ds_for (passes_of rfl) rfl (di_seq (de_var (pv 15))) (dg_tup rfl (dgs_cons (dg_name (i := 18) (fun h => nomatch (show (none : Option Nat) = some 18 from h)) sc__law_bill.nd rfl (by first | exact .inl rfl | exact .inr rfl)) (dgs_cons (dg_name (i := 19) (fun h => nomatch (show (none : Option Nat) = some 19 from h)) sc__law_bill.nd rfl (by first | exact .inl rfl | exact .inr rfl)) dgs_nil))) (dss_cons (ds_set (i := 20) (fun h => nomatch (show (none : Option Nat) = some 20 from h)) sc__law_bill.nd rfl (by first | exact .inl rfl | exact .inr rfl) (de_lst da_nil))
      (dss_cons (ds_for (passes_of rfl) rfl (di_range1 rfl n_range (da_cons (de_callB DV.call_len rp_len rfl n_len boot_len (da_cons (de_var (pv 8)) da_nil)) da_nil)) (dg_name (i := 6) (fun h => nomatch (show (none : Option Nat) = some 6 from h)) sc__law_bill.nd rfl (by first | exact .inl rfl | exact .inr rfl)) (dss_cons (ds_par (i := 23) (j := 24) (fun h => nomatch (show (none : Option Nat) = some 23 from h)) (fun h => nomatch (show (none : Option Nat) = some 24 from h)) rfl sc__law_bill.nd rfl rfl (by decide) rfl rfl (da_cons (de_ix (de_ix (de_var (pv 8)) (de_var (pv 6))) de_int) (da_cons (de_ix (de_ix (de_var (pv 8)) (de_var (pv 6))) de_int) da_nil)) rfl)
      (dss_cons (ds_set (i := 22) (fun h => nomatch (show (none : Option Nat) = some 22 from h)) sc__law_bill.nd rfl (by first | exact .inl rfl | exact .inr rfl) (de_if (dt_cmp op_lt rp_ltI (de_var (pv 23)) (de_var (pv 24)) (nomark _)) (de_lr2 rfl rfl n_list rfl n_range (de_var (pv 23)) (de_var (pv 24))) (de_op op_addP rp_add (de_lr2 rfl rfl n_list rfl n_range (de_var (pv 23)) de_int) (de_lr1 rfl rfl n_list rfl n_range (de_var (pv 24))))))
      (dss_one (ds_if (dt_of (dw_and (dt_cmp (op_eqD hr.units) rp_eq (de_ix (de_ix (de_var (pv 8)) (de_var (pv 6))) de_int) (de_var (pv 18)) (nomark _)) (dw_and1 (dt_cmp (op_inP (un65 hr)) rp_in (de_var (pv 16)) (de_var (pv 22)) (by with_unfolding_all rfl))))) (dss_one (ds_expr (de_mut PySem.F.plainAttrs_list PySem.F.slot_list_append PySem.F.type_list_append mt_append rm_app (de_var (pv 20)) (da_cons (de_var (pv 6)) da_nil)))) dss_nil)))))
      (dss_one (ds_if (dt_truth (de_var (pv 20))) (dss_one (ds_asg (de_op op_addP rp_add (de_ix (de_var (pv 2)) (de_ix (de_var (pv 20)) de_int)) (de_var (pv 19))) (dg_sub (W := W0) (de_var (pv 2)) (de_ix (de_var (pv 20)) de_int)))) dss_nil))))))))))
      (dss_cons (ds_set (i := 5) (fun h => nomatch (show (none : Option Nat) = some 5 from h)) sc__law_bill.nd rfl (by first | exact .inl rfl | exact .inr rfl) (de_lst da_nil))
      (dss_cons (ds_for (passes_of rfl) rfl (di_range1 rfl n_range (da_cons (de_callB DV.call_len rp_len rfl n_len boot_len (da_cons (de_var (pv 8)) da_nil)) da_nil)) (dg_name (i := 6) (fun h => nomatch (show (none : Option Nat) = some 6 from h)) sc__law_bill.nd rfl (by first | exact .inl rfl | exact .inr rfl)) (dss_one (ds_if (dt_cmp op_gt rp_gtI (de_ix (de_var (pv 2)) (de_var (pv 6))) de_int (nomark _)) (dss_cons (ds_set (i := 21) (fun h => nomatch (show (none : Option Nat) = some 21 from h)) sc__law_bill.nd rfl (by first | exact .inl rfl | exact .inr rfl) (de_op op_fdiv rp_fdiv (de_op op_sub rp_sub (de_op op_addP rp_add (de_ix (de_var (pv 2)) (de_var (pv 6))) (de_ix (de_ix (de_var (pv 8)) (de_var (pv 6))) de_int)) de_int) (de_ix (de_ix (de_var (pv 8)) (de_var (pv 6))) de_int)))
      (dss_one (ds_expr (de_mut PySem.F.plainAttrs_list PySem.F.slot_list_append PySem.F.type_list_append mt_append rm_app (de_var (pv 5)) (da_cons (de_tup (da_cons de_str (da_cons (de_var (pv 6)) (da_cons (de_ix (de_var (pv 2)) (de_var (pv 6))) (da_cons (de_op op_mulP rp_mulP (de_ix (de_ix (de_var (pv 8)) (de_var (pv 6))) de_int) (de_var (pv 21))) da_nil))))) da_nil))))) dss_nil)))
      (dss_cons (ds_set (i := 7) (fun h => nomatch (show (none : Option Nat) = some 7 from h)) sc__law_bill.nd rfl (by first | exact .inl rfl | exact .inr rfl) (de_callB (cr_sum rfl) rp_sum rfl n_sum boot_sum (da_cons (de_lcV (i0 := 5) (own := [("one", 25)]) (pv 5) rfl sc__law_bill.nd (di_seq (de_var (pv 5))) (blkOk_by (N := N__law_bill) (sc := defScope st__law_bill) (by decide +kernel)) (fun _ _ _ _ _ => (dg_name (i := 25) (fun h => h (.head _)) sc__law_bill.nd rfl (by first | exact .inl rfl | exact .inr rfl))) (fun _ _ _ _ _ => dts_nil) (fun _ _ _ _ _ => (de_ix (de_var (pv 25)) de_int))) da_nil)))
      (dss_cons (ds_if (dt_of (dw_or (dt_cmp op_lt rp_ltI (de_var (pv 7)) (de_var (pv 9)) (nomark _)) (dw_or1 (dt_cmp op_gt rp_gtI (de_var (pv 7)) (de_var (pv 10)) (nomark _))))) (dss_cons (ds_set (i := 17) (fun h => nomatch (show (none : Option Nat) = some 17 from h)) sc__law_bill.nd rfl (by first | exact .inl rfl | exact .inr rfl) (de_if (dt_cmp op_lt rp_ltI (de_var (pv 7)) (de_var (pv 9)) (nomark _)) (de_var (pv 9)) (de_var (pv 10))))
      (dss_cons (ds_expr (de_mut PySem.F.plainAttrs_list PySem.F.slot_list_append PySem.F.type_list_append mt_append rm_app (de_var (pv 5)) (da_cons (de_tup (da_cons (de_if (dt_cmp op_lt rp_ltI (de_var (pv 7)) (de_var (pv 9)) (nomark _)) de_str de_str) (da_cons de_int (da_cons de_int (da_cons (de_op op_sub rp_sub (de_var (pv 17)) (de_var (pv 7))) da_nil))))) da_nil)))
      (dss_one (ds_set (i := 7) (fun h => nomatch (show (none : Option Nat) = some 7 from h)) sc__law_bill.nd rfl (by first | exact .inl rfl | exact .inr rfl) (de_var (pv 17)))))) dss_nil)
      (dss_cons (ds_for (passes_of rfl) rfl (di_range1 rfl n_range (da_cons (de_callB DV.call_len rp_len rfl n_len boot_len (da_cons (de_var (pv 11)) da_nil)) da_nil)) (dg_name (i := 6) (fun h => nomatch (show (none : Option Nat) = some 6 from h)) sc__law_bill.nd rfl (by first | exact .inl rfl | exact .inr rfl)) (dss_one (ds_expr (de_mut PySem.F.plainAttrs_list PySem.F.slot_list_append PySem.F.type_list_append mt_append rm_app (de_var (pv 5)) (da_cons (de_tup (da_cons de_str (da_cons (de_var (pv 6)) (da_cons (de_var (pv 7)) (da_cons (de_op op_fdiv rp_fdiv (de_op op_sub rp_sub (de_op op_mulP rp_mulP (de_var (pv 7)) (de_ix (de_var (pv 11)) (de_var (pv 6)))) (de_op op_mod rp_mod (de_op op_mulP rp_mulP (de_var (pv 7)) (de_ix (de_var (pv 11)) (de_var (pv 6)))) de_int)) de_int) da_nil))))) da_nil)))))
      (dss_one (ds_ret (de_move (pv 5)))))))))))))))
theorem ok_law (F : FnP K "law" st_law f fd) (gf : mg "law" = some (.ref f)) (n_range : mg "range" = none) (n_list : mg "list" = none) (n_sum : mg "sum" = none) (n_max : mg "max" = none)
    (C__law_tariff : Cal P w K mg base 3 "_law_tariff" ["state", "script"] fs__law_tariff)
    (C__law_course : Cal P w K mg base 3 "_law_course" ["state", "script", "begin"] fs__law_course)
    (C__law_draw : Cal P w K mg base 2 "_law_draw" ["state", "script", "size"] fs__law_draw)
    (C__law_bill : Cal P w K mg base 1 "_law_bill" ["tariff", "course"] fs__law_bill)
    (C_bill : Cal P w K mg base 4 "bill" ["tariff", "course"] fs_bill)
    (C__law_exact : Cal P w K mg base 9 "_law_exact" ["first", "second"] fs__law_exact)
    (C_total : Cal P w K mg base 2 "total" ["lines"] fs_total) : FnOk P w K mg base (L2.CX P w) 10 f fd ["script"] (spD K fs_law) := by
  obtain ⟨g__law_tariff, d__law_tariff, G__law_tariff, k__law_tariff, b__law_tariff, m__law_tariff⟩ := C__law_tariff
  obtain ⟨g__law_course, d__law_course, G__law_course, k__law_course, b__law_course, m__law_course⟩ := C__law_course
  obtain ⟨g__law_draw, d__law_draw, G__law_draw, k__law_draw, b__law_draw, m__law_draw⟩ := C__law_draw
  obtain ⟨g__law_bill, d__law_bill, G__law_bill, k__law_bill, b__law_bill, m__law_bill⟩ := C__law_bill
  obtain ⟨g_bill, d_bill, G_bill, k_bill, b_bill, m_bill⟩ := C_bill
  obtain ⟨g__law_exact, d__law_exact, G__law_exact, k__law_exact, b__law_exact, m__law_exact⟩ := C__law_exact
  obtain ⟨g_total, d_total, G_total, k_total, b_total, m_total⟩ := C_total
  refine fnD F sc_law r_law rfl (by decide) (fun _ h => nomatch h) (fun cdv hcd A outer sh H E hr n => ?_) (fun ds _ _ => ⟨bigF, rfl⟩)
  exact (dss_cons (ds_set (i := 1) (fun h => nomatch (show (none : Option Nat) = some 1 from h)) sc_law.nd rfl (by first | exact .inl rfl | exact .inr rfl) (de_lst (da_cons de_int (da_cons de_int da_nil))))
      (dss_cons (ds_set (i := 2) (fun h => nomatch (show (none : Option Nat) = some 2 from h)) sc_law.nd rfl (by first | exact .inl rfl | exact .inr rfl) (de_call (G__law_tariff.mono (by omega)) hr rfl m__law_tariff k__law_tariff b__law_tariff (takes_of rfl rfl rfl rfl) (da_cons (de_var (pv 1)) (da_cons (de_var (pv 0)) da_nil))))
      (dss_cons (ds_for (passes_of rfl) rfl (di_range1 rfl n_range (da_cons de_int da_nil)) (dg_name (i := 3) (fun h => nomatch (show (none : Option Nat) = some 3 from h)) sc_law.nd rfl (by first | exact .inl rfl | exact .inr rfl)) (dss_cons (ds_set (i := 4) (fun h => nomatch (show (none : Option Nat) = some 4 from h)) sc_law.nd rfl (by first | exact .inl rfl | exact .inr rfl) (de_call (G__law_course.mono (by omega)) hr rfl m__law_course k__law_course b__law_course (takes_of rfl rfl rfl rfl) (da_cons (de_var (pv 1)) (da_cons (de_var (pv 0)) (da_cons (de_ix (de_lst (da_cons de_int (da_cons de_int (da_cons (de_call (G__law_draw.mono (by omega)) hr rfl m__law_draw k__law_draw b__law_draw (takes_of rfl rfl rfl rfl) (da_cons (de_var (pv 1)) (da_cons (de_var (pv 0)) (da_cons de_int da_nil)))) (da_cons (de_call (G__law_draw.mono (by omega)) hr rfl m__law_draw k__law_draw b__law_draw (takes_of rfl rfl rfl rfl) (da_cons (de_var (pv 1)) (da_cons (de_var (pv 0)) (da_cons de_int da_nil)))) da_nil))))) (de_call (G__law_draw.mono (by omega)) hr rfl m__law_draw k__law_draw b__law_draw (takes_of rfl rfl rfl rfl) (da_cons (de_var (pv 1)) (da_cons (de_var (pv 0)) (da_cons de_int da_nil))))) da_nil)))))
      (dss_cons (ds_set (i := 5) (fun h => nomatch (show (none : Option Nat) = some 5 from h)) sc_law.nd rfl (by first | exact .inl rfl | exact .inr rfl) (de_tup (da_cons (de_ix (de_var (pv 4)) de_int) (da_cons (de_callTy call_list_of rp_list rfl n_list boot_list (da_cons (de_ix (de_var (pv 4)) de_int) da_nil)) (da_cons (de_ix (de_var (pv 4)) de_int) da_nil)))))
      (dss_cons (ds_set (i := 6) (fun h => nomatch (show (none : Option Nat) = some 6 from h)) sc_law.nd rfl (by first | exact .inl rfl | exact .inr rfl) (de_call (G__law_bill.mono (by omega)) hr rfl m__law_bill k__law_bill b__law_bill (takes_of rfl rfl rfl rfl) (da_cons (de_var (pv 2)) (da_cons (de_var (pv 4)) da_nil))))
      (dss_cons (ds_set (i := 7) (fun h => nomatch (show (none : Option Nat) = some 7 from h)) sc_law.nd rfl (by first | exact .inl rfl | exact .inr rfl) (de_call (G_bill.mono (by omega)) hr rfl m_bill k_bill b_bill (takes_of rfl rfl rfl rfl) (da_cons (de_var (pv 2)) (da_cons (de_var (pv 5)) da_nil))))
      (dss_cons (ds_if (dt_of (dw_or (dt_not (dt_truth (de_call (G__law_exact.mono (by omega)) hr rfl m__law_exact k__law_exact b__law_exact (takes_of rfl rfl rfl rfl) (da_cons (de_var (pv 6)) (da_cons (de_var (pv 7)) da_nil))))) (dw_or (dt_not (dt_truth (de_call (G__law_exact.mono (by omega)) hr rfl m__law_exact k__law_exact b__law_exact (takes_of rfl rfl rfl rfl) (da_cons (de_callB (cr_sum rfl) rp_sum rfl n_sum boot_sum (da_cons (de_lcV (i0 := 6) (own := [("one", 15)]) (pv 6) rfl sc_law.nd (di_seq (de_var (pv 6))) (blkOk_by (N := N_law) (sc := defScope st_law) (by decide +kernel)) (fun _ _ _ _ _ => (dg_name (i := 15) (fun h => h (.head _)) sc_law.nd rfl (by first | exact .inl rfl | exact .inr rfl))) (fun _ _ _ _ _ => dts_nil) (fun _ _ _ _ _ => (de_ix (de_var (pv 15)) de_int))) da_nil)) (da_cons (de_call (G_total.mono (by omega)) hr rfl m_total k_total b_total (takes_of rfl rfl rfl rfl) (da_cons (de_var (pv 7)) da_nil)) da_nil))))) (dw_or1 (dt_cmp (op_neD hr.units) rp_ne (de_var (pv 5)) (de_var (pv 4)) (nomark _)))))) (dss_one (ds_ret de_bl)) dss_nil)
      (dss_cons (ds_set (i := 8) (fun h => nomatch (show (none : Option Nat) = some 8 from h)) sc_law.nd rfl (by first | exact .inl rfl | exact .inr rfl) (de_call (G_bill.mono (by omega)) hr rfl m_bill k_bill b_bill (takes_of rfl rfl rfl rfl) (da_cons (de_var (pv 2)) (da_cons (de_tup (da_cons (de_op op_addP rp_add (de_ix (de_var (pv 4)) de_int) de_int) (da_cons (de_callTy call_list_of rp_list rfl n_list boot_list (da_cons (de_ix (de_var (pv 4)) de_int) da_nil)) (da_cons (de_ix (de_var (pv 4)) de_int) da_nil)))) da_nil))))
      (dss_cons (ds_if (dt_not (dt_truth (de_call (G__law_exact.mono (by omega)) hr rfl m__law_exact k__law_exact b__law_exact (takes_of rfl rfl rfl rfl) (da_cons (de_var (pv 6)) (da_cons (de_var (pv 8)) da_nil))))) (dss_one (ds_ret de_bl)) dss_nil)
      (dss_cons (ds_set (i := 9) (fun h => nomatch (show (none : Option Nat) = some 9 from h)) sc_law.nd rfl (by first | exact .inl rfl | exact .inr rfl) (de_if (dt_cmp op_lt rp_ltI (de_ix (de_var (pv 4)) de_int) de_int (nomark _)) (de_call (G_bill.mono (by omega)) hr rfl m_bill k_bill b_bill (takes_of rfl rfl rfl rfl) (da_cons (de_var (pv 2)) (da_cons (de_tup (da_cons (de_ix (de_var (pv 4)) de_int) (da_cons (de_callTy call_list_of rp_list rfl n_list boot_list (da_cons (de_ix (de_var (pv 4)) de_int) da_nil)) (da_cons (de_op op_addP rp_add (de_ix (de_var (pv 4)) de_int) de_int) da_nil)))) da_nil))) (de_var (pv 6))))
      (dss_cons (ds_if (dt_cmp op_gt rp_gtI (de_call (G_total.mono (by omega)) hr rfl m_total k_total b_total (takes_of rfl rfl rfl rfl) (da_cons (de_var (pv 9)) da_nil)) (de_call (G_total.mono (by omega)) hr rfl m_total k_total b_total (takes_of rfl rfl rfl rfl) (da_cons (de_var (pv 7)) da_nil)) (nomark _)) (dss_one (ds_ret de_bl)) dss_nil)
      (dss_cons (ds_set (i := 10) (fun h => nomatch (show (none : Option Nat) = some 10 from h)) sc_law.nd rfl (by first | exact .inl rfl | exact .inr rfl) (de_tup (da_cons (de_ix (de_var (pv 2)) de_int) (da_cons de_int (da_cons de_int (da_cons (de_tup da_nil) da_nil))))))
      (dss_cons (ds_set (i := 11) (fun h => nomatch (show (none : Option Nat) = some 11 from h)) sc_law.nd rfl (by first | exact .inl rfl | exact .inr rfl) (de_callB (cr_sum rfl) rp_sum rfl n_sum boot_sum (da_cons (de_lc (own := [("one", 15)]) rfl sc_law.nd (di_seq (de_call (G__law_bill.mono (by omega)) hr rfl m__law_bill k__law_bill b__law_bill (takes_of rfl rfl rfl rfl) (da_cons (de_var (pv 10)) (da_cons (de_var (pv 4)) da_nil)))) (blkOk_by (N := N_law) (sc := defScope st_law) (by decide +kernel)) (fun _ _ _ _ _ => (dg_name (i := 15) (fun h => h (.head _)) sc_law.nd rfl (by first | exact .inl rfl | exact .inr rfl))) (fun _ _ _ _ _ => dts_nil) (fun _ _ _ _ _ => (de_ix (de_var (pv 15)) de_int))) da_nil)))
      (dss_cons (ds_for (passes_of rfl) rfl (di_seq (de_lst (da_cons (de_tup (da_cons (de_var (pv 11)) (da_cons (de_var (pv 11)) da_nil))) (da_cons (de_tup (da_cons (de_op op_addP rp_add (de_var (pv 11)) de_int) (da_cons de_int da_nil))) (da_cons (de_tup (da_cons de_int (da_cons (de_callB (call_max rfl) rp_max rfl n_max boot_max (da_cons de_int (da_cons (de_op op_sub rp_sub (de_var (pv 11)) de_int) da_nil))) da_nil))) (da_cons (de_tup (da_cons de_int (da_cons (de_var (pv 11)) da_nil))) da_nil)))))) (dg_tup rfl (dgs_cons (dg_name (i := 12) (fun h => nomatch (show (none : Option Nat) = some 12 from h)) sc_law.nd rfl (by first | exact .inl rfl | exact .inr rfl)) (dgs_cons (dg_name (i := 13) (fun h => nomatch (show (none : Option Nat) = some 13 from h)) sc_law.nd rfl (by first | exact .inl rfl | exact .inr rfl)) dgs_nil))) (dss_one (ds_if (dt_chain op_le rp_leI op_le rp_leI (de_var (pv 12)) (de_var (pv 13)) de_int) (dss_cons (ds_set (i := 14) (fun h => nomatch (show (none : Option Nat) = some 14 from h)) sc_law.nd rfl (by first | exact .inl rfl | exact .inr rfl) (de_tup (da_cons (de_ix (de_var (pv 2)) de_int) (da_cons (de_var (pv 12)) (da_cons (de_var (pv 13)) (da_cons (de_ix (de_var (pv 2)) de_int) da_nil))))))
      (dss_one (ds_if (dt_not (dt_truth (de_call (G__law_exact.mono (by omega)) hr rfl m__law_exact k__law_exact b__law_exact (takes_of rfl rfl rfl rfl) (da_cons (de_call (G__law_bill.mono (by omega)) hr rfl m__law_bill k__law_bill b__law_bill (takes_of rfl rfl rfl rfl) (da_cons (de_var (pv 14)) (da_cons (de_var (pv 4)) da_nil))) (da_cons (de_call (G_bill.mono (by omega)) hr rfl m_bill k_bill b_bill (takes_of rfl rfl rfl rfl) (da_cons (de_var (pv 14)) (da_cons (de_var (pv 5)) da_nil))) da_nil))))) (dss_one (ds_ret de_bl)) dss_nil))) dss_nil)))
      (dss_cons (ds_expr (de_mut PySem.F.plainAttrs_list PySem.F.slot_list_append PySem.F.type_list_append mt_append rm_app (de_var (pv 7)) (da_cons (de_tup (da_cons de_str (da_cons de_int (da_cons de_int (da_cons de_int da_nil))))) da_nil)))
      (dss_one (ds_if (dt_not (dt_truth (de_call (G__law_exact.mono (by omega)) hr rfl m__law_exact k__law_exact b__law_exact (takes_of rfl rfl rfl rfl) (da_cons (de_var (pv 6)) (da_cons (de_call (G_bill.mono (by omega)) hr rfl m_bill k_bill b_bill (takes_of rfl rfl rfl rfl) (da_cons (de_var (pv 2)) (da_cons (de_var (pv 5)) da_nil))) da_nil))))) (dss_one (ds_ret de_bl)) dss_nil))))))))))))))))
      (dss_one (ds_ret (de_call (G__law_exact.mono (by omega)) hr rfl m__law_exact k__law_exact b__law_exact (takes_of rfl rfl rfl rfl) (da_cons de_int (da_cons (de_call (G_total.mono (by omega)) hr rfl m_total k_total b_total (takes_of rfl rfl rfl rfl) (da_cons (de_lst da_nil) da_nil)) da_nil))))))))
end
end K82

namespace K82
open PySem L2 DV
theorem mulOk_l (i j : Int) (h : -1000000000 < i ∧ i < 1000000000) : mulOk i j = true := by
  refine @decide_eq_true _ (Classical.propDecidable _) (.inl ?_)
  omega
abbrev scr (ns : List Int) : D := .lst false (ns.map D.int)
/-- the state of the draws -/
structure Dw where
  k : Int
  v : Int
@[simp] def Dw.d (s : Dw) : D := .lst true [.int s.k, .int s.v]
theorem p18 : powOk 10 18 = true := powOk_of (by decide) (by decide) (by decide)
theorem refill_at (ns : List Int) (k : Int) : ∃ c, fs__law_refill.run [scr ns, .int k] = .ok (.int c, none) := by
  by_cases hn : ns = []
  · subst hn
    exact ⟨_, by simp [fs__law_refill, r__law_refill, p18, mulOk_l, mulOk_r]; rfl⟩
  · have hl : 0 < ns.length := List.length_pos_iff.mpr hn
    obtain ⟨i, hi⟩ : ∃ i : Nat, k % (ns.length : Int) = i := ⟨(k % (ns.length : Int)).toNat, by have := Int.emod_nonneg k (b := (ns.length : Int)) (by omega); omega⟩
    have hlt : i < ns.length := by have := Int.emod_lt_of_pos k (b := (ns.length : Int)) (by omega); omega
    have hj : ixP (scr ns) (.int (k % (ns.length : Int))) = some (i, .int ns[i]) := by
      rw [hi]
      exact ixP_lst (List.getElem?_eq_getElem hlt)
    generalize ns[i] = c at hj
    by_cases h0 : c < 0
    · by_cases h1 : (1000000000000000000 : Int) ≤ 1 - 2 * c
      · by_cases h2 : k < ns.length
        · exact ⟨_, by simp [fs__law_refill, r__law_refill, hn, hl, hj, h0, h1, h2, p18, mulOk_l, mulOk_r]; rfl⟩
        · exact ⟨_, by simp [fs__law_refill, r__law_refill, hn, hl, hj, h0, h1, h2, p18, mulOk_l, mulOk_r]; rfl⟩
      · exact ⟨_, by simp [fs__law_refill, r__law_refill, hn, hl, hj, h0, h1, p18, mulOk_l, mulOk_r]; rfl⟩
    · by_cases h1 : (1000000000000000000 : Int) ≤ c
      · by_cases h2 : k < ns.length
        · exact ⟨_, by simp [fs__law_refill, r__law_refill, hn, hl, hj, h0, h1, h2, p18, mulOk_l, mulOk_r]; rfl⟩
        · exact ⟨_, by simp [fs__law_refill, r__law_refill, hn, hl, hj, h0, h1, h2, p18, mulOk_l, mulOk_r]; rfl⟩
      · exact ⟨_, by simp [fs__law_refill, r__law_refill, hn, hl, hj, h0, h1, p18, mulOk_l, mulOk_r]; rfl⟩
theorem draw_at (ns : List Int) (s : Dw) {m : Int} (h0 : 0 < m) (h1 : m < 1073741824) : ∃ v s2, fs__law_draw.run [s.d, scr ns, .int m] = .ok (.int v, some (Dw.d s2)) ∧ 0 ≤ v ∧ v < m := by
  obtain ⟨k, v⟩ := s
  obtain ⟨c, hc⟩ := refill_at ns k
  by_cases hv : v = 0
  · refine ⟨c % m, ⟨k + 1, c / m⟩, ?_, Int.emod_nonneg _ (by omega), Int.emod_lt_of_pos _ h0⟩
    simp [fs__law_draw, r__law_draw, hv, hc, h0, divOk_of ⟨h0, h1⟩, gSubD, muSet, L2.ixN]
  · refine ⟨v % m, ⟨k, v / m⟩, ?_, Int.emod_nonneg _ (by omega), Int.emod_lt_of_pos _ h0⟩
    simp [fs__law_draw, r__law_draw, hv, h0, divOk_of ⟨h0, h1⟩, gSubD, muSet, L2.ixN]
end K82

namespace K82
open PySem L2 DV
theorem pick (xs : List D) (v : Int) (h : 0 ≤ v ∧ v < xs.length) : ∃ j x, ixP (.lst true xs) (.int v) = some (j, x) ∧ x ∈ xs := by
  obtain ⟨i, hi⟩ : ∃ i : Nat, v = i := ⟨v.toNat, by omega⟩
  subst hi
  have hl : i < xs.length := by omega
  exact ⟨i, xs[i], ixP_d (List.getElem?_eq_getElem hl), List.getElem_mem hl⟩
theorem pickN (xs : List Int) (v : Int) (h : 0 ≤ v ∧ v < xs.length) : ∃ j x, ixP (.lst true (xs.map D.int)) (.int v) = some (j, .int x) ∧ x ∈ xs := by
  obtain ⟨i, hi⟩ : ∃ i : Nat, v = i := ⟨v.toNat, by omega⟩
  subst hi
  have hl : i < xs.length := by omega
  exact ⟨i, xs[i], ixP_lst (List.getElem?_eq_getElem hl), List.getElem_mem hl⟩
theorem pickS (xs : List Str) (v : Int) (h : 0 ≤ v ∧ v < xs.length) : ∃ j x, ixP (.lst true (xs.map D.str)) (.int v) = some (j, .str x) ∧ x ∈ xs := by
  obtain ⟨i, hi⟩ : ∃ i : Nat, v = i := ⟨v.toNat, by omega⟩
  subst hi
  have hl : i < xs.length := by omega
  exact ⟨i, xs[i], ixP_lst (List.getElem?_eq_getElem hl), List.getElem_mem hl⟩
theorem eqv_str {a b : Str} (ha : PyData.strOk a = true) (hb : PyData.strOk b = true) : D.eqv (.str a) (.str b) = some (decide (a = b)) := by
  rw [D.eqv_of (by simpa using ha) (by simpa using hb)]
  simp
def KdOk (k : Str) : Prop := PyData.strOk k = true
theorem kinds : ∀ k ∈ (["start", "unit", "tick", "blocked", "unit", "tick"] : List Str), KdOk k := by
  intro k hk
  simp only [List.mem_cons, List.not_mem_nil, or_false] at hk
  rcases hk with rfl | rfl | rfl | rfl | rfl | rfl <;> (unfold KdOk; decide +kernel)
/-- a tariff's entry -/
structure Ent where
  kd : Str
  fi : Int
  la : Int
  pr : Int
  st : Int
@[simp] def Ent.d (e : Ent) : D := .tup [.str e.kd, .int e.fi, .int e.la, .int e.pr, .int e.st]
structure Ent.Ok (e : Ent) : Prop where
  kd : KdOk e.kd
  p0 : 0 ≤ e.pr ∧ e.pr < 1000000
  f0 : 0 ≤ e.fi ∧ e.fi ≤ 24
  l0 : 0 ≤ e.la ∧ e.la ≤ 24
  s0 : 0 < e.st ∧ e.st < 1000000
theorem ent_turn (ns : List Int) (s : Dw) (es : List Ent) (i : Int) (o3 o7 o8 o9 o10 o11 : Option D) (hl : es.length < 100) : ∃ (s2 : Dw) (e : Ent) (p3 p7 p8 p9 p10 p11 : Option D),
    sTurn lg__law_tariff_1 lb__law_tariff_2 (.int i) [some s.d, some (scr ns), some (.lst true (es.map Ent.d)), o3, none, none, none, o7, o8, o9, o10, o11] =
      .ok (.nx, [some s2.d, some (scr ns), some (.lst true ((es ++ [e]).map Ent.d)), p3, none, none, none, p7, p8, p9, p10, p11]) ∧ e.Ok := by
  obtain ⟨v1, s1, d1, a1, b1⟩ := draw_at ns s (m := 6) (by decide) (by decide)
  obtain ⟨j1, kd, e1, m1⟩ := pickS ["start", "unit", "tick", "blocked", "unit", "tick"] v1 (by simp; omega)
  have hk := kinds kd m1
  obtain ⟨v2, s2, d2, a2, b2⟩ := draw_at ns s1 (m := 24) (by decide) (by decide)
  obtain ⟨v3, s3, d3, a3, b3⟩ := draw_at ns s2 (m := 4) (by decide) (by decide)
  obtain ⟨j3, f, e3, m3⟩ := pickN [0, 0, v2, 23] v3 (by simp; omega)
  have hf : 0 ≤ f ∧ f ≤ 24 := by simp at m3; omega
  obtain ⟨v4, s4, d4, a4, b4⟩ := draw_at ns s3 (m := 25) (by decide) (by decide)
  obtain ⟨v5, s5, d5, a5, b5⟩ := draw_at ns s4 (m := 4) (by decide) (by decide)
  obtain ⟨j5, l, e5, m5⟩ := pickN [24, f, v4, 0] v5 (by simp; omega)
  have hla : 0 ≤ l ∧ l ≤ 24 := by simp at m5; omega
  obtain ⟨v6, s6, d6, a6, b6⟩ := draw_at ns s5 (m := 100) (by decide) (by decide)
  obtain ⟨v7, s7, d7, a7, b7⟩ := draw_at ns s6 (m := 10000) (by decide) (by decide)
  obtain ⟨v8, s8, d8, a8, b8⟩ := draw_at ns s7 (m := 4) (by decide) (by decide)
  obtain ⟨j8, p, e8, m8⟩ := pickN [v6, v7, 0, 9999] v8 (by simp; omega)
  have hp : 0 ≤ p ∧ p < 1000000 := by simp at m8; omega
  obtain ⟨v9, s9, d9, a9, b9⟩ := draw_at ns s8 (m := 20) (by decide) (by decide)
  obtain ⟨v10, s10, d10, a10, b10⟩ := draw_at ns s9 (m := 5) (by decide) (by decide)
  obtain ⟨v11, s11, d11, a11, b11⟩ := draw_at ns s10 (m := 4) (by decide) (by decide)
  obtain ⟨j11, st, e11, m11⟩ := pickN [1, 20, 1 + v9, 1 + v10] v11 (by simp; omega)
  have hst : 0 < st ∧ st < 1000000 := by simp at m11; omega
  have hq := eqv_str (b := "start") hk (by decide +kernel)
  have hz := size_big (n := es.length) (by omega)
  simp at e1 e3 e5 e8 e11 d1 d2 d3 d4 d5 d6 d7 d8 d9 d10 d11
  by_cases hs : kd = "start"
  · refine ⟨s8, ⟨kd, f, l, p, 1⟩, some (.int i), some (.str kd), some (.int f), some (.int l), some (.int p), some (.int 1), ?_, ⟨hk, hp, hf, hla, by dsimp only; omega⟩⟩
    have hq2 : D.eqv (.str kd) (.str "start") = some true := by rw [hq, decide_eq_true hs]
    simp [lg__law_tariff_1, lb__law_tariff_2, d1, d2, d3, d4, d5, d6, d7, d8, e1, e3, e5, e8, hq2, hz]
  · refine ⟨s11, ⟨kd, f, l, p, st⟩, some (.int i), some (.str kd), some (.int f), some (.int l), some (.int p), some (.int st), ?_, ⟨hk, hp, hf, hla, hst⟩⟩
    have hq2 : D.eqv (.str kd) (.str "start") = some false := by rw [hq, decide_eq_false hs]
    simp [lg__law_tariff_1, lb__law_tariff_2, d1, d2, d3, d4, d5, d6, d7, d8, d9, d10, d11, e1, e3, e5, e8, e11, hq2, hz]
@[simp] theorem ents_fzd : ∀ es : List Ent, fzdL (es.map Ent.d) = true
  | [] => rfl
  | e :: es => by simp [ents_fzd es]
structure Tar where
  es : List Ent
  least : Int
  most : Int
  taxes : List Int
@[simp] def Tar.d (t : Tar) : D := .tup [.tup (t.es.map Ent.d), .int t.least, .int t.most, .tup (t.taxes.map D.int)]
structure Tar.Ok (t : Tar) : Prop where
  es : ∀ e ∈ t.es, e.Ok
  el : t.es.length ≤ 12
  tx : ∀ x ∈ t.taxes, 0 ≤ x ∧ x < 1000000
  tl : t.taxes.length ≤ 4
  lm : t.least ≤ t.most
theorem ents_loop (ns : List Int) (s : Dw) (n : Int) (hn : 0 ≤ n ∧ n ≤ 12) : ∃ (s2 : Dw) (es : List Ent) (p3 p7 p8 p9 p10 p11 : Option D),
    sLoop lg__law_tariff_1 lb__law_tariff_2 ((rangeI 0 n.toNat).map D.int) [some s.d, some (scr ns), some (.lst true []), none, none, none, none, none, none, none, none, none] =
      .ok (.nx, [some s2.d, some (scr ns), some (.lst true (es.map Ent.d)), p3, none, none, none, p7, p8, p9, p10, p11]) ∧ (∀ e ∈ es, e.Ok) ∧ es.length ≤ 12 := by
  obtain ⟨E2, e, s2, es, p3, p7, p8, p9, p10, p11, rfl, h1, h2⟩ := sLoop_run (g := lg__law_tariff_1) (b := lb__law_tariff_2) D.int (fun j E => ∃ (s2 : Dw) (es : List Ent) (p3 p7 p8 p9 p10 p11 : Option D), E = [some s2.d, some (scr ns), some (.lst true (es.map Ent.d)), p3, none, none, none, p7, p8, p9, p10, p11] ∧ (∀ e ∈ es, e.Ok) ∧ es.length = j) (rangeI 0 n.toNat) 0
    [some s.d, some (scr ns), some (.lst true []), none, none, none, none, none, none, none, none, none] ⟨s, [], none, none, none, none, none, none, rfl, (fun _ h => nomatch h), rfl⟩ fun j E a ha hE => by
      obtain ⟨s2, es, p3, p7, p8, p9, p10, p11, rfl, h1, h2⟩ := hE
      have hj := (List.getElem?_eq_some_iff.mp ha).1
      simp [rangeI] at hj
      obtain ⟨s3, e, q3, q7, q8, q9, q10, q11, h, hok⟩ := ent_turn ns s2 es a p3 p7 p8 p9 p10 p11 (by omega)
      refine ⟨_, h, s3, es ++ [e], q3, q7, q8, q9, q10, q11, rfl, fun x hx => ?_, by simp; omega⟩
      rcases List.mem_append.mp hx with hx | hx
      · exact h1 x hx
      · rw [List.mem_singleton.mp hx]
        exact hok
  refine ⟨s2, es, p3, p7, p8, p9, p10, p11, e, h1, ?_⟩
  rw [h2]
  simp [rangeI]
  omega
theorem taxes_loop (ns : List Int) (s : Dw) (n : Int) (hn : 0 ≤ n ∧ n ≤ 4) (o2 o4 o5 o6 p7 p8 p9 p10 p11 : Option D) : ∃ (s2 : Dw) (xs : List Int),
    lcLoop [3] cg__law_tariff_3 ct__law_tariff_4 ce__law_tariff_5 ((rangeI 0 n.toNat).map D.int) [some s.d, some (scr ns), o2, none, o4, o5, o6, p7, p8, p9, p10, p11] [] =
      .ok ([some s2.d, some (scr ns), o2, none, o4, o5, o6, p7, p8, p9, p10, p11], xs.map D.int) ∧ (∀ x ∈ xs, 0 ≤ x ∧ x < 1000000) ∧ xs.length ≤ 4 := by
  obtain ⟨E2, acc, e, s2, xs, rfl, rfl, h1, h2⟩ := lcLoop_run (vs := [3]) (g := cg__law_tariff_3) (t := ct__law_tariff_4) (re := ce__law_tariff_5) D.int (fun j E acc => ∃ (s2 : Dw) (xs : List Int), E = [some s2.d, some (scr ns), o2, none, o4, o5, o6, p7, p8, p9, p10, p11] ∧ acc = xs.map D.int ∧ (∀ x ∈ xs, 0 ≤ x ∧ x < 1000000) ∧ xs.length = j) (rangeI 0 n.toNat) 0
    [some s.d, some (scr ns), o2, none, o4, o5, o6, p7, p8, p9, p10, p11] [] ⟨s, [], rfl, rfl, (fun _ h => nomatch h), rfl⟩ fun j E acc a ha hE => by
      obtain ⟨s2, xs, rfl, rfl, h1, h2⟩ := hE
      have hj := (List.getElem?_eq_some_iff.mp ha).1
      simp [rangeI] at hj
      obtain ⟨v1, s3, d1, a1, b1⟩ := draw_at ns s2 (m := 1000) (by decide) (by decide)
      obtain ⟨v2, s4, d2, a2, b2⟩ := draw_at ns s3 (m := 4) (by decide) (by decide)
      obtain ⟨j3, f, e3, m3⟩ := pickN [200, v1, 0, 999] v2 (by simp; omega)
      simp at e3 d1 d2 m3
      have hz := size_big (n := xs.length) (by omega)
      refine ⟨[some s4.d, some (scr ns), o2, some (.int a), o4, o5, o6, p7, p8, p9, p10, p11], (xs ++ [f]).map D.int, ?_, s4, xs ++ [f], by simp, rfl, fun x hx => ?_, by simp; omega⟩
      · simp [cg__law_tariff_3, ct__law_tariff_4, ce__law_tariff_5, d1, d2, e3, hz]
      · rcases List.mem_append.mp hx with hx | hx
        · exact h1 x hx
        · rw [List.mem_singleton.mp hx]
          omega
  refine ⟨s2, xs, e, h1, ?_⟩
  rw [h2]
  simp [rangeI]
  omega
theorem tariff_at (ns : List Int) (s : Dw) : ∃ (s2 : Dw) (t : Tar), fs__law_tariff.run [s.d, scr ns] = .ok (t.d, some s2.d) ∧ t.Ok := by
  obtain ⟨v1, s1, d1, a1, b1⟩ := draw_at ns s (m := 12) (by decide) (by decide)
  obtain ⟨v2, s2, d2, a2, b2⟩ := draw_at ns s1 (m := 5) (by decide) (by decide)
  obtain ⟨j2, n, e2, m2⟩ := pickN [1, 3, 6, 12, 1 + v1] v2 (by simp; omega)
  have hn : 0 ≤ n ∧ n ≤ 12 := by simp at m2; omega
  have bn : Bnd n := by unfold Bnd; omega
  obtain ⟨s3, es, p3, p7, p8, p9, p10, p11, l1, hes, hel⟩ := ents_loop ns s2 n hn
  obtain ⟨v4, s4, d4, a4, b4⟩ := draw_at ns s3 (m := 500) (by decide) (by decide)
  obtain ⟨v5, s5, d5, a5, b5⟩ := draw_at ns s4 (m := 20000) (by decide) (by decide)
  obtain ⟨v6, s6, d6, a6, b6⟩ := draw_at ns s5 (m := 4) (by decide) (by decide)
  obtain ⟨j6, le, e6, m6⟩ := pickN [0, 0, v4, v5] v6 (by simp; omega)
  obtain ⟨v7, s7, d7, a7, b7⟩ := draw_at ns s6 (m := 5000) (by decide) (by decide)
  obtain ⟨v8, s8, d8, a8, b8⟩ := draw_at ns s7 (m := 900000) (by decide) (by decide)
  obtain ⟨v9, s9, d9, a9, b9⟩ := draw_at ns s8 (m := 4) (by decide) (by decide)
  obtain ⟨j9, mo, e9, m9⟩ := pickN [999999 - le, v7, 0, v8] v9 (by simp; omega)
  obtain ⟨v10, s10, d10, a10, b10⟩ := draw_at ns s9 (m := 4) (by decide) (by decide)
  have bn2 : Bnd v10 := by unfold Bnd; omega
  obtain ⟨s11, xs, l2, hx, hxl⟩ := taxes_loop ns s10 v10 (by omega) (some (.lst true (es.map Ent.d))) (some (.int le)) (some (.int (le + mo))) none p7 p8 p9 p10 p11
  have hle : 0 ≤ le ∧ le ≤ 20000 := by simp at m6; omega
  have hmo : 0 ≤ mo := by simp at m9; omega
  have hmin : minL 999999 [le + mo] = if le + mo < 999999 then le + mo else 999999 := rfl
  simp at e2 e6 e9 d1 d2 d4 d5 d6 d7 d8 d9 d10 l1 l2
  refine ⟨s11, ⟨es, le, minL 999999 [le + mo], xs⟩, ?_, ⟨hes, hel, hx, hxl, by dsimp only; rw [hmin]; split <;> omega⟩⟩
  simp [fs__law_tariff, r__law_tariff, d1, d2, e2, bn, l1, d4, d5, d6, e6, d7, d8, d9, e9, d10, bn2, l2, bMin]
end K82

namespace K82
open PySem L2 DV
theorem ixN_of {n : Nat} {i : Int} (h0 : 0 ≤ i) (h1 : i < n) : ixN n i = some i.toNat := by
  unfold L2.ixN
  rw [if_pos h0]
  first
    | rw [if_pos h1]
    | (have : i.toNat < n := by omega
       simp [this])
theorem set_map {α β : Type} (g : α → β) (xs : List α) (j : Nat) (a : α) : (xs.map g).set j (g a) = (xs.set j a).map g := (List.map_set).symm
theorem units_loop (ns : List Int) (s : Dw) (b n : Int) (hn : 0 ≤ n ∧ n ≤ 96) : ∃ (s2 : Dw) (xs : List Int) (p4 : Option D),
    sLoop lg__law_course_1 lb__law_course_2 ((rangeI 0 n.toNat).map D.int) [some s.d, some (scr ns), some (.int b), some (.lst true []), none] = .ok (.nx, [some s2.d, some (scr ns), some (.int b), some (.lst true (xs.map D.int)), p4]) ∧ xs.length ≤ 96 ∧ ∀ x ∈ xs, 0 ≤ x := by
  obtain ⟨E2, e, s2, xs, p4, rfl, h2, h3⟩ := sLoop_run (g := lg__law_course_1) (b := lb__law_course_2) D.int (fun j E => ∃ (s2 : Dw) (xs : List Int) (p4 : Option D), E = [some s2.d, some (scr ns), some (.int b), some (.lst true (xs.map D.int)), p4] ∧ xs.length = j ∧ ∀ x ∈ xs, 0 ≤ x) (rangeI 0 n.toNat) 0
    [some s.d, some (scr ns), some (.int b), some (.lst true []), none] ⟨s, [], none, rfl, rfl, fun _ h => nomatch h⟩ fun j E a ha hE => by
      obtain ⟨s2, xs, p4, rfl, h2, h3⟩ := hE
      have hj := (List.getElem?_eq_some_iff.mp ha).1
      simp [rangeI] at hj
      obtain ⟨v1, s3, d1, a1, b1⟩ := draw_at ns s2 (m := 100) (by decide) (by decide)
      obtain ⟨v2, s4, d2, a2, b2⟩ := draw_at ns s3 (m := 6) (by decide) (by decide)
      obtain ⟨v3, s5, d3, a3, b3⟩ := draw_at ns s4 (m := 4) (by decide) (by decide)
      obtain ⟨j4, u, e4, m4⟩ := pickN [0, 0, v1, 1 + v2] v3 (by simp; omega)
      have hu : 0 ≤ u := by simp at m4; omega
      simp at e4 d1 d2 d3
      have hz := size_big (n := xs.length) (by omega)
      refine ⟨[some s5.d, some (scr ns), some (.int b), some (.lst true ((xs ++ [u]).map D.int)), some (.int a)], ?_, s5, xs ++ [u], some (.int a), rfl, by simp; omega, fun x hx => by
        rcases List.mem_append.mp hx with hx | hx
        · exact h3 x hx
        · rw [List.mem_singleton.mp hx]; exact hu⟩
      simp [lg__law_course_1, lb__law_course_2, d1, d2, d3, e4, hz]
  refine ⟨s2, xs, p4, e, ?_, h3⟩
  rw [h2]
  simp [rangeI]
  omega
theorem idle_loop (ns : List Int) (s : Dw) (b : Int) (n : Nat) (xs : List Int) (hn : n ≤ xs.length) (hx : ∀ x ∈ xs, 0 ≤ x) (p4 : Option D) : ∃ (ys : List Int) (q4 : Option D),
    sLoop lg__law_course_3 lb__law_course_4 ((rangeI 0 n).map D.int) [some s.d, some (scr ns), some (.int b), some (.lst true (xs.map D.int)), p4] = .ok (.nx, [some s.d, some (scr ns), some (.int b), some (.lst true (ys.map D.int)), q4]) ∧ ys.length = xs.length ∧ ∀ y ∈ ys, 0 ≤ y := by
  obtain ⟨E2, e, ys, q4, rfl, h2, h3⟩ := sLoop_run (g := lg__law_course_3) (b := lb__law_course_4) D.int (fun j E => ∃ (ys : List Int) (q4 : Option D), E = [some s.d, some (scr ns), some (.int b), some (.lst true (ys.map D.int)), q4] ∧ ys.length = xs.length ∧ ∀ y ∈ ys, 0 ≤ y) (rangeI 0 n) 0
    [some s.d, some (scr ns), some (.int b), some (.lst true (xs.map D.int)), p4] ⟨xs, p4, rfl, rfl, hx⟩ fun j E a ha hE => by
      obtain ⟨ys, q4, rfl, h2, h3⟩ := hE
      have hj := (List.getElem?_eq_some_iff.mp ha).1
      have ea : a = (j : Int) := by
        have := (List.getElem?_eq_some_iff.mp ha).2
        simp [rangeI] at this
        omega
      simp [rangeI] at hj
      subst ea
      have hix := ixN_of (n := ys.length) (i := (ys.length : Int) - 1 - (j : Int)) (by omega) (by omega)
      refine ⟨[some s.d, some (scr ns), some (.int b), some (.lst true ((ys.set ((ys.length : Int) - 1 - (j : Int)).toNat 0).map D.int)), some (.int j)], ?_, ys.set ((ys.length : Int) - 1 - (j : Int)).toNat 0, some (.int j), rfl, by simp [h2], fun y hy => by
        rcases List.mem_or_eq_of_mem_set hy with hy | hy
        · exact h3 y hy
        · omega⟩
      simp [lg__law_course_3, lb__law_course_4, gSubD, muSet, hix, ← set_map]
  exact ⟨ys, q4, e, h2, h3⟩
structure Crs where
  b : Int
  us : List Int
  g : Int
@[simp] def Crs.d (c : Crs) : D := .tup [.int c.b, .lst false (c.us.map D.int), .int c.g]
theorem course_at (ns : List Int) (s : Dw) (b : Int) : ∃ (s2 : Dw) (c : Crs), fs__law_course.run [s.d, scr ns, .int b] = .ok (c.d, some s2.d) ∧ c.us.length ≤ 96 ∧ (∀ u ∈ c.us, 0 ≤ u) ∧ 0 ≤ c.g := by
  obtain ⟨v1, s1, d1, a1, b1⟩ := draw_at ns s (m := 97) (by decide) (by decide)
  obtain ⟨v2, s2, d2, a2, b2⟩ := draw_at ns s1 (m := 5) (by decide) (by decide)
  obtain ⟨j2, n, e2, m2⟩ := pickN [0, 1, 30, 96, v1] v2 (by simp; omega)
  have hn : 0 ≤ n ∧ n ≤ 96 := by simp at m2; omega
  have bn : Bnd n := by unfold Bnd; omega
  obtain ⟨s3, xs, p4, l1, hx, hx0⟩ := units_loop ns s2 b n hn
  obtain ⟨v4, s4, d4, a4, b4⟩ := draw_at ns s3 (m := 40) (by decide) (by decide)
  obtain ⟨v5, s5, d5, a5, b5⟩ := draw_at ns s4 (m := 5) (by decide) (by decide)
  obtain ⟨j5, k, e5, m5⟩ := pickN [0, 3, 10, 96, v4] v5 (by simp; omega)
  have hk : 0 ≤ k ∧ k ≤ 96 := by simp at m5; omega
  have hm : 0 ≤ minL (xs.length : Int) [k] ∧ minL (xs.length : Int) [k] ≤ xs.length := by
    show 0 ≤ (if k < (xs.length : Int) then k else (xs.length : Int)) ∧ (if k < (xs.length : Int) then k else (xs.length : Int)) ≤ _
    split <;> omega
  have bn2 : Bnd (minL (xs.length : Int) [k]) := by unfold Bnd; omega
  obtain ⟨ys, q4, l2, hy, hy0⟩ := idle_loop ns s5 b (minL (xs.length : Int) [k]).toNat xs (by omega) hx0 p4
  obtain ⟨v6, s6, d6, a6, b6⟩ := draw_at ns s5 (m := 12) (by decide) (by decide)
  obtain ⟨v7, s7, d7, a7, b7⟩ := draw_at ns s6 (m := 4) (by decide) (by decide)
  obtain ⟨j7, g, e7, m7⟩ := pickN [0, 1, v6, 96] v7 (by simp; omega)
  have hg : 0 ≤ g := by simp at m7; omega
  simp at e2 e5 e7 d1 d2 d4 d5 d6 d7 l1 l2
  refine ⟨s7, ⟨b, ys, g⟩, ?_, by dsimp only; omega, hy0, hg⟩
  simp [fs__law_course, r__law_course, d1, d2, e2, bn, l1, d4, d5, e5, bMin, bn2, l2, d6, d7, e7]
end K82

namespace K82
open PySem L2 DV
@[simp] theorem ents_fz (es : List Ent) : fzL (es.map Ent.d) = es.map Ent.d := fzL_id _ (ents_fzd es)
/-- does an entry count at an hour of the day -/
def appl (e : Ent) (h : Int) : Bool := if e.fi < e.la then decide (e.fi ≤ h) && decide (h < e.la) else decide (e.fi ≤ h) || decide (h < e.la)
theorem applies_at (e : Ent) (t : Int) : fs_applies.run [e.d, .int t] = .ok (.bl (appl e (t % 24)), none) := by
  unfold appl
  by_cases h1 : e.fi < e.la
  · by_cases h2 : e.fi ≤ t % 24
    · by_cases h3 : t % 24 < e.la
      · simp [fs_applies, r_applies, h1, h2, h3]
      · simp [fs_applies, r_applies, h1, h2, h3]
    · simp [fs_applies, r_applies, h1, h2]
  · by_cases h2 : e.fi ≤ t % 24
    · simp [fs_applies, r_applies, h1, h2]
    · by_cases h3 : t % 24 < e.la
      · simp [fs_applies, r_applies, h1, h2, h3]
      · simp [fs_applies, r_applies, h1, h2, h3]
/-- the first entry that counts -/
def fits (kd : Str) (h : Int) (p : Ent × Nat) : Bool := decide (p.1.kd = kd) && appl p.1 h
def cnt (es : List Ent) (kd : Str) (h : Int) : Option Nat := (es.zipIdx.find? (fits kd h)).map Prod.snd
theorem cnt_lt {es : List Ent} {kd : Str} {h : Int} {i : Nat} (e : cnt es kd h = some i) : i < es.length := by
  unfold cnt at e
  cases h2 : es.zipIdx.find? (fits kd h) with
  | none => rw [h2] at e; cases e
  | some p =>
    rw [h2] at e
    cases e
    exact (List.getElem?_eq_some_iff.mp (zipIdx_mem (List.mem_of_find?_eq_some h2))).1
def cntD (o : Option Nat) : D := match o with
  | none => .non
  | some i => .int (i : Nat)
theorem sLoop_find {α : Type} {g : GvR} {b : SvR} (ga : α → D) (I : DV.Env → Prop) (p : α → Bool) (x : α → D) : ∀ (xs : List α) (E : DV.Env), I E → (∀ a E, a ∈ xs → I E → if p a = true then ∃ E2, sTurn g b (ga a) E = .ok (.rt (x a), E2) else ∃ E2, sTurn g b (ga a) E = .ok (.nx, E2) ∧ I E2) →
    (∃ a E2, xs.find? p = some a ∧ sLoop g b (xs.map ga) E = .ok (.rt (x a), E2)) ∨ ∃ E2, xs.find? p = none ∧ sLoop g b (xs.map ga) E = .ok (.nx, E2) ∧ I E2
  | [], E, hE, _ => .inr ⟨E, rfl, rfl, hE⟩
  | a :: xs, E, hE, h => by
    have h1 := h a E List.mem_cons_self hE
    rw [List.map_cons, List.find?_cons]
    cases hp : p a with
    | true =>
      rw [hp, if_pos rfl] at h1
      obtain ⟨E2, h1⟩ := h1
      exact .inl ⟨a, E2, rfl, sLoop_rt h1⟩
    | false =>
      rw [hp, if_neg (by decide)] at h1
      obtain ⟨E2, h1, h2⟩ := h1
      rcases sLoop_find ga I p x xs E2 h2 fun b E hb => h b E (List.mem_cons_of_mem _ hb) with ⟨b, E3, h3, h4⟩ | ⟨E3, h3, h4, h5⟩
      · exact .inl ⟨b, E3, h3, (sLoop_nx h1).trans h4⟩
      · exact .inr ⟨E3, h3, (sLoop_nx h1).trans h4, h5⟩
theorem counted_at (es : List Ent) (hes : ∀ e ∈ es, e.Ok) {kd : Str} (hk : KdOk kd) (t : Int) : fs_counted.run [.tup (es.map Ent.d), .str kd, .int t] = .ok (cntD (cnt es kd (t % 24)), none) := by
  have L := sLoop_find (g := lg_counted_1) (b := lb_counted_2) (fun p : Ent × Nat => .tup [.int (p.2 : Nat), p.1.d]) (fun E => ∃ o3 o4, E = [some (.tup (es.map Ent.d)), some (.str kd), some (.int t), o3, o4]) (fits kd (t % 24)) (fun p => .int (p.2 : Nat)) es.zipIdx
    [some (.tup (es.map Ent.d)), some (.str kd), some (.int t), none, none] ⟨none, none, rfl⟩ fun p E hp hE => by
      obtain ⟨o3, o4, rfl⟩ := hE
      have hm : p.1 ∈ es := List.mem_of_getElem? (zipIdx_mem hp)
      have hb := applies_at p.1 t
      have hq := eqv_str (hes _ hm).kd hk
      simp at hb
      unfold fits
      by_cases h1 : p.1.kd = kd
      · rw [decide_eq_true h1] at hq ⊢
        cases hap : appl p.1 (t % 24) with
        | true =>
          rw [hap] at hb
          exact ⟨[some (.tup (es.map Ent.d)), some (.str kd), some (.int t), none, some p.1.d], by simp [lg_counted_1, lb_counted_2, hq, hb]⟩
        | false =>
          rw [hap] at hb
          exact ⟨[some (.tup (es.map Ent.d)), some (.str kd), some (.int t), some (.int p.2), some p.1.d], by simp [lg_counted_1, lb_counted_2, hq, hb], _, _, rfl⟩
      · rw [decide_eq_false h1] at hq ⊢
        exact ⟨[some (.tup (es.map Ent.d)), some (.str kd), some (.int t), some (.int p.2), some p.1.d], by simp [lg_counted_1, lb_counted_2, hq], _, _, rfl⟩
  rw [← enumD_map] at L
  unfold cnt
  rcases L with ⟨p, E2, h1, h2⟩ | ⟨E2, h1, h2, o3, o4, rfl⟩
  · rw [h1]
    simp [fs_counted, r_counted, h2, cntD]
  · rw [h1]
    simp [fs_counted, r_counted, h2, cntD]
structure Ev where
  kd : Str
  t : Int
  q : Int
@[simp] def Ev.d (e : Ev) : D := .tup [.str e.kd, .int e.t, .int e.q]
@[simp] theorem evs_fzd : ∀ es : List Ev, fzdL (es.map Ev.d) = true
  | [] => rfl
  | e :: es => by simp [evs_fzd es]
@[simp] theorem evs_fz (es : List Ev) : fzL (es.map Ev.d) = es.map Ev.d := fzL_id _ (evs_fzd es)
theorem kd_unit : KdOk "unit" := by unfold KdOk; decide +kernel
theorem kd_tick : KdOk "tick" := by unfold KdOk; decide +kernel
theorem kd_blocked : KdOk "blocked" := by unfold KdOk; decide +kernel
theorem kd_start : KdOk "start" := by unfold KdOk; decide +kernel
/-- the last tick with units, and one -/
def busy (us : List Int) : Int := match (us.zipIdx.filter fun p => decide (p.1 > 0)).map fun p : Int × Nat => (p.2 : Int) + 1 with
  | [] => 0
  | n :: ms => maxL n ms
def evsAt (b bz gr : Int) (p : Int × Nat) : List Ev := Ev.mk "unit" (b + p.2) p.1 :: (if (p.2 : Int) < bz then [Ev.mk "tick" (b + p.2) 1] else if bz + gr ≤ (p.2 : Int) then [Ev.mk "blocked" (b + p.2) 1] else [])
def evsF (c : Crs) : List Ev := Ev.mk "start" c.b 1 :: c.us.zipIdx.flatMap (evsAt c.b (busy c.us) c.g)
theorem evsAt_len (b bz gr : Int) (p : Int × Nat) : (evsAt b bz gr p).length ≤ 2 := by
  unfold evsAt
  split
  · simp
  · split <;> simp
theorem evsAt_ok (b bz gr : Int) (p : Int × Nat) : ∀ e ∈ evsAt b bz gr p, KdOk e.kd := by
  intro e he
  unfold evsAt at he
  rcases List.mem_cons.mp he with rfl | he
  · exact kd_unit
  · split at he
    · rw [List.mem_singleton.mp he]; exact kd_tick
    · split at he
      · rw [List.mem_singleton.mp he]; exact kd_blocked
      · cases he
theorem evsF_ok (c : Crs) : ∀ e ∈ evsF c, KdOk e.kd := by
  intro e he
  rcases List.mem_cons.mp he with rfl | he
  · exact kd_start
  · obtain ⟨p, _, hp⟩ := List.mem_flatMap.mp he
    exact evsAt_ok _ _ _ _ e hp
theorem events_loop (b bz gr : Int) (X : D) (us : List Int) : ∀ (ps : List (Int × Nat)) (acc : List Ev) (o6 o7 o8 : Option D), acc.length + 2 * ps.length < 100000 → ∃ q6 q7 q8,
    sLoop lg_events_4 lb_events_5 (ps.map fun p : Int × Nat => .tup [.int (p.2 : Nat), .int p.1]) [some X, some (.int bz), some (.lst true (acc.map Ev.d)), some (.int b), some (.lst false (us.map D.int)), some (.int gr), o6, o7, o8] =
      .ok (.nx, [some X, some (.int bz), some (.lst true ((acc ++ ps.flatMap (evsAt b bz gr)).map Ev.d)), some (.int b), some (.lst false (us.map D.int)), some (.int gr), q6, q7, q8])
  | [], acc, o6, o7, o8, _ => ⟨o6, o7, o8, by simp [sLoop_nil]⟩
  | p :: ps, acc, o6, o7, o8, hl => by
    have h2 := evsAt_len b bz gr p
    have hl : acc.length + 2 * (ps.length + 1) < 100000 := hl
    obtain ⟨q6, q7, q8, e⟩ := events_loop b bz gr X us ps (acc ++ evsAt b bz gr p) (some (.int p.2)) (some (.int p.1)) (some (.int (b + p.2))) (by rw [List.length_append]; omega)
    refine ⟨q6, q7, q8, ?_⟩
    have hz := size_big (n := acc.length) (by omega)
    have hz2 := size_big (n := acc.length + 1) (by omega)
    have e1 : sTurn lg_events_4 lb_events_5 (.tup [.int (p.2 : Nat), .int p.1]) [some X, some (.int bz), some (.lst true (acc.map Ev.d)), some (.int b), some (.lst false (us.map D.int)), some (.int gr), o6, o7, o8] =
        .ok (.nx, [some X, some (.int bz), some (.lst true ((acc ++ evsAt b bz gr p).map Ev.d)), some (.int b), some (.lst false (us.map D.int)), some (.int gr), some (.int p.2), some (.int p.1), some (.int (b + p.2))]) := by
      unfold evsAt
      by_cases c1 : (p.2 : Int) < bz
      · simp [lg_events_4, lb_events_5, hz, hz2, c1]
      · by_cases c2 : bz + gr ≤ (p.2 : Int)
        · simp [lg_events_4, lb_events_5, hz, hz2, c1, c2]
        · simp [lg_events_4, lb_events_5, hz, c1, c2]
    rw [List.map_cons, sLoop_nx e1, e, List.flatMap_cons, List.append_assoc]
theorem events_at (c : Crs) (hc : c.us.length ≤ 96) : fs_events.run [c.d] = .ok (.lst true ((evsF c).map Ev.d), none) := by
  obtain ⟨b, us, gr⟩ := c
  have e1 := lcLoop_filter (vs := [6, 7]) (g := cg_events_1) (t := ct_events_2) (re := ce_events_3) (fun p : Int × Nat => .tup [.int (p.2 : Nat), .int p.1]) (fun p => .int (p.2 + 1)) (fun p => decide (p.1 > 0))
    (E := [some (Crs.d ⟨b, us, gr⟩), none, none, some (.int b), some (.lst false (us.map D.int)), some (.int gr), none, none, none]) us.zipIdx [] (by simp; dsimp only at hc; omega) fun p acc _ ha =>
      ⟨[some (Crs.d ⟨b, us, gr⟩), none, none, some (.int b), some (.lst false (us.map D.int)), some (.int gr), some (.int p.2), some (.int p.1), none], by
        by_cases h : 0 < p.1 <;> simp [cg_events_1, ct_events_2, ce_events_3, h, size_big ha], by simp⟩
  rw [← enumD_map] at e1
  have em : opMaxD (.lst true ([] ++ (us.zipIdx.filter fun p => decide (p.1 > 0)).map fun p => .int (p.2 + 1))) (.int 0) = some (.int (busy us)) := by
    have hm : (us.zipIdx.filter fun p => decide (p.1 > 0)).map (fun p : Int × Nat => D.int (p.2 + 1)) = ((us.zipIdx.filter fun p => decide (p.1 > 0)).map fun p : Int × Nat => (p.2 : Int) + 1).map D.int := by rw [List.map_map]; rfl
    rw [List.nil_append, hm]
    unfold busy
    generalize (us.zipIdx.filter fun p => decide (p.1 > 0)).map (fun p : Int × Nat => (p.2 : Int) + 1) = l
    unfold opMaxD
    simp only [intsD_map]
    cases l <;> rfl
  obtain ⟨q6, q7, q8, e2⟩ := events_loop b (busy us) gr (Crs.d ⟨b, us, gr⟩) us us.zipIdx [Ev.mk "start" b 1] none none none (by simp; dsimp only at hc; omega)
  rw [← enumD_map] at e2
  have ef : [Ev.mk "start" b 1] ++ us.zipIdx.flatMap (evsAt b (busy us) gr) = evsF ⟨b, us, gr⟩ := rfl
  rw [ef] at e2
  generalize evsF ⟨b, us, gr⟩ = ev at e2 ⊢
  simp at e1 e2 em
  simp [fs_events, r_events, e1, em, e2]
end K82

namespace K82
open PySem L2 DV
structure Ln where
  kd : Str
  a : Int
  b : Int
  c : Int
@[simp] def Ln.d (l : Ln) : D := .tup [.str l.kd, .int l.a, .int l.b, .int l.c]
@[simp] theorem lns_fzd : ∀ es : List Ln, fzdL (es.map Ln.d) = true
  | [] => rfl
  | e :: es => by simp [lns_fzd es]
@[simp] theorem lns_fz (es : List Ln) : fzL (es.map Ln.d) = es.map Ln.d := fzL_id _ (lns_fzd es)
@[simp] theorem lns_nofz : ∀ es : List Ln, nofzL (es.map Ln.d) = true
  | [] => rfl
  | e :: es => by simp [lns_nofz es]
def tot (ls : List Ln) : Int := (ls.map Ln.c).sum
theorem tot_append (xs ys : List Ln) : tot (xs ++ ys) = tot xs + tot ys := by simp [tot]
theorem total_at (ls : List Ln) : fs_total.run [.lst false (ls.map Ln.d)] = .ok (.int (tot ls), none) := by
  have e := sgLoop_map (vs := [1, 1, 1, 2]) (g := cg_total_1) (t := ct_total_2) (re := ce_total_3) Ln.d Ln.c (E := [some (.lst false (ls.map Ln.d)), none, none]) ls fun a _ =>
    ⟨[some (.lst false (ls.map Ln.d)), some (.int a.b), some (.int a.c)], by simp [cg_total_1, ct_total_2, ce_total_3], by simp⟩
  simp [fs_total, r_total, e, tot]
/-- a quantity counted -/
def addAt (o : Option Nat) (qs : List Int) (q : Int) : List Int := match o with
  | none => qs
  | some i => qs.set i (qs.getD i 0 + q)
theorem addAt_len (o : Option Nat) (qs : List Int) (q : Int) : (addAt o qs q).length = qs.length := by
  cases o <;> simp [addAt]
def addQ (es : List Ent) (qs : List Int) (e : Ev) : List Int := addAt (cnt es e.kd (e.t % 24)) qs e.q
theorem foldQ_len (es : List Ent) : ∀ (evs : List Ev) (qs : List Int), (evs.foldl (addQ es) qs).length = qs.length
  | [], _ => rfl
  | e :: evs, qs => (foldQ_len es evs (addQ es qs e)).trans (addAt_len _ _ _)
def qF (es : List Ent) (evs : List Ev) : List Int := evs.foldl (addQ es) (List.replicate es.length 0)
theorem qF_len (es : List Ent) (evs : List Ev) : (qF es evs).length = es.length := by
  unfold qF
  rw [foldQ_len, List.length_replicate]
theorem quantities_at (es : List Ent) (hes : ∀ e ∈ es, e.Ok) (hel : es.length ≤ 12) (c : Crs) (hc : c.us.length ≤ 96) : fs_quantities.run [.tup (es.map Ent.d), c.d] = .ok (.lst true ((qF es (evsF c)).map D.int), none) := by
  have e1 := events_at c hc
  have L : ∀ (evs : List Ev) (qs : List Int) (p3 p4 p5 p6 : Option D), (∀ e ∈ evs, KdOk e.kd) → qs.length = es.length → ∃ q3 q4 q5 q6, sLoop lg_quantities_1 lb_quantities_2 (evs.map Ev.d) [some (.tup (es.map Ent.d)), some c.d, some (.lst true (qs.map D.int)), p3, p4, p5, p6] =
      .ok (.nx, [some (.tup (es.map Ent.d)), some c.d, some (.lst true ((evs.foldl (addQ es) qs).map D.int)), q3, q4, q5, q6]) := by
    intro evs
    induction evs with
    | nil => exact fun qs p3 p4 p5 p6 _ _ => ⟨p3, p4, p5, p6, rfl⟩
    | cons a evs ih =>
      intro qs p3 p4 p5 p6 hk hl
      have h := counted_at es hes (hk a List.mem_cons_self) a.t
      have hlt := fun i => cnt_lt (es := es) (kd := a.kd) (h := a.t % 24) (i := i)
      obtain ⟨q3, q4, q5, q6, e⟩ := ih (addQ es qs a) (some (.str a.kd)) (some (.int a.t)) (some (.int a.q)) (some (cntD (cnt es a.kd (a.t % 24)))) (fun e he => hk e (List.mem_cons_of_mem _ he)) ((addAt_len _ _ _).trans hl)
      refine ⟨q3, q4, q5, q6, ?_⟩
      have e1 : sTurn lg_quantities_1 lb_quantities_2 a.d [some (.tup (es.map Ent.d)), some c.d, some (.lst true (qs.map D.int)), p3, p4, p5, p6] = .ok (.nx, [some (.tup (es.map Ent.d)), some c.d, some (.lst true ((addQ es qs a).map D.int)), some (.str a.kd), some (.int a.t), some (.int a.q), some (cntD (cnt es a.kd (a.t % 24)))]) := by
        unfold addQ
        cases hcn : cnt es a.kd (a.t % 24) with
        | none =>
          rw [hcn] at h
          simp [cntD] at h
          simp [lg_quantities_1, lb_quantities_2, h, cntD, addAt]
        | some i =>
          rw [hcn] at h
          simp [cntD] at h
          have hi := hlt i hcn
          have hx : qs[i]? = some qs[i] := List.getElem?_eq_getElem (by omega)
          have hix := ixN_of (n := qs.length) (i := (i : Int)) (by omega) (by omega)
          simp [lg_quantities_1, lb_quantities_2, h, hix, hx, cntD, addAt]
      rw [List.map_cons, sLoop_nx e1, e]
      rfl
  obtain ⟨q3, q4, q5, q6, e2⟩ := L (evsF c) (List.replicate es.length 0) none none none none (evsF_ok c) (by simp)
  have ef : (evsF c).foldl (addQ es) (List.replicate es.length 0) = qF es (evsF c) := rfl
  rw [ef] at e2
  generalize qF es (evsF c) = qs at e2 ⊢
  have h12 : (es.length : Int) ≤ 100000 := by omega
  simp at e1 e2
  simp [fs_quantities, r_quantities, e1, e2, h12]
def lnAt (es : List Ent) (p : Int × Nat) : List Ln := match es[p.2]? with
  | some e => if 0 < p.1 then [Ln.mk "entry" p.2 p.1 (e.pr * -(-p.1 / e.st))] else []
  | none => []
theorem lnAt_len (es : List Ent) (p : Int × Nat) : (lnAt es p).length ≤ 1 := by
  unfold lnAt
  split
  · split <;> simp
  · simp
theorem lnAt_ok (es : List Ent) (p : Int × Nat) : ∀ l ∈ lnAt es p, KdOk l.kd := by
  intro l hl
  unfold lnAt at hl
  split at hl
  · split at hl
    · rw [List.mem_singleton.mp hl]
      show PyData.strOk "entry" = true
      decide +kernel
    · cases hl
  · cases hl
def linesF (es : List Ent) (qs : List Int) : List Ln := qs.zipIdx.flatMap (lnAt es)
theorem flat_len {α β : Type} (f : α → List β) (h : ∀ a, (f a).length ≤ 1) : ∀ xs : List α, (xs.flatMap f).length ≤ xs.length
  | [] => by simp
  | x :: xs => by
    have := flat_len f h xs
    have := h x
    rw [List.flatMap_cons, List.length_append, List.length_cons]
    omega
theorem linesF_len (es : List Ent) (qs : List Int) : (linesF es qs).length ≤ qs.length := by
  have := flat_len (lnAt es) (lnAt_len es) qs.zipIdx
  rw [List.length_zipIdx] at this
  exact this
theorem linesF_ok (es : List Ent) (qs : List Int) : ∀ l ∈ linesF es qs, KdOk l.kd := by
  intro l hl
  obtain ⟨p, _, hp⟩ := List.mem_flatMap.mp hl
  exact lnAt_ok es p l hp
theorem lines_loop (t : Tar) (ht : t.Ok) (X : D) : ∀ (ps : List (Int × Nat)) (acc : List Ln) (o8 o9 o10 o11 o12 : Option D), (∀ p ∈ ps, p.2 < t.es.length) → acc.length + ps.length < 1000 → ∃ (p8 p9 p10 p11 p12 : Option D),
    sLoop lg_bill_1 lb_bill_2 (ps.map fun p : Int × Nat => .tup [.int (p.2 : Nat), .int p.1]) [some t.d, some X, some (.lst true (acc.map Ln.d)), none, some (.tup (t.es.map Ent.d)), some (.int t.least), some (.int t.most), some (.tup (t.taxes.map D.int)), o8, o9, o10, o11, o12, none] =
      .ok (.nx, [some t.d, some X, some (.lst true ((acc ++ ps.flatMap (lnAt t.es)).map Ln.d)), none, some (.tup (t.es.map Ent.d)), some (.int t.least), some (.int t.most), some (.tup (t.taxes.map D.int)), p8, p9, p10, p11, p12, none])
  | [], acc, o8, o9, o10, o11, o12, _, _ => ⟨o8, o9, o10, o11, o12, by simp [sLoop_nil]⟩
  | p :: ps, acc, o8, o9, o10, o11, o12, hp, hl => by
    have hlt := hp p List.mem_cons_self
    have hl : acc.length + (ps.length + 1) < 1000 := hl
    have h1 := lnAt_len t.es p
    have he : t.es[p.2]? = some t.es[p.2] := List.getElem?_eq_getElem hlt
    have hok := ht.es t.es[p.2] (List.getElem_mem _)
    obtain ⟨p8, p9, p10, p11, p12, e⟩ := lines_loop t ht X ps (acc ++ lnAt t.es p) (some (.int p.2)) (some (.int p.1)) (some (.int t.es[p.2].la)) (some (.int t.es[p.2].pr)) (some (.int t.es[p.2].st)) (fun q hq => hp q (List.mem_cons_of_mem _ hq)) (by rw [List.length_append]; omega)
    refine ⟨p8, p9, p10, p11, p12, ?_⟩
    have e1 : sTurn lg_bill_1 lb_bill_2 (.tup [.int (p.2 : Nat), .int p.1]) [some t.d, some X, some (.lst true (acc.map Ln.d)), none, some (.tup (t.es.map Ent.d)), some (.int t.least), some (.int t.most), some (.tup (t.taxes.map D.int)), o8, o9, o10, o11, o12, none] =
        .ok (.nx, [some t.d, some X, some (.lst true ((acc ++ lnAt t.es p).map Ln.d)), none, some (.tup (t.es.map Ent.d)), some (.int t.least), some (.int t.most), some (.tup (t.taxes.map D.int)), some (.int p.2), some (.int p.1), some (.int t.es[p.2].la), some (.int t.es[p.2].pr), some (.int t.es[p.2].st), none]) := by
      unfold lnAt
      rw [he]
      generalize t.es[p.2] = e at he hok ⊢
      have hix := ixP_tup (g := Ent.d) he
      have hm := fun x => mulOk_l e.pr x (by have := hok.p0; omega)
      have hd := divOk_of (j := e.st) (by have := hok.s0; omega)
      have hz := size_big (n := acc.length) (by omega)
      by_cases c1 : 0 < p.1
      · simp [lg_bill_1, lb_bill_2, hix, c1, hm, hd, hz]
      · simp [lg_bill_1, lb_bill_2, hix, c1]
    rw [List.map_cons, sLoop_nx e1, e, List.flatMap_cons, List.append_assoc]
def clip (t : Tar) (ls : List Ln) : List Ln := if tot ls < t.least then ls ++ [Ln.mk "least" 0 0 (t.least - tot ls)] else if t.most < tot ls then ls ++ [Ln.mk "most" 0 0 (t.most - tot ls)] else ls
def taxL (b : Int) (xs : List Int) : List Ln := xs.zipIdx.map fun p => Ln.mk "tax" p.2 b (b * p.1 / 1000)
def billF (t : Tar) (c : Crs) : List Ln := clip t (linesF t.es (qF t.es (evsF c))) ++ taxL (tot (clip t (linesF t.es (qF t.es (evsF c))))) t.taxes
theorem clip_ok (t : Tar) (ls : List Ln) (hk : ∀ l ∈ ls, KdOk l.kd) : (clip t ls).length ≤ ls.length + 1 ∧ ∀ l ∈ clip t ls, KdOk l.kd := by
  have h1 : PyData.strOk "least" = true := by decide +kernel
  have h2 : PyData.strOk "most" = true := by decide +kernel
  unfold clip
  split
  · refine ⟨by simp, fun l hl => ?_⟩
    rcases List.mem_append.mp hl with hl | hl
    · exact hk l hl
    · rw [List.mem_singleton.mp hl]; exact h1
  · split
    · refine ⟨by simp, fun l hl => ?_⟩
      rcases List.mem_append.mp hl with hl | hl
      · exact hk l hl
      · rw [List.mem_singleton.mp hl]; exact h2
    · exact ⟨by omega, hk⟩
theorem taxL_ok (b : Int) (xs : List Int) : (taxL b xs).length = xs.length ∧ ∀ l ∈ taxL b xs, KdOk l.kd := by
  unfold taxL
  refine ⟨by simp, fun l hl => ?_⟩
  obtain ⟨p, _, rfl⟩ := List.mem_map.mp hl
  show PyData.strOk "tax" = true
  decide +kernel
theorem billF_ok (t : Tar) (ht : t.Ok) (c : Crs) : (billF t c).length ≤ 20 ∧ ∀ l ∈ billF t c, KdOk l.kd := by
  have h1 := linesF_len t.es (qF t.es (evsF c))
  rw [qF_len] at h1
  obtain ⟨h2, h3⟩ := clip_ok t (linesF t.es (qF t.es (evsF c))) (linesF_ok _ _)
  obtain ⟨h4, h5⟩ := taxL_ok (tot (clip t (linesF t.es (qF t.es (evsF c))))) t.taxes
  have := ht.el
  have := ht.tl
  unfold billF
  refine ⟨by rw [List.length_append]; omega, fun l hl => ?_⟩
  rcases List.mem_append.mp hl with hl | hl
  · exact h3 l hl
  · exact h5 l hl
theorem bill_at (t : Tar) (ht : t.Ok) (c : Crs) (hc : c.us.length ≤ 96) : fs_bill.run [t.d, c.d] = .ok (.lst true ((billF t c).map Ln.d), none) := by
  have e1 := quantities_at t.es ht.es ht.el c hc
  have hql := qF_len t.es (evsF c)
  have hel := ht.el
  unfold billF
  generalize qF t.es (evsF c) = qs at e1 hql ⊢
  obtain ⟨p8, p9, p10, p11, p12, e2⟩ := lines_loop t ht c.d qs.zipIdx [] none none none none none (fun p hp => by
    have := (List.getElem?_eq_some_iff.mp (zipIdx_mem hp)).1
    omega) (by simp; omega)
  rw [← enumD_map, List.nil_append] at e2
  have el : qs.zipIdx.flatMap (lnAt t.es) = linesF t.es qs := rfl
  rw [el] at e2
  have hll := linesF_len t.es qs
  generalize linesF t.es qs = ls at e2 hll ⊢
  have fin : ∀ ls2 : List Ln, lcLoop [8, 13] cg_bill_3 ct_bill_4 ce_bill_5 (enumD (t.taxes.map D.int)) [some t.d, some c.d, some (.lst true (ls2.map Ln.d)), some (.int (tot ls2)), some (.tup (t.es.map Ent.d)), some (.int t.least), some (.int t.most), some (.tup (t.taxes.map D.int)), none, p9, p10, p11, p12, none] [] =
      .ok ([some t.d, some c.d, some (.lst true (ls2.map Ln.d)), some (.int (tot ls2)), some (.tup (t.es.map Ent.d)), some (.int t.least), some (.int t.most), some (.tup (t.taxes.map D.int)), none, p9, p10, p11, p12, none], (taxL (tot ls2) t.taxes).map Ln.d) := fun ls2 => by
    rw [enumD_map, lcLoop_map (fun p : Int × Nat => .tup [.int (p.2 : Nat), .int p.1]) (fun p => Ln.d (Ln.mk "tax" p.2 (tot ls2) (tot ls2 * p.1 / 1000))) t.taxes.zipIdx [] (by have := ht.tl; simp; omega) fun p acc hp ha =>
        ⟨[some t.d, some c.d, some (.lst true (ls2.map Ln.d)), some (.int (tot ls2)), some (.tup (t.es.map Ent.d)), some (.int t.least), some (.int t.most), some (.tup (t.taxes.map D.int)), some (.int p.2), p9, p10, p11, p12, some (.int p.1)], by
          have hm := mulOk_r (tot ls2) p.1 (by have := ht.tx p.1 (List.mem_of_getElem? (zipIdx_mem hp)); omega)
          have hd := divOk_of (j := 1000) (by decide)
          simp [cg_bill_3, ct_bill_4, ce_bill_5, hm, hd, size_big ha], by simp⟩]
    simp [taxL, Function.comp_def]
  simp at e1 e2
  have hz := size_big (n := ls.length) (by omega)
  have e4 := total_at ls
  have htl := ht.tl
  unfold clip
  by_cases c1 : tot ls < t.least
  · rw [if_pos c1]
    have e3 := fin (ls ++ [Ln.mk "least" 0 0 (t.least - tot ls)])
    have e5 := total_at (ls ++ [Ln.mk "least" 0 0 (t.least - tot ls)])
    have h3 := (taxL_ok (tot (ls ++ [Ln.mk "least" 0 0 (t.least - tot ls)])) t.taxes).1
    generalize taxL (tot (ls ++ [Ln.mk "least" 0 0 (t.least - tot ls)])) t.taxes = ts at e3 h3 ⊢
    have hz2 : ls.length + 1 + ts.length ≤ sizeLine := by rw [sizeLine_eq]; omega
    simp at e3 e5
    simp [fs_bill, r_bill, e1, e2, e4, c1, hz, e5, e3, hz2]
  · rw [if_neg c1]
    by_cases c2 : t.most < tot ls
    · rw [if_pos c2]
      have e3 := fin (ls ++ [Ln.mk "most" 0 0 (t.most - tot ls)])
      have e5 := total_at (ls ++ [Ln.mk "most" 0 0 (t.most - tot ls)])
      have h3 := (taxL_ok (tot (ls ++ [Ln.mk "most" 0 0 (t.most - tot ls)])) t.taxes).1
      generalize taxL (tot (ls ++ [Ln.mk "most" 0 0 (t.most - tot ls)])) t.taxes = ts at e3 h3 ⊢
      have hz2 : ls.length + 1 + ts.length ≤ sizeLine := by rw [sizeLine_eq]; omega
      simp at e3 e5
      simp [fs_bill, r_bill, e1, e2, e4, c1, c2, hz, e5, e3, hz2]
    · rw [if_neg c2]
      have e3 := fin ls
      have h3 := (taxL_ok (tot ls) t.taxes).1
      generalize taxL (tot ls) t.taxes = ts at e3 h3 ⊢
      have hz2 : ls.length + ts.length ≤ sizeLine := by rw [sizeLine_eq]; omega
      simp at e3
      simp [fs_bill, r_bill, e1, e2, e4, c1, c2, e3, hz2]
end K82

namespace K82
open PySem L2 DV
@[simp] theorem bSum_ints {m : Bool} (ns : List Int) : bSum [.lst m (ns.map D.int)] = some (.int ns.sum) := by simp [bSum, ints1, intsD_map]
theorem ceil_neg (x n : Int) (hn : 0 < n) : -((x + n - 1) / n) = (-x) / n := by
  have e1 := Int.mul_ediv_add_emod (-x) n
  have e2 := Int.emod_nonneg (-x) (b := n) (by omega)
  have e3 := Int.emod_lt_of_pos (-x) hn
  generalize (-x) / n = q at e1 ⊢
  generalize (-x) % n = r at e1 e2 e3
  have e4 : x + n - 1 = (n - 1 - r) + n * (-q) := by rw [Int.mul_neg]; omega
  rw [e4, Int.add_mul_ediv_left _ _ (by omega), Int.ediv_eq_zero_of_lt (by omega) (by omega)]
  omega
theorem sSeq_exP {r u : SvR} {E E2 : DV.Env} {x : Fl} {P : DV.Env → Prop} (h : r E = .ok (.nx, E2)) (k : ∃ E', u E2 = .ok (x, E') ∧ P E') : ∃ E', sSeq r u E = .ok (x, E') ∧ P E' := by
  obtain ⟨E', k, hp⟩ := k
  exact ⟨E', (sSeq_nx h).trans k, hp⟩
theorem pl_lns (n : Nat) : ∀ ls : List Ln, (∀ l ∈ ls, KdOk l.kd) → plL (n + 1) (ls.map Ln.d) = true
  | [], _ => by simp
  | l :: ls, h => by
    have h1 := h l List.mem_cons_self
    unfold KdOk at h1
    have h2 := pl_lns n ls fun x hx => h x (List.mem_cons_of_mem _ hx)
    simp [h1, h2]
theorem eqv_lns (ls : List Ln) (hk : ∀ l ∈ ls, KdOk l.kd) (m m' : Bool) : D.eqv (.lst m (ls.map Ln.d)) (.lst m' (ls.map Ln.d)) = some true := by
  have h := pl_lns 62 ls hk
  rw [D.eqv_of (by simpa using h) (by simpa using h)]
  simp
theorem sFor_at {ri : IvR} {g : GvR} {b : SvR} {ds : List D} {E E1 E2 : DV.Env} {x : Fl} (h1 : ri E = .ok (ds, E1)) (h2 : sLoop g b ds E1 = .ok (x, E2)) : sFor ri g b E = .ok (x, E2) := by
  show (ri E).bind _ = _
  rw [h1]
  exact h2
theorem eqv_ints2 (ws : List Int) (m m' : Bool) : D.eqv (.lst m (ws.map D.int)) (.lst m' (ws.map D.int)) = some true := by
  rw [D.eqv_of (by simp) (by simp)]
  simp
theorem fd_run (d : Nat) (ds : List D) : (fd__law_exact (d + 1)).run ds = runDef (r__law_exact (fd__law_exact d) bigF) N__law_exact.length none ds := rfl
theorem ex_int (d : Nat) (i : Int) : (fd__law_exact (d + 1)).run [.int i, .int i] = .ok (.bl true, none) := by
  simp [fd_run, r__law_exact]
theorem ex_str (d : Nat) (x : Str) (h : PyData.strOk x = true) : (fd__law_exact (d + 1)).run [.str x, .str x] = .ok (.bl true, none) := by
  have := eqv_str h h
  simp at this
  simp [fd_run, r__law_exact, this]
theorem bAll_true {α : Type} {m : Bool} (l : List α) : bAll [.lst m (l.map fun _ => D.bl true)] = some (.bl true) := by
  have h : l.map (fun _ => D.bl true) = (l.map fun _ => true).map D.bl := by rw [List.map_map]; rfl
  unfold bAll
  rw [h, bools1_map]
  simp
theorem ex_comp (d : Nat) (X : D) (xs : List D) (hX : X.fzd = true) (hix : ∀ (i : Nat) (x : D), xs[i]? = some x → ixP X (.int i) = some (i, x)) (hf : fzdL xs = true) (hl : xs.length < 1000) (h : ∀ x ∈ xs, (fd__law_exact d).run [x, x] = .ok (.bl true, none)) :
    lcLoop [3] cg__law_exact_1 ct__law_exact_2 (ce__law_exact_3 (fd__law_exact d)) ((rangeI 0 xs.length).map D.int) [some X, some X, none, none] [] = .ok ([some X, some X, none, none], (rangeI 0 xs.length).map fun _ => D.bl true) := by
  have := lcLoop_map (vs := [3]) (g := cg__law_exact_1) (t := ct__law_exact_2) (re := ce__law_exact_3 (fd__law_exact d)) D.int (fun _ => .bl true) (E := [some X, some X, none, none]) (rangeI 0 xs.length) [] (by simp [rangeI]; omega) fun a acc ha hc => by
    obtain ⟨i, hi, rfl⟩ := List.mem_map.mp ha
    have hi := List.mem_range.mp hi
    have hx : xs[i]? = some xs[i] := List.getElem?_eq_getElem hi
    have hm : xs[i] ∈ xs := List.getElem_mem hi
    have h1 := hix i _ hx
    have h2 := h _ hm
    have h3 : (xs[i]).fzd = true := (fzdL_iff xs).mp hf _ hm
    have h4 : (xs[i]).fz = xs[i] := D.fz_id _ h3
    generalize xs[i] = x at h1 h2 h3 h4
    exact ⟨[some X, some X, none, some (.int (0 + (i : Int)))], by simp [cg__law_exact_1, ct__law_exact_2, ce__law_exact_3, h1, h2, h3, h4, hX, size_big hc], by simp⟩
  rw [List.nil_append] at this
  exact this
theorem ex_tup (d : Nat) (xs : List D) (hf : fzdL xs = true) (hl : xs.length < 1000) (h : ∀ x ∈ xs, (fd__law_exact d).run [x, x] = .ok (.bl true, none)) : (fd__law_exact (d + 1)).run [.tup xs, .tup xs] = .ok (.bl true, none) := by
  have e := ex_comp d (.tup xs) xs (by simpa using hf) (fun i x hx => ixP_dt hx) hf hl h
  have hb : Bnd (xs.length : Int) := by unfold Bnd; omega
  have ha := bAll_true (m := true) (rangeI 0 xs.length)
  simp [fd_run, r__law_exact, hb, e, ha]
theorem ex_lst (d : Nat) (xs : List D) (hf : fzdL xs = true) (hl : xs.length < 1000) (h : ∀ x ∈ xs, (fd__law_exact d).run [x, x] = .ok (.bl true, none)) : (fd__law_exact (d + 1)).run [.lst false xs, .lst false xs] = .ok (.bl true, none) := by
  have e := ex_comp d (.lst false xs) xs (by simpa using hf) (fun i x hx => ixP_d hx) hf hl h
  have hb : Bnd (xs.length : Int) := by unfold Bnd; omega
  have ha := bAll_true (m := true) (rangeI 0 xs.length)
  simp [fd_run, r__law_exact, hb, e, ha]
theorem exact_lns (ls : List Ln) (hl : ls.length ≤ 50) (hk : ∀ l ∈ ls, KdOk l.kd) : fs__law_exact.run [.lst false (ls.map Ln.d), .lst false (ls.map Ln.d)] = .ok (.bl true, none) := by
  refine ex_lst 7 _ (lns_fzd ls) (by simp; omega) fun x hx => ?_
  obtain ⟨l, hm, rfl⟩ := List.mem_map.mp hx
  refine ex_tup 6 _ (by simp) (by simp) fun y hy => ?_
  simp at hy
  rcases hy with rfl | rfl | rfl | rfl
  · exact ex_str 5 _ (hk l hm)
  · exact ex_int 5 _
  · exact ex_int 5 _
  · exact ex_int 5 _
theorem exact_int (i : Int) : fs__law_exact.run [.int i, .int i] = .ok (.bl true, none) := ex_int 7 i
end K82

namespace K82
open PySem L2 DV
/-! in a list of ints -/
theorem pyL_ints2 : ∀ ns : List Int, pyL (ns.map D.int) = some (ns.map PyData.int) := pyL_ints
theorem opIn_ints (h : Int) (m : Bool) (ns : List Int) : opIn false (.int h) (.lst m (ns.map D.int)) = some (.bl (decide (h ∈ ns))) := by
  have hs : (SeqAt.shaped (.int h) && SeqAt.shaped (.list (ns.map PyData.int))) = true := by
    obtain ⟨y, e1, h1, h2⟩ := D.pl_py 64 (.lst true (ns.map D.int)) (by simp)
    have : D.py (.lst true (ns.map D.int)) = some (.list (ns.map PyData.int)) := by rw [D.py, pyL_ints]
    rw [this] at e1
    cases e1
    have h3 : SeqAt.shaped (.int h) = true := rfl
    rw [h3]
    unfold SeqAt.shaped
    simp [h1, h2]
  have : (D.int h).inL (ns.map D.int) = some ((ns.map PyData.int).any fun z => PyData.eqv z (.int h)) := by
    unfold D.inL
    rw [pyL_ints]
    show (if (SeqAt.shaped (.int h) && SeqAt.shaped (.list (ns.map PyData.int))) = true then _ else none) = _
    rw [if_pos hs]
  show ((D.int h).inL (ns.map D.int)).map (fun k => D.bl (if false = true then !k else k)) = _
  rw [this]
  have e : ((ns.map PyData.int).any fun z => PyData.eqv z (.int h)) = decide (h ∈ ns) := by
    rw [Bool.eq_iff_iff, decide_eq_true_iff, List.any_map, List.any_eq_true]
    constructor
    · rintro ⟨x, hx, he⟩
      have : x = h := by simpa [PyData.eqv] using he
      rw [← this]
      exact hx
    · intro hx
      exact ⟨h, hx, by simp [PyData.eqv]⟩
  simp [e]
theorem mem_rangeI (a : Int) (n : Nat) (h : Int) : h ∈ rangeI a n ↔ a ≤ h ∧ h < a + n := by
  unfold rangeI
  rw [List.mem_map]
  constructor
  · rintro ⟨i, hi, rfl⟩
    have := List.mem_range.mp hi
    omega
  · rintro ⟨h1, h2⟩
    exact ⟨(h - a).toNat, List.mem_range.mpr (by omega), by omega⟩
def hoursF (e : Ent) : List Int := if e.fi < e.la then rangeI e.fi (e.la - e.fi).toNat else rangeI e.fi (24 - e.fi).toNat ++ rangeI 0 e.la.toNat
theorem hours_in (e : Ent) (he : e.Ok) (h : Int) (hh : 0 ≤ h ∧ h < 24) : decide (h ∈ hoursF e) = appl e h := by
  have h1 := he.f0
  have h2 := he.l0
  unfold hoursF appl
  split
  · rw [Bool.eq_iff_iff, decide_eq_true_iff, mem_rangeI, Bool.and_eq_true, decide_eq_true_iff, decide_eq_true_iff]
    omega
  · rw [Bool.eq_iff_iff, decide_eq_true_iff, List.mem_append, mem_rangeI, mem_rangeI, Bool.or_eq_true, decide_eq_true_iff, decide_eq_true_iff]
    omega
/-- the law's bill: its slots -/
def Eb (X Y : D) (cs : List Int) (id : Int) (t : Tar) (c : Crs) (o4 o5 o6 o7 o15 o16 o17 o18 o19 o20 o21 o22 o23 o24 o25 : Option D) : DV.Env :=
  [some X, some Y, some (.lst true (cs.map D.int)), some (.int id), o4, o5, o6, o7, some (.tup (t.es.map Ent.d)), some (.int t.least), some (.int t.most), some (.tup (t.taxes.map D.int)), some (.int c.b), some (.lst false (c.us.map D.int)), some (.int c.g), o15, o16, o17, o18, o19, o20, o21, o22, o23, o24, o25]
theorem fits_loop (X Y : D) (cs : List Int) (id : Int) (t : Tar) (ht : t.Ok) (c : Crs) (kd : Str) (hk : KdOk kd) (h : Int) (hh : 0 ≤ h ∧ h < 24) (o4 o5 o7 o15 o17 o19 o21 o25 : Option D) : ∀ (ps : List (Ent × Nat)) (acc : List Int) (o6 o22 o23 o24 : Option D), (∀ p ∈ ps, t.es[p.2]? = some p.1) → acc.length + ps.length < 1000 → ∃ q6 q22 q23 q24,
    sLoop lg__law_bill_3 lb__law_bill_4 (ps.map fun p => .int (p.2 : Nat)) (Eb X Y cs id t c o4 o5 o6 o7 o15 (some (.int h)) o17 (some (.str kd)) o19 (some (.lst true (acc.map D.int))) o21 o22 o23 o24 o25) =
      .ok (.nx, Eb X Y cs id t c o4 o5 q6 o7 o15 (some (.int h)) o17 (some (.str kd)) o19 (some (.lst true ((acc ++ (ps.filter (fits kd h)).map fun p => (p.2 : Int)).map D.int))) o21 q22 q23 q24 o25)
  | [], acc, o6, o22, o23, o24, _, _ => ⟨o6, o22, o23, o24, by simp [sLoop_nil]⟩
  | p :: ps, acc, o6, o22, o23, o24, hp, hl => by
    have hl : acc.length + (ps.length + 1) < 1000 := hl
    have he := hp p List.mem_cons_self
    have hok := ht.es p.1 (List.mem_of_getElem? he)
    have h1 := hok.f0
    have h2 := hok.l0
    have hq := eqv_str hok.kd hk
    have hin := opIn_ints h true (hoursF p.1)
    rw [hours_in p.1 hok h hh] at hin
    have hix := ixP_tup (g := Ent.d) he
    have hz := size_big (n := acc.length) (by omega)
    obtain ⟨q6, q22, q23, q24, e⟩ := fits_loop X Y cs id t ht c kd hk h hh o4 o5 o7 o15 o17 o19 o21 o25 ps (acc ++ if fits kd h p = true then [(p.2 : Int)] else []) (some (.int p.2)) (some (.lst true ((hoursF p.1).map D.int))) (some (.int p.1.fi)) (some (.int p.1.la)) (fun q hq => hp q (List.mem_cons_of_mem _ hq)) (by rw [List.length_append]; split <;> simp <;> omega)
    refine ⟨q6, q22, q23, q24, ?_⟩
    have e1 : sTurn lg__law_bill_3 lb__law_bill_4 (.int (p.2 : Nat)) (Eb X Y cs id t c o4 o5 o6 o7 o15 (some (.int h)) o17 (some (.str kd)) o19 (some (.lst true (acc.map D.int))) o21 o22 o23 o24 o25) =
        .ok (.nx, Eb X Y cs id t c o4 o5 (some (.int p.2)) o7 o15 (some (.int h)) o17 (some (.str kd)) o19 (some (.lst true ((acc ++ if fits kd h p = true then [(p.2 : Int)] else []).map D.int))) o21 (some (.lst true ((hoursF p.1).map D.int))) (some (.int p.1.fi)) (some (.int p.1.la)) o25) := by
      have w2 : ∀ x y : Int, 0 ≤ x → x ≤ 24 → 0 ≤ y → y ≤ 24 → opLr2 (.int x) (.int y) = some (.lst true ((rangeI x (y - x).toNat).map D.int)) := fun x y a1 a2 a3 a4 => by
        unfold opLr2
        simp only [rgOk_of a1 (show y ≤ 16777216 by omega) (show x ≤ 16777216 by omega) a3, if_true, rangeD_eq]
      have w1 : opLr1 (.int p.1.la) = some (.lst true ((rangeI 0 p.1.la.toNat).map D.int)) := by
        have := w2 0 p.1.la (by omega) (by omega) h2.1 h2.2
        rw [Int.sub_zero] at this
        exact this
      have w24 := w2 p.1.fi 24 h1.1 h1.2 (by omega) (by omega)
      have wfl := w2 p.1.fi p.1.la h1.1 h1.2 h2.1 h2.2
      have lz : (rangeI p.1.fi (24 - p.1.fi).toNat).length + (rangeI 0 p.1.la.toNat).length ≤ sizeLine := by
        rw [sizeLine_eq]
        simp [rangeI]
        omega
      unfold fits
      unfold hoursF at hin ⊢
      by_cases c1 : p.1.fi < p.1.la
      · rw [if_pos c1] at hin
        by_cases c2 : p.1.kd = kd
        · rw [decide_eq_true c2] at hq ⊢
          cases ha : appl p.1 h <;> rw [ha] at hin <;> simp [lg__law_bill_3, lb__law_bill_4, Eb, sPar, hix, c1, hq, hin, wfl, hz]
        · rw [decide_eq_false c2] at hq ⊢
          simp [lg__law_bill_3, lb__law_bill_4, Eb, sPar, hix, c1, hq, wfl]
      · rw [if_neg c1] at hin
        rw [List.map_append] at hin
        by_cases c2 : p.1.kd = kd
        · rw [decide_eq_true c2] at hq ⊢
          cases ha : appl p.1 h <;> rw [ha] at hin <;> simp [lg__law_bill_3, lb__law_bill_4, Eb, sPar, hix, c1, hq, hin, w24, w1, lz, hz]
        · rw [decide_eq_false c2] at hq ⊢
          simp [lg__law_bill_3, lb__law_bill_4, Eb, sPar, hix, c1, hq, w24, w1, lz]
    rw [List.map_cons, sLoop_nx e1, e, List.filter_cons]
    congr 3
    split <;> simp [List.append_assoc]
theorem range_zip {α : Type} (xs : List α) : (rangeI 0 xs.length).map D.int = xs.zipIdx.map fun p => D.int (p.2 : Nat) := by
  unfold rangeI
  rw [List.map_map]
  apply List.ext_getElem?
  intro i
  rw [List.getElem?_map, List.getElem?_map, List.getElem?_zipIdx]
  by_cases h : i < xs.length
  · rw [List.getElem?_range h, List.getElem?_eq_getElem h]
    simp
  · rw [List.getElem?_eq_none (by simpa using h), List.getElem?_eq_none (by simpa using h)]
    rfl
theorem count_turn (X Y : D) (cs : List Int) (id : Int) (t : Tar) (ht : t.Ok) (hcs : cs.length = t.es.length) (c : Crs) (kd : Str) (hk : KdOk kd) (q h : Int) (hh : 0 ≤ h ∧ h < 24) (o4 o5 o6 o7 o15 o17 o18 o19 o20 o21 o22 o23 o24 o25 : Option D) : ∃ q6 q18 q19 q20 q22 q23 q24,
    sTurn lg__law_bill_5 lb__law_bill_6 (.tup [.str kd, .int q]) (Eb X Y cs id t c o4 o5 o6 o7 o15 (some (.int h)) o17 o18 o19 o20 o21 o22 o23 o24 o25) =
      .ok (.nx, Eb X Y (addAt (cnt t.es kd h) cs q) id t c o4 o5 q6 o7 o15 (some (.int h)) o17 q18 q19 q20 o21 q22 q23 q24 o25) := by
  have hel := ht.el
  obtain ⟨q6, q22, q23, q24, e⟩ := fits_loop X Y cs id t ht c kd hk h hh o4 o5 o7 o15 o17 (some (.int q)) o21 o25 t.es.zipIdx [] o6 o22 o23 o24 (fun p hp => zipIdx_mem hp) (by simp; omega)
  rw [← range_zip, List.nil_append] at e
  have hb : Bnd (t.es.length : Int) := by unfold Bnd; omega
  have hf := List.head?_filter (p := fits kd h) (l := t.es.zipIdx)
  unfold cnt
  rw [← hf]
  cases hF : t.es.zipIdx.filter (fits kd h) with
  | nil =>
    rw [hF] at e
    refine ⟨q6, some (.str kd), some (.int q), some (.lst true []), q22, q23, q24, ?_⟩
    simp only [Eb] at e ⊢
    simp at e
    simp [lg__law_bill_5, lb__law_bill_6, hb, e, addAt]
  | cons p r =>
    rw [hF] at e
    have hm : p ∈ t.es.zipIdx := by
      have hx : p ∈ t.es.zipIdx.filter (fits kd h) := by rw [hF]; exact List.mem_cons_self
      exact (List.mem_filter.mp hx).1
    have hi := (List.getElem?_eq_some_iff.mp (zipIdx_mem hm)).1
    have hx : cs[p.2]? = some cs[p.2] := List.getElem?_eq_getElem (by omega)
    have hix := ixP_lst (m := true) (g := D.int) hx
    have hsx := ixN_of (n := cs.length) (i := (p.2 : Int)) (by omega) (by omega)
    refine ⟨q6, some (.str kd), some (.int q), some (.lst true (((p :: r).map fun p => (p.2 : Int)).map D.int)), q22, q23, q24, ?_⟩
    simp only [Eb] at e ⊢
    simp at e
    simp [lg__law_bill_5, lb__law_bill_6, hb, e, addAt, hx, hix, hsx, gSubD, muSet]
abbrev tpD (a : Str × Int) : D := .tup [.str a.1, .int a.2]
theorem count_loop (X Y : D) (id : Int) (t : Tar) (ht : t.Ok) (c : Crs) (h : Int) (hh : 0 ≤ h ∧ h < 24) (o4 o5 o7 o15 o17 o21 o25 : Option D) : ∀ (tp : List (Str × Int)) (cs : List Int) (o6 o18 o19 o20 o22 o23 o24 : Option D), (∀ a ∈ tp, KdOk a.1) → cs.length = t.es.length → ∃ q6 q18 q19 q20 q22 q23 q24,
    sLoop lg__law_bill_5 lb__law_bill_6 (tp.map tpD) (Eb X Y cs id t c o4 o5 o6 o7 o15 (some (.int h)) o17 o18 o19 o20 o21 o22 o23 o24 o25) =
      .ok (.nx, Eb X Y (tp.foldl (fun cs a => addAt (cnt t.es a.1 h) cs a.2) cs) id t c o4 o5 q6 o7 o15 (some (.int h)) o17 q18 q19 q20 o21 q22 q23 q24 o25)
  | [], cs, o6, o18, o19, o20, o22, o23, o24, _, _ => ⟨o6, o18, o19, o20, o22, o23, o24, rfl⟩
  | a :: tp, cs, o6, o18, o19, o20, o22, o23, o24, hk, hl => by
    obtain ⟨r6, r18, r19, r20, r22, r23, r24, e1⟩ := count_turn X Y cs id t ht hl c a.1 (hk a List.mem_cons_self) a.2 h hh o4 o5 o6 o7 o15 o17 o18 o19 o20 o21 o22 o23 o24 o25
    obtain ⟨q6, q18, q19, q20, q22, q23, q24, e2⟩ := count_loop X Y id t ht c h hh o4 o5 o7 o15 o17 o21 o25 tp (addAt (cnt t.es a.1 h) cs a.2) r6 r18 r19 r20 r22 r23 r24 (fun x hx => hk x (List.mem_cons_of_mem _ hx)) ((addAt_len _ _ _).trans hl)
    exact ⟨q6, q18, q19, q20, q22, q23, q24, (sLoop_nx e1).trans e2⟩
end K82

namespace K82
open PySem L2 DV
theorem start_turn (X Y : D) (cs : List Int) (id : Int) (t : Tar) (ht : t.Ok) (hcs : cs.length = t.es.length) (c : Crs) (o4 o5 o6 o7 o15 o16 o17 o18 o19 o20 o21 o22 o23 o24 o25 : Option D) : ∃ q4 q6 q15 q16 q18 q19 q20 q22 q23 q24,
    sTurn lg__law_bill_7 lb__law_bill_8 (.int (-1)) (Eb X Y cs id t c o4 o5 o6 o7 o15 o16 o17 o18 o19 o20 o21 o22 o23 o24 o25) =
      .ok (.nx, Eb X Y (addQ t.es cs (Ev.mk "start" c.b 1)) id t c q4 o5 q6 o7 q15 q16 o17 q18 q19 q20 o21 q22 q23 q24 o25) := by
  have hh : 0 ≤ c.b % 24 ∧ c.b % 24 < 24 := ⟨Int.emod_nonneg _ (by decide), Int.emod_lt_of_pos _ (by decide)⟩
  obtain ⟨q6, q18, q19, q20, q22, q23, q24, e⟩ := count_loop X Y id t ht c (c.b % 24) hh (some (.int (-1))) o5 o7 (some (.lst false [tpD ("start", 1)])) o17 o21 o25 [("start", 1)] cs o6 o18 o19 o20 o22 o23 o24 (by intro a ha; rw [List.mem_singleton.mp ha]; exact kd_start) hcs
  have hm : bMax [.int 0, .int (-1)] = some (.int 0) := rfl
  refine ⟨some (.int (-1)), q6, some (.lst false [tpD ("start", 1)]), some (.int (c.b % 24)), q18, q19, q20, q22, q23, q24, ?_⟩
  simp only [Eb] at e ⊢
  simp at e
  simp [lg__law_bill_7, lb__law_bill_8, hm, e, addQ]
def tpOf (e : Ev) : Str × Int := (e.kd, e.q)
theorem day_turn (X Y : D) (cs : List Int) (id : Int) (t : Tar) (ht : t.Ok) (hcs : cs.length = t.es.length) (c : Crs) (bz : Int) (hbz : (c.us.length : Int) - id = bz) (p : Int × Nat) (hp : c.us[p.2]? = some p.1) (o4 o5 o6 o7 o15 o16 o17 o18 o19 o20 o21 o22 o23 o24 o25 : Option D) : ∃ q4 q6 q15 q16 q18 q19 q20 q22 q23 q24,
    sTurn lg__law_bill_7 lb__law_bill_8 (.int (p.2 : Nat)) (Eb X Y cs id t c o4 o5 o6 o7 o15 o16 o17 o18 o19 o20 o21 o22 o23 o24 o25) =
      .ok (.nx, Eb X Y ((evsAt c.b bz c.g p).foldl (addQ t.es) cs) id t c q4 o5 q6 o7 q15 q16 o17 q18 q19 q20 o21 q22 q23 q24 o25) := by
  have hh : 0 ≤ (c.b + p.2) % 24 ∧ (c.b + p.2) % 24 < 24 := ⟨Int.emod_nonneg _ (by decide), Int.emod_lt_of_pos _ (by decide)⟩
  obtain ⟨q6, q18, q19, q20, q22, q23, q24, e⟩ := count_loop X Y id t ht c ((c.b + p.2) % 24) hh (some (.int (p.2 : Nat))) o5 o7 (some (.lst false (((evsAt c.b bz c.g p).map tpOf).map tpD))) o17 o21 o25 ((evsAt c.b bz c.g p).map tpOf) cs o6 o18 o19 o20 o22 o23 o24 (fun a ha => by
    obtain ⟨x, hx, rfl⟩ := List.mem_map.mp ha
    exact evsAt_ok _ _ _ _ x hx) hcs
  have hfold : ((evsAt c.b bz c.g p).map tpOf).foldl (fun cs a => addAt (cnt t.es a.1 ((c.b + p.2) % 24)) cs a.2) cs = (evsAt c.b bz c.g p).foldl (addQ t.es) cs := by
    rw [List.foldl_map]
    unfold evsAt
    split
    · rfl
    · split <;> rfl
  rw [hfold] at e
  generalize (evsAt c.b bz c.g p).foldl (addQ t.es) cs = cs2 at e ⊢
  have hix := ixP_lst (m := false) (g := D.int) hp
  have hm : bMax [.int 0, .int (p.2 : Nat)] = some (.int (p.2 : Nat)) := by
    show some (D.int (if ((p.2 : Nat) : Int) > 0 then (p.2 : Int) else 0)) = _
    split
    · rfl
    · congr 2; omega
  refine ⟨some (.int (p.2 : Nat)), q6, some (.lst false (((evsAt c.b bz c.g p).map tpOf).map tpD)), some (.int ((c.b + p.2) % 24)), q18, q19, q20, q22, q23, q24, ?_⟩
  unfold evsAt at e ⊢
  simp only [Eb, tpOf] at e ⊢
  have z1 : (1 : Nat) < sizeLine := size_big (by omega)
  by_cases c1 : (p.2 : Int) < bz
  · simp [c1, tpOf, tpD] at e
    simp [lg__law_bill_7, lb__law_bill_8, hm, hix, hbz, c1, e, z1, tpOf, tpD]
  · by_cases c2 : bz + c.g ≤ (p.2 : Int)
    · simp [c1, c2, tpOf, tpD] at e
      simp [lg__law_bill_7, lb__law_bill_8, hm, hix, hbz, c1, c2, e, z1, tpOf, tpD]
    · simp [c1, c2, tpOf, tpD] at e
      simp [lg__law_bill_7, lb__law_bill_8, hm, hix, hbz, c1, c2, e, tpOf, tpD]
theorem days_loop (X Y : D) (id : Int) (t : Tar) (ht : t.Ok) (c : Crs) (bz : Int) (hbz : (c.us.length : Int) - id = bz) : ∀ (ps : List (Int × Nat)) (cs : List Int) (o4 o5 o6 o7 o15 o16 o17 o18 o19 o20 o21 o22 o23 o24 o25 : Option D), (∀ p ∈ ps, c.us[p.2]? = some p.1) → cs.length = t.es.length → ∃ q4 q6 q15 q16 q18 q19 q20 q22 q23 q24,
    sLoop lg__law_bill_7 lb__law_bill_8 (ps.map fun p => .int (p.2 : Nat)) (Eb X Y cs id t c o4 o5 o6 o7 o15 o16 o17 o18 o19 o20 o21 o22 o23 o24 o25) =
      .ok (.nx, Eb X Y ((ps.flatMap (evsAt c.b bz c.g)).foldl (addQ t.es) cs) id t c q4 o5 q6 o7 q15 q16 o17 q18 q19 q20 o21 q22 q23 q24 o25)
  | [], cs, o4, o5, o6, o7, o15, o16, o17, o18, o19, o20, o21, o22, o23, o24, o25, _, _ => ⟨o4, o6, o15, o16, o18, o19, o20, o22, o23, o24, rfl⟩
  | p :: ps, cs, o4, o5, o6, o7, o15, o16, o17, o18, o19, o20, o21, o22, o23, o24, o25, hp, hl => by
    obtain ⟨r4, r6, r15, r16, r18, r19, r20, r22, r23, r24, e1⟩ := day_turn X Y cs id t ht hl c bz hbz p (hp p List.mem_cons_self) o4 o5 o6 o7 o15 o16 o17 o18 o19 o20 o21 o22 o23 o24 o25
    obtain ⟨q4, q6, q15, q16, q18, q19, q20, q22, q23, q24, e2⟩ := days_loop X Y id t ht c bz hbz ps ((evsAt c.b bz c.g p).foldl (addQ t.es) cs) r4 o5 r6 o7 r15 r16 o17 r18 r19 r20 o21 r22 r23 r24 o25 (fun x hx => hp x (List.mem_cons_of_mem _ hx)) ((foldQ_len _ _ _).trans hl)
    rw [List.flatMap_cons, List.foldl_append]
    exact ⟨q4, q6, q15, q16, q18, q19, q20, q22, q23, q24, (sLoop_nx e1).trans e2⟩
/-! the idle end -/
def mxD (l : List Int) : Int := match l with
  | [] => 0
  | n :: ms => maxL n ms
theorem mxD_snoc (l : List Int) (x : Int) (hx : 0 ≤ x) (h : ∀ y ∈ l, y ≤ x) : mxD (l ++ [x]) = x := by
  cases l with
  | nil => rfl
  | cons n ms =>
    have h1 := (maxL_spec ms n).1
    have h2 := h _ h1
    show (ms ++ [x]).foldl (fun a b => if b > a then b else a) n = x
    rw [List.foldl_append]
    show (if x > maxL n ms then x else maxL n ms) = x
    split <;> omega
def bl (us : List Int) : List Int := (us.zipIdx.filter fun p => decide (p.1 > 0)).map fun p : Int × Nat => (p.2 : Int) + 1
theorem busy_eq (us : List Int) : busy us = mxD (bl us) := by
  unfold busy mxD bl
  rfl
theorem bl_le (us : List Int) : ∀ y ∈ bl us, y ≤ us.length := by
  intro y hy
  obtain ⟨p, hp, rfl⟩ := List.mem_map.mp hy
  have := (List.getElem?_eq_some_iff.mp (zipIdx_mem (List.mem_filter.mp hp).1)).1
  omega
theorem bl_snoc (us : List Int) (x : Int) : bl (us ++ [x]) = bl us ++ if 0 < x then [(us.length : Int) + 1] else [] := by
  unfold bl
  rw [List.zipIdx_append, List.filter_append, List.map_append]
  congr 1
  by_cases h : 0 < x <;> simp [h]
theorem busy_snoc0 (us : List Int) : busy (us ++ [0]) = busy us := by
  rw [busy_eq, busy_eq, bl_snoc]
  simp
theorem busy_snoc1 (us : List Int) (x : Int) (hx : 0 < x) : busy (us ++ [x]) = us.length + 1 := by
  rw [busy_eq, bl_snoc, if_pos hx]
  exact mxD_snoc _ _ (by omega) fun y hy => by have := bl_le us y hy; omega
/-- behind i noughts -/
theorem busy_take (us : List Int) (hu : ∀ u ∈ us, 0 ≤ u) : ∀ (i : Nat), i ≤ us.length → (∀ j, us.length - i ≤ j → j < us.length → us[j]? = some 0) → busy us = busy (us.take (us.length - i))
  | 0, _, _ => by rw [Nat.sub_zero, List.take_length]
  | i + 1, hi, h => by
    rw [busy_take us hu i (by omega) fun j h1 h2 => h j (by omega) h2]
    have e : us.take (us.length - i) = us.take (us.length - (i + 1)) ++ [0] := by
      rw [show us.length - i = (us.length - (i + 1)) + 1 by omega, List.take_add_one, h _ (Nat.le_refl _) (by omega)]
      rfl
    rw [e, busy_snoc0]
theorem idle_while (X Y : D) (cs : List Int) (t : Tar) (c : Crs) (hu : ∀ u ∈ c.us, 0 ≤ u) (hc : c.us.length ≤ 96) (o4 o5 o6 o7 o15 o16 o17 o18 o19 o20 o21 o22 o23 o24 o25 : Option D) : ∀ (m i n : Nat), m + i = c.us.length → m < n → (∀ j, c.us.length - i ≤ j → j < c.us.length → c.us[j]? = some 0) → ∃ id : Int,
    sWhile wt__law_bill_1 wb__law_bill_2 n (Eb X Y cs (i : Int) t c o4 o5 o6 o7 o15 o16 o17 o18 o19 o20 o21 o22 o23 o24 o25) = .ok (.nx, Eb X Y cs id t c o4 o5 o6 o7 o15 o16 o17 o18 o19 o20 o21 o22 o23 o24 o25) ∧ (c.us.length : Int) - id = busy c.us
  | 0, i, n, hm, hn, h => by
    obtain ⟨n, rfl⟩ : ∃ k, n = k + 1 := ⟨n - 1, by omega⟩
    refine ⟨i, sWhile_false (c := false) ?_, ?_⟩
    · have : ¬ (i : Int) < c.us.length := by omega
      have h2 : ¬ i < c.us.length := by omega
      simp [wt__law_bill_1, Eb, this, h2]
    · rw [busy_take c.us hu i (by omega) h, show c.us.length - i = 0 by omega]
      simp [busy]
      omega
  | m + 1, i, n, hm, hn, h => by
    obtain ⟨n, rfl⟩ : ∃ k, n = k + 1 := ⟨n - 1, by omega⟩
    have hlt : i < c.us.length := by omega
    have hx : c.us[m]? = some (c.us[m]'(by omega)) := List.getElem?_eq_getElem (by omega)
    have hpos := hu _ (List.getElem_mem (show m < c.us.length by omega))
    generalize c.us[m]'(by omega) = x at hx hpos
    have hix := ixP_lst (m := false) (g := D.int) hx
    have em : (c.us.length : Int) - 1 - (i : Int) = (m : Int) := by omega
    by_cases h0 : x = 0
    · subst h0
      obtain ⟨id, e, h2⟩ := idle_while X Y cs t c hu hc o4 o5 o6 o7 o15 o16 o17 o18 o19 o20 o21 o22 o23 o24 o25 m (i + 1) n (by omega) (by omega) fun j h1 h2 => by
        by_cases hj : j = m
        · rw [hj]; exact hx
        · exact h j (by omega) h2
      refine ⟨id, (sWhile_true (c := false) (E2 := Eb X Y cs (i : Int) t c o4 o5 o6 o7 o15 o16 o17 o18 o19 o20 o21 o22 o23 o24 o25) (E3 := Eb X Y cs ((i + 1 : Nat) : Int) t c o4 o5 o6 o7 o15 o16 o17 o18 o19 o20 o21 o22 o23 o24 o25) ?_ ?_).trans e, h2⟩
      · simp [wt__law_bill_1, Eb, hlt, em, hix]
      · simp [wb__law_bill_2, Eb]
    · refine ⟨i, sWhile_false (c := false) ?_, ?_⟩
      · simp [wt__law_bill_1, Eb, hlt, em, hix, h0]
      · rw [busy_take c.us hu i (by omega) h]
        have e : c.us.take (c.us.length - i) = c.us.take m ++ [x] := by
          rw [show c.us.length - i = m + 1 by omega, List.take_add_one, hx]
          rfl
        rw [e, busy_snoc1 _ _ (by omega), List.length_take]
        omega
end K82

namespace K82
open PySem L2 DV
/-- `_law_bill`'s lines -/
theorem lines2_loop (X Y : D) (qs : List Int) (id : Int) (t : Tar) (ht : t.Ok) (hql : qs.length = t.es.length) (c : Crs) (o4 o7 o15 o16 o17 o18 o19 o20 o22 o23 o24 o25 : Option D) : ∀ (ps : List (Int × Nat)) (acc : List Ln) (o6 o21 : Option D), (∀ p ∈ ps, qs[p.2]? = some p.1) → acc.length + ps.length < 1000 → ∃ q6 q21,
    sLoop lg__law_bill_9 lb__law_bill_10 (ps.map fun p => .int (p.2 : Nat)) (Eb X Y qs id t c o4 (some (.lst true (acc.map Ln.d))) o6 o7 o15 o16 o17 o18 o19 o20 o21 o22 o23 o24 o25) =
      .ok (.nx, Eb X Y qs id t c o4 (some (.lst true ((acc ++ ps.flatMap (lnAt t.es)).map Ln.d))) q6 o7 o15 o16 o17 o18 o19 o20 q21 o22 o23 o24 o25)
  | [], acc, o6, o21, _, _ => ⟨o6, o21, by simp [sLoop_nil]⟩
  | p :: ps, acc, o6, o21, hp, hl => by
    have hl : acc.length + (ps.length + 1) < 1000 := hl
    have hx := hp p List.mem_cons_self
    have hlt := (List.getElem?_eq_some_iff.mp hx).1
    have h1 := lnAt_len t.es p
    have he : t.es[p.2]? = some (t.es[p.2]'(by omega)) := List.getElem?_eq_getElem (by omega)
    have hok := ht.es (t.es[p.2]'(by omega)) (List.getElem_mem _)
    obtain ⟨q6, q21, e⟩ := lines2_loop X Y qs id t ht hql c o4 o7 o15 o16 o17 o18 o19 o20 o22 o23 o24 o25 ps (acc ++ lnAt t.es p) (some (.int p.2)) (if 0 < p.1 then some (.int ((p.1 + (t.es[p.2]'(by omega)).st - 1) / (t.es[p.2]'(by omega)).st)) else o21) (fun q hq => hp q (List.mem_cons_of_mem _ hq)) (by rw [List.length_append]; omega)
    refine ⟨q6, q21, ?_⟩
    have e1 : sTurn lg__law_bill_9 lb__law_bill_10 (.int (p.2 : Nat)) (Eb X Y qs id t c o4 (some (.lst true (acc.map Ln.d))) o6 o7 o15 o16 o17 o18 o19 o20 o21 o22 o23 o24 o25) =
        .ok (.nx, Eb X Y qs id t c o4 (some (.lst true ((acc ++ lnAt t.es p).map Ln.d))) (some (.int p.2)) o7 o15 o16 o17 o18 o19 o20 (if 0 < p.1 then some (.int ((p.1 + (t.es[p.2]'(by omega)).st - 1) / (t.es[p.2]'(by omega)).st)) else o21) o22 o23 o24 o25) := by
      unfold lnAt
      rw [he]
      generalize t.es[p.2]'(by omega) = e at he hok ⊢
      have hix := ixP_tup (g := Ent.d) he
      have hiq := ixP_lst (m := true) (g := D.int) hx
      have hm := fun x => mulOk_l e.pr x (by have := hok.p0; omega)
      have hd := divOk_of (j := e.st) (by have := hok.s0; omega)
      have hz := size_big (n := acc.length) (by omega)
      have hcn := ceil_neg p.1 e.st hok.s0.1
      have hcn2 : -(-p.1 / e.st) = (p.1 + e.st - 1) / e.st := by omega
      by_cases c1 : 0 < p.1
      · dsimp only
        rw [if_pos c1, hcn2]
        simp [lg__law_bill_9, lb__law_bill_10, Eb, hix, hiq, c1, hm, hd, hz]
      · dsimp only
        rw [if_neg c1]
        simp [lg__law_bill_9, lb__law_bill_10, Eb, hiq, c1]
    rw [List.map_cons, sLoop_nx e1, e, List.flatMap_cons, List.append_assoc]
/-- its taxes -/
theorem taxes2_loop (X Y : D) (qs : List Int) (id : Int) (t : Tar) (ht : t.Ok) (c : Crs) (b : Int) (o4 o15 o16 o17 o18 o19 o20 o21 o22 o23 o24 o25 : Option D) : ∀ (ps : List (Int × Nat)) (acc : List Ln) (o6 : Option D), (∀ p ∈ ps, t.taxes[p.2]? = some p.1) → acc.length + ps.length < 1000 → ∃ q6,
    sLoop lg__law_bill_14 lb__law_bill_15 (ps.map fun p => .int (p.2 : Nat)) (Eb X Y qs id t c o4 (some (.lst true (acc.map Ln.d))) o6 (some (.int b)) o15 o16 o17 o18 o19 o20 o21 o22 o23 o24 o25) =
      .ok (.nx, Eb X Y qs id t c o4 (some (.lst true ((acc ++ ps.map fun p => Ln.mk "tax" p.2 b (b * p.1 / 1000)).map Ln.d))) q6 (some (.int b)) o15 o16 o17 o18 o19 o20 o21 o22 o23 o24 o25)
  | [], acc, o6, _, _ => ⟨o6, by simp [sLoop_nil]⟩
  | p :: ps, acc, o6, hp, hl => by
    have hl : acc.length + (ps.length + 1) < 1000 := hl
    have hx := hp p List.mem_cons_self
    have hb := ht.tx p.1 (List.mem_of_getElem? hx)
    have hix := ixP_tup (g := D.int) hx
    have hm := mulOk_r b p.1 (by omega)
    have hd := divOk_of (j := 1000) (by decide)
    have hz := size_big (n := acc.length) (by omega)
    have hq : (b * p.1 - b * p.1 % 1000) / 1000 = b * p.1 / 1000 := by omega
    obtain ⟨q6, e⟩ := taxes2_loop X Y qs id t ht c b o4 o15 o16 o17 o18 o19 o20 o21 o22 o23 o24 o25 ps (acc ++ [Ln.mk "tax" p.2 b (b * p.1 / 1000)]) (some (.int p.2)) (fun q hq => hp q (List.mem_cons_of_mem _ hq)) (by rw [List.length_append, List.length_singleton]; omega)
    refine ⟨q6, ?_⟩
    have e1 : sTurn lg__law_bill_14 lb__law_bill_15 (.int (p.2 : Nat)) (Eb X Y qs id t c o4 (some (.lst true (acc.map Ln.d))) o6 (some (.int b)) o15 o16 o17 o18 o19 o20 o21 o22 o23 o24 o25) =
        .ok (.nx, Eb X Y qs id t c o4 (some (.lst true ((acc ++ [Ln.mk "tax" p.2 b (b * p.1 / 1000)]).map Ln.d))) (some (.int p.2)) (some (.int b)) o15 o16 o17 o18 o19 o20 o21 o22 o23 o24 o25) := by
      rw [← hq]
      simp [lg__law_bill_14, lb__law_bill_15, Eb, hix, hm, hd, hz]
    rw [List.map_cons, sLoop_nx e1, e, List.map_cons, List.append_assoc]
    rfl
theorem lawbill_at (t : Tar) (ht : t.Ok) (c : Crs) (hc : c.us.length ≤ 96) (hu : ∀ u ∈ c.us, 0 ≤ u) : fs__law_bill.run [t.d, c.d] = .ok (.lst true ((billF t c).map Ln.d), none) := by
  have hel := ht.el
  have htl := ht.tl
  have h12 : (t.es.length : Int) ≤ 100000 := by omega
  -- the idle end
  obtain ⟨id, w1, w2⟩ := idle_while t.d c.d (List.replicate t.es.length 0) t c hu hc none none none none none none none none none none none none none none none c.us.length 0 bigF (by omega) (by have := bigF_ge; omega) (fun j h1 h2 => by omega)
  -- the days
  obtain ⟨r4, r6, r15, r16, r18, r19, r20, r22, r23, r24, e1⟩ := start_turn t.d c.d (List.replicate t.es.length 0) id t ht (by simp) c none none none none none none none none none none none none none none none
  obtain ⟨s4, s6, s15, s16, s18, s19, s20, s22, s23, s24, e2⟩ := days_loop t.d c.d id t ht c (busy c.us) w2 c.us.zipIdx (addQ t.es (List.replicate t.es.length 0) (Ev.mk "start" c.b 1)) r4 none r6 none r15 r16 none r18 r19 r20 none r22 r23 r24 none (fun p hp => zipIdx_mem hp) (by rw [addQ, addAt_len]; simp)
  have eq : (c.us.zipIdx.flatMap (evsAt c.b (busy c.us) c.g)).foldl (addQ t.es) (addQ t.es (List.replicate t.es.length 0) (Ev.mk "start" c.b 1)) = qF t.es (evsF c) := rfl
  rw [eq] at e2
  have hql := qF_len t.es (evsF c)
  unfold billF
  generalize qF t.es (evsF c) = qs at e2 hql ⊢
  rw [← range_zip] at e2
  have e12 := (sLoop_nx e1).trans e2
  have er : (rangeI (-1) (c.us.length + 1)).map D.int = D.int (-1) :: (rangeI 0 c.us.length).map D.int := by
    unfold rangeI
    rw [List.range_succ_eq_map, List.map_cons, List.map_cons, List.map_map, List.map_map, List.map_map]
    congr 1
    apply List.map_congr_left
    intro i _
    simp
    omega
  rw [← er] at e12
  -- the lines
  obtain ⟨t6, t21, e3⟩ := lines2_loop t.d c.d qs id t ht hql c s4 none s15 s16 none s18 s19 s20 s22 s23 s24 none qs.zipIdx [] s6 none (fun p hp => zipIdx_mem hp) (by simp; omega)
  rw [← range_zip, List.nil_append, hql] at e3
  have elf : qs.zipIdx.flatMap (lnAt t.es) = linesF t.es qs := rfl
  rw [elf] at e3
  have hll := linesF_len t.es qs
  generalize linesF t.es qs = ls at e3 hll ⊢
  -- the base
  have e4 := lcLoop_map (vs := [25]) (g := cg__law_bill_11) (t := ct__law_bill_12) (re := ce__law_bill_13) Ln.d (fun l => .int l.c) (E := clr [25] ((Eb t.d c.d qs id t c s4 (some (.lst true (ls.map Ln.d))) t6 none s15 s16 none s18 s19 s20 t21 s22 s23 s24 none).set 5 none)) ls [] (by simp; omega) fun l acc _ ha =>
    ⟨[some t.d, some c.d, some (.lst true (qs.map D.int)), some (.int id), s4, none, t6, none, some (.tup (t.es.map Ent.d)), some (.int t.least), some (.int t.most), some (.tup (t.taxes.map D.int)), some (.int c.b), some (.lst false (c.us.map D.int)), some (.int c.g), s15, s16, none, s18, s19, s20, t21, s22, s23, s24, some l.d], by simp [cg__law_bill_11, ct__law_bill_12, ce__law_bill_13, Eb, size_big ha], by simp [Eb]⟩
  have e4b : bSum [.lst true (ls.map (D.int ∘ Ln.c))] = some (.int (tot ls)) := by
    have := bSum_ints (m := true) (ls.map Ln.c)
    rw [List.map_map] at this
    exact this
  have e4c : bSum [.lst true (ls.map fun l => D.int l.c)] = some (.int (tot ls)) := e4b
  have hb1 : Bnd (t.es.length : Int) := by unfold Bnd; omega
  have hb2 : Bnd (c.us.length : Int) := by unfold Bnd; omega
  have hb3 : Bnd (t.taxes.length : Int) := by unfold Bnd; omega
  have hbm : Bnd (-1) := by unfold Bnd; omega
  have hz := size_big (n := ls.length) (by omega)
  have hcl : ((c.us.length : Int) + 1).toNat = c.us.length + 1 := by omega
  have tax : ∀ (ls2 : List Ln) (o17 : Option D), ls2.length ≤ 13 → ∃ q6, sLoop lg__law_bill_14 lb__law_bill_15 ((rangeI 0 t.taxes.length).map D.int) (Eb t.d c.d qs id t c s4 (some (.lst true (ls2.map Ln.d))) t6 (some (.int (tot ls2))) s15 s16 o17 s18 s19 s20 t21 s22 s23 s24 none) =
      .ok (.nx, Eb t.d c.d qs id t c s4 (some (.lst true ((ls2 ++ taxL (tot ls2) t.taxes).map Ln.d))) q6 (some (.int (tot ls2))) s15 s16 o17 s18 s19 s20 t21 s22 s23 s24 none) := fun ls2 o17 hl2 => by
    obtain ⟨q6, e⟩ := taxes2_loop t.d c.d qs id t ht c (tot ls2) s4 s15 s16 o17 s18 s19 s20 t21 s22 s23 s24 none t.taxes.zipIdx ls2 t6 (fun p hp => zipIdx_mem hp) (by simp; omega)
    rw [← range_zip] at e
    exact ⟨q6, e⟩
  unfold clip
  have ht1 : ∀ (k : Str) (x : Int), tot (ls ++ [Ln.mk k 0 0 (x - tot ls)]) = x := fun k x => by
    rw [tot_append]
    simp [tot]
    omega
  by_cases c1 : tot ls < t.least
  · rw [if_pos c1]
    obtain ⟨q6, e5⟩ := tax (ls ++ [Ln.mk "least" 0 0 (t.least - tot ls)]) (some (.int t.least)) (by simp; omega)
    rw [ht1] at e5 ⊢
    simp only [Eb] at w1 e12 e3 e4 e5
    simp at w1 e12 e3 e4 e5
    simp [fs__law_bill, r__law_bill, h12, w1, hbm, hb2, hcl, e12, hb1, e3, e4, e4b, e4c, c1, hb3, hz, e5]
  · by_cases c2 : t.most < tot ls
    · rw [if_neg c1, if_pos c2]
      obtain ⟨q6, e5⟩ := tax (ls ++ [Ln.mk "most" 0 0 (t.most - tot ls)]) (some (.int t.most)) (by simp; omega)
      rw [ht1] at e5 ⊢
      simp only [Eb] at w1 e12 e3 e4 e5
      simp at w1 e12 e3 e4 e5
      simp [fs__law_bill, r__law_bill, h12, w1, hbm, hb2, hcl, e12, hb1, e3, e4, e4b, e4c, c1, c2, hb3, hz, e5]
    · rw [if_neg c1, if_neg c2]
      obtain ⟨q6, e5⟩ := tax ls none (by omega)
      simp only [Eb] at w1 e12 e3 e4 e5
      simp at w1 e12 e3 e4 e5
      simp [fs__law_bill, r__law_bill, h12, w1, hbm, hb2, hcl, e12, hb1, e3, e4, e4b, e4c, c1, c2, hb3, e5]
end K82

namespace K82
open PySem L2 DV
/-! a day later -/
def late (e : Ev) : Ev := Ev.mk e.kd (e.t + 24) e.q
theorem evsAt_late (b bz gr : Int) (p : Int × Nat) : evsAt (b + 24) bz gr p = (evsAt b bz gr p).map late := by
  unfold evsAt
  have e : b + 24 + (p.2 : Int) = b + p.2 + 24 := by omega
  rw [e]
  split
  · rfl
  · split <;> rfl
theorem addQ_late (es : List Ent) (qs : List Int) (e : Ev) : addQ es qs (late e) = addQ es qs e := by
  unfold addQ late
  have : (e.t + 24) % 24 = e.t % 24 := by omega
  rw [this]
theorem bill_late (t : Tar) (c : Crs) : billF t ⟨c.b + 24, c.us, c.g⟩ = billF t c := by
  have h : qF t.es (evsF ⟨c.b + 24, c.us, c.g⟩) = qF t.es (evsF c) := by
    have e : evsF ⟨c.b + 24, c.us, c.g⟩ = (evsF c).map late := by
      unfold evsF
      rw [List.map_cons, List.map_flatMap]
      congr 1
      congr 1
      funext p
      exact evsAt_late c.b (busy c.us) c.g p
    unfold qF
    rw [e, List.foldl_map]
    congr 1
    funext qs e
    exact addQ_late t.es qs e
  unfold billF
  rw [h]
/-! a greater grace -/
abbrev LeL (xs ys : List Int) : Prop := All2 (fun x y => x ≤ y) xs ys
theorem LeL.refl : ∀ xs : List Int, LeL xs xs
  | [] => .nil
  | x :: xs => .cons (Int.le_refl _) (LeL.refl xs)
theorem LeL.add : ∀ {xs ys : List Int} (i : Nat) (q r : Int), q ≤ r → LeL xs ys → LeL (xs.set i (xs.getD i 0 + q)) (ys.set i (ys.getD i 0 + r))
  | _, _, _, _, _, _, .nil => .nil
  | _, _, 0, q, r, hq, .cons h t => .cons (by simp; omega) t
  | _, _, i + 1, q, r, hq, .cons h t => by
    have := LeL.add i q r hq t
    exact .cons h (by simpa using this)
theorem set_zero (xs : List Int) (i : Nat) : xs.set i (xs.getD i 0 + 0) = xs := by
  rw [Int.add_zero]
  by_cases h : i < xs.length
  · rw [List.getD_eq_getElem?_getD, List.getElem?_eq_getElem h]
    simp
  · exact List.set_eq_of_length_le (by omega)
theorem addAt_mono {xs ys : List Int} (o : Option Nat) (q : Int) (h : LeL xs ys) : LeL (addAt o xs q) (addAt o ys q) := by
  cases o with
  | none => exact h
  | some i => exact LeL.add i q q (Int.le_refl _) h
theorem addAt_more {xs ys : List Int} (o : Option Nat) (q : Int) (hq : 0 ≤ q) (h : LeL xs ys) : LeL xs (addAt o ys q) := by
  cases o with
  | none => exact h
  | some i =>
    have := LeL.add i 0 q hq h
    rw [set_zero] at this
    exact this
theorem evs_mono (es : List Ent) (b bz gr : Int) : ∀ (ps : List (Int × Nat)) (xs ys : List Int), LeL xs ys → LeL ((ps.flatMap (evsAt b bz (gr + 1))).foldl (addQ es) xs) ((ps.flatMap (evsAt b bz gr)).foldl (addQ es) ys)
  | [], xs, ys, h => h
  | p :: ps, xs, ys, h => by
    rw [List.flatMap_cons, List.flatMap_cons, List.foldl_append, List.foldl_append]
    refine evs_mono es b bz gr ps _ _ ?_
    have h1 : LeL (addQ es xs (Ev.mk "unit" (b + p.2) p.1)) (addQ es ys (Ev.mk "unit" (b + p.2) p.1)) := addAt_mono _ _ h
    unfold evsAt
    by_cases c1 : (p.2 : Int) < bz
    · rw [if_pos c1, if_pos c1]
      exact addAt_mono _ _ h1
    · rw [if_neg c1, if_neg c1]
      by_cases c2 : bz + (gr + 1) ≤ (p.2 : Int)
      · rw [if_pos c2, if_pos (by omega)]
        exact addAt_mono _ _ h1
      · rw [if_neg c2]
        by_cases c3 : bz + gr ≤ (p.2 : Int)
        · rw [if_pos c3]
          exact addAt_more _ _ (by dsimp only; omega) h1
        · rw [if_neg c3]
          exact h1
def term (e : Ent) (q : Int) : Int := if 0 < q then e.pr * -(-q / e.st) else 0
theorem term_mono (e : Ent) (he : e.Ok) {x y : Int} (h : x ≤ y) : term e x ≤ term e y := by
  have hs := he.s0
  have hp := he.p0
  have hd : (-y) / e.st ≤ (-x) / e.st := Int.ediv_le_ediv hs.1 (by omega)
  unfold term
  by_cases c1 : 0 < x
  · rw [if_pos c1, if_pos (by omega)]
    exact Int.mul_le_mul_of_nonneg_left (by omega) hp.1
  · rw [if_neg c1]
    by_cases c2 : 0 < y
    · rw [if_pos c2]
      have h0 : (-y) / e.st ≤ 0 := by
        have := Int.ediv_le_ediv hs.1 (show -y ≤ 0 by omega)
        rw [Int.zero_ediv] at this
        exact this
      exact Int.mul_nonneg hp.1 (by omega)
    · rw [if_neg c2]
      omega
theorem lnAt_tot (es : List Ent) (p : Int × Nat) : tot (lnAt es p) = match es[p.2]? with | some e => term e p.1 | none => 0 := by
  unfold lnAt term
  cases es[p.2]? with
  | none => rfl
  | some e =>
    dsimp only
    by_cases c1 : 0 < p.1
    · rw [if_pos c1, if_pos c1]
      simp [tot]
    · rw [if_neg c1, if_neg c1]
      rfl
theorem lines_mono (es : List Ent) (hes : ∀ e ∈ es, e.Ok) : ∀ (xs ys : List Int) (k : Nat), LeL xs ys → tot ((xs.zipIdx k).flatMap (lnAt es)) ≤ tot ((ys.zipIdx k).flatMap (lnAt es))
  | _, _, _, .nil => Int.le_refl _
  | x :: xs, y :: ys, k, .cons h t => by
    have ih := lines_mono es hes xs ys (k + 1) t
    rw [List.zipIdx_cons, List.zipIdx_cons, List.flatMap_cons, List.flatMap_cons, tot_append, tot_append, lnAt_tot, lnAt_tot]
    dsimp only
    cases he : es[k]? with
    | none =>
      dsimp only
      omega
    | some e =>
      have := term_mono e (hes e (List.mem_of_getElem? he)) h
      dsimp only
      omega
theorem clip_tot (t : Tar) (ls : List Ln) : tot (clip t ls) = if tot ls < t.least then t.least else if t.most < tot ls then t.most else tot ls := by
  have ht1 : ∀ (k : Str) (x : Int), tot (ls ++ [Ln.mk k 0 0 (x - tot ls)]) = x := fun k x => by
    rw [tot_append]
    simp [tot]
    omega
  unfold clip
  split
  · exact ht1 _ _
  · split
    · exact ht1 _ _
    · rfl
theorem tax_tot (b : Int) (xs : List Int) : tot (taxL b xs) = (xs.map fun x => b * x / 1000).sum := by
  unfold tot taxL
  rw [List.map_map]
  have : ∀ (xs : List Int) (k : Nat), (xs.zipIdx k).map (Ln.c ∘ fun p : Int × Nat => Ln.mk "tax" p.2 b (b * p.1 / 1000)) = xs.map fun x => b * x / 1000 := by
    intro xs
    induction xs with
    | nil => intro k; rfl
    | cons x xs ih =>
      intro k
      rw [List.zipIdx_cons, List.map_cons, List.map_cons, ih]
      rfl
  rw [this]
theorem tax_mono {a b : Int} (h : a ≤ b) : ∀ xs : List Int, (∀ x ∈ xs, 0 ≤ x) → (xs.map fun x => a * x / 1000).sum ≤ (xs.map fun x => b * x / 1000).sum
  | [], _ => by simp
  | x :: xs, hx => by
    have ih := tax_mono h xs fun y hy => hx y (List.mem_cons_of_mem _ hy)
    have h1 : a * x ≤ b * x := Int.mul_le_mul_of_nonneg_right h (hx x List.mem_cons_self)
    have h2 : a * x / 1000 ≤ b * x / 1000 := Int.ediv_le_ediv (by decide) h1
    simp only [List.map_cons, List.sum_cons]
    omega
theorem bill_grace (t : Tar) (ht : t.Ok) (c : Crs) : tot (billF t ⟨c.b, c.us, c.g + 1⟩) ≤ tot (billF t c) := by
  have hq : LeL (qF t.es (evsF ⟨c.b, c.us, c.g + 1⟩)) (qF t.es (evsF c)) := by
    unfold qF evsF
    rw [List.foldl_cons, List.foldl_cons]
    exact evs_mono t.es c.b (busy c.us) c.g c.us.zipIdx _ _ (LeL.refl _)
  have hl := lines_mono t.es ht.es _ _ 0 hq
  have hlm := ht.lm
  have hc : tot (clip t (linesF t.es (qF t.es (evsF ⟨c.b, c.us, c.g + 1⟩)))) ≤ tot (clip t (linesF t.es (qF t.es (evsF c)))) := by
    have hl : tot (linesF t.es (qF t.es (evsF ⟨c.b, c.us, c.g + 1⟩))) ≤ tot (linesF t.es (qF t.es (evsF c))) := hl
    rw [clip_tot, clip_tot]
    split <;> split <;> (try split) <;> (try split) <;> omega
  have htx := tax_mono hc t.taxes fun x hx => (ht.tx x hx).1
  unfold billF
  rw [tot_append, tot_append, tax_tot, tax_tot]
  omega
end K82

namespace K82
open PySem L2 DV
def L16 (ns : List Int) (s : Dw) (t : Tar) (p : Nat → Option D) : DV.Env := [some (scr ns), some s.d, some t.d, p 3, p 4, p 5, p 6, p 7, p 8, p 9, p 10, p 11, p 12, p 13, p 14, p 15]
theorem eqv_crs (c : Crs) : D.eqv (.tup [.int c.b, .lst true (c.us.map D.int), .int c.g]) (.tup [.int c.b, .lst false (c.us.map D.int), .int c.g]) = some true := by
  rw [D.eqv_of (by simp) (by simp)]
  simp

theorem near_loop (ns : List Int) (s : Dw) (t : Tar) (ht : t.Ok) (c : Crs) (hc : c.us.length ≤ 96) (hu : ∀ u ∈ c.us, 0 ≤ u) (p : Nat → Option D) : ∀ (ps : List (Int × Int)) (q12 q13 q14 : Option D), ∃ r12 r13 r14,
    sLoop lg_law_7 lb_law_8 (ps.map fun a => .tup [.int a.1, .int a.2]) [some (scr ns), some s.d, some t.d, p 3, some c.d, some (.tup [.int c.b, .lst true (c.us.map D.int), .int c.g]), p 6, p 7, p 8, p 9, p 10, p 11, q12, q13, q14, p 15] = .ok (.nx, [some (scr ns), some s.d, some t.d, p 3, some c.d, some (.tup [.int c.b, .lst true (c.us.map D.int), .int c.g]), p 6, p 7, p 8, p 9, p 10, p 11, r12, r13, r14, p 15])
  | [], q12, q13, q14 => ⟨q12, q13, q14, rfl⟩
  | a :: ps, q12, q13, q14 => by
    by_cases c1 : a.1 ≤ a.2 ∧ a.2 ≤ 999999
    · obtain ⟨c1, c2⟩ := c1
      have hok : Tar.Ok ⟨t.es, a.1, a.2, t.taxes⟩ := ⟨ht.es, ht.el, ht.tx, ht.tl, c1⟩
      have e1 := lawbill_at ⟨t.es, a.1, a.2, t.taxes⟩ hok c hc hu
      have e2 := bill_at ⟨t.es, a.1, a.2, t.taxes⟩ hok c hc
      obtain ⟨b1, b2⟩ := billF_ok ⟨t.es, a.1, a.2, t.taxes⟩ hok c
      have e3 := exact_lns (billF ⟨t.es, a.1, a.2, t.taxes⟩ c) (by omega) b2
      generalize billF ⟨t.es, a.1, a.2, t.taxes⟩ c = B at e1 e2 e3
      obtain ⟨r12, r13, r14, e⟩ := near_loop ns s t ht c hc hu p ps (some (.int a.1)) (some (.int a.2)) (some (Tar.d ⟨t.es, a.1, a.2, t.taxes⟩))
      refine ⟨r12, r13, r14, ?_⟩
      have e0 : sTurn lg_law_7 lb_law_8 (.tup [.int a.1, .int a.2]) [some (scr ns), some s.d, some t.d, p 3, some c.d, some (.tup [.int c.b, .lst true (c.us.map D.int), .int c.g]), p 6, p 7, p 8, p 9, p 10, p 11, q12, q13, q14, p 15] = .ok (.nx, [some (scr ns), some s.d, some t.d, p 3, some c.d, some (.tup [.int c.b, .lst true (c.us.map D.int), .int c.g]), p 6, p 7, p 8, p 9, p 10, p 11, some (.int a.1), some (.int a.2), some (Tar.d ⟨t.es, a.1, a.2, t.taxes⟩), p 15]) := by
        simp at e1 e2
        simp [lg_law_7, lb_law_8, c1, c2, e1, e2, e3]
      rw [List.map_cons, sLoop_nx e0, e]
    · obtain ⟨r12, r13, r14, e⟩ := near_loop ns s t ht c hc hu p ps (some (.int a.1)) (some (.int a.2)) q14
      refine ⟨r12, r13, r14, ?_⟩
      have e0 : sTurn lg_law_7 lb_law_8 (.tup [.int a.1, .int a.2]) [some (scr ns), some s.d, some t.d, p 3, some c.d, some (.tup [.int c.b, .lst true (c.us.map D.int), .int c.g]), p 6, p 7, p 8, p 9, p 10, p 11, q12, q13, q14, p 15] = .ok (.nx, [some (scr ns), some s.d, some t.d, p 3, some c.d, some (.tup [.int c.b, .lst true (c.us.map D.int), .int c.g]), p 6, p 7, p 8, p 9, p 10, p 11, some (.int a.1), some (.int a.2), q14, p 15]) := by
        by_cases c2 : a.1 ≤ a.2
        · have c3 : ¬ a.2 ≤ 999999 := fun z => c1 ⟨c2, z⟩
          simp [lg_law_7, lb_law_8, c2, c3]
        · simp [lg_law_7, lb_law_8, c2]
      rw [List.map_cons, sLoop_nx e0, e]

theorem due_comp (ns : List Int) (s : Dw) (t : Tar) (d3 d4 d5 d6 d7 d8 d9 d10 : Option D) (p : Nat → Option D) (ls : List Ln) (hl : ls.length ≤ 50) : lcLoop [15] cg_law_1 ct_law_2 ce_law_3 (ls.map Ln.d) [some (scr ns), some s.d, some t.d, d3, d4, d5, d6, d7, d8, d9, d10, p 11, p 12, p 13, p 14, none] [] = .ok ([some (scr ns), some s.d, some t.d, d3, d4, d5, d6, d7, d8, d9, d10, p 11, p 12, p 13, p 14, none], ls.map fun l => D.int l.c) := by
  have := lcLoop_map (vs := [15]) (g := cg_law_1) (t := ct_law_2) (re := ce_law_3) Ln.d (fun l => .int l.c) (E := [some (scr ns), some s.d, some t.d, d3, d4, d5, d6, d7, d8, d9, d10, p 11, p 12, p 13, p 14, none]) ls [] (by simp; omega) fun l acc _ ha =>
    ⟨[some (scr ns), some s.d, some t.d, d3, d4, d5, d6, d7, d8, d9, d10, p 11, p 12, p 13, p 14, some l.d], by simp [cg_law_1, ct_law_2, ce_law_3, size_big ha], by simp⟩
  rw [List.nil_append] at this
  exact this

theorem base_comp (ns : List Int) (s : Dw) (t : Tar) (d3 d4 d5 d6 d7 d8 d9 d10 : Option D) (p : Nat → Option D) (ls : List Ln) (hl : ls.length ≤ 50) : lcLoop [15] cg_law_4 ct_law_5 ce_law_6 (ls.map Ln.d) [some (scr ns), some s.d, some t.d, d3, d4, d5, d6, d7, d8, d9, d10, p 11, p 12, p 13, p 14, none] [] = .ok ([some (scr ns), some s.d, some t.d, d3, d4, d5, d6, d7, d8, d9, d10, p 11, p 12, p 13, p 14, none], ls.map fun l => D.int l.c) := by
  have := lcLoop_map (vs := [15]) (g := cg_law_4) (t := ct_law_5) (re := ce_law_6) Ln.d (fun l => .int l.c) (E := [some (scr ns), some s.d, some t.d, d3, d4, d5, d6, d7, d8, d9, d10, p 11, p 12, p 13, p 14, none]) ls [] (by simp; omega) fun l acc _ ha =>
    ⟨[some (scr ns), some s.d, some t.d, d3, d4, d5, d6, d7, d8, d9, d10, p 11, p 12, p 13, p 14, some l.d], by simp [cg_law_4, ct_law_5, ce_law_6, size_big ha], by simp⟩
  rw [List.nil_append] at this
  exact this

theorem law_turn (ns : List Int) (s : Dw) (t : Tar) (ht : t.Ok) (p : Nat → Option D) (k : Int) : ∃ E2, sTurn lg_law_9 lb_law_10 (.int k) [some (scr ns), some s.d, some t.d, p 3, p 4, p 5, p 6, p 7, p 8, p 9, p 10, p 11, p 12, p 13, p 14, p 15] = .ok (.nx, E2) ∧ ∃ (s2 : Dw) (q : Nat → Option D), E2 = L16 ns s2 t q := by
  have e0 : sTurn lg_law_9 lb_law_10 (.int k) [some (scr ns), some s.d, some t.d, p 3, p 4, p 5, p 6, p 7, p 8, p 9, p 10, p 11, p 12, p 13, p 14, p 15] = lb_law_10 [some (scr ns), some s.d, some t.d, some (.int k), p 4, p 5, p 6, p 7, p 8, p 9, p 10, p 11, p 12, p 13, p 14, p 15] := by simp [lg_law_9]
  rw [e0]
  unfold lb_law_10
  obtain ⟨v1, s1, d1, a1, b1⟩ := draw_at ns s (m := 24) (by decide) (by decide)
  obtain ⟨v2, s2, d2, a2, b2⟩ := draw_at ns s1 (m := 976) (by decide) (by decide)
  obtain ⟨v3, s3, d3, a3, b3⟩ := draw_at ns s2 (m := 4) (by decide) (by decide)
  obtain ⟨j4, b, e4, _⟩ := pickN [0, 23, v1, v2] v3 (by simp; omega)
  obtain ⟨s4, c, hcr, hc, hu, hg⟩ := course_at ns s3 b
  simp at d1 d2 d3 e4 hcr
  refine sSeq_exP (E2 := [some (scr ns), some s4.d, some t.d, some (.int k), some c.d, p 5, p 6, p 7, p 8, p 9, p 10, p 11, p 12, p 13, p 14, p 15]) (by
    simp [d1, d2, d3, e4, hcr]) ?_
  refine sSeq_exP (E2 := [some (scr ns), some s4.d, some t.d, some (.int k), some c.d, some (.tup [.int c.b, .lst true (c.us.map D.int), .int c.g]), p 6, p 7, p 8, p 9, p 10, p 11, p 12, p 13, p 14, p 15]) (by
    simp) ?_
  have l1 := lawbill_at t ht c hc hu
  have l2 := bill_at t ht c hc
  have l3 := bill_at t ht ⟨c.b + 24, c.us, c.g⟩ hc
  rw [bill_late] at l3
  have l4 := bill_at t ht ⟨c.b, c.us, c.g + 1⟩ hc
  have l5 := bill_grace t ht c
  obtain ⟨k1, k2⟩ := billF_ok t ht c
  obtain ⟨k3, k4⟩ := billF_ok t ht ⟨c.b, c.us, c.g + 1⟩
  generalize billF t ⟨c.b, c.us, c.g + 1⟩ = M at l4 l5 k3 k4
  generalize billF t c = B at l1 l2 l3 l5 k1 k2
  have x1 := exact_lns B (by omega) k2
  have x2 := exact_int (tot B)
  have x3 := total_at B
  have x4 := total_at M
  have x5 := eqv_crs c
  have b1 : bSum [.lst true (B.map fun l => D.int l.c)] = some (.int (tot B)) := by
    have := bSum_ints (m := true) (B.map Ln.c)
    rw [List.map_map] at this
    exact this
  have b2 : bSum [.lst true (B.map (D.int ∘ Ln.c))] = some (.int (tot B)) := b1
  simp at l1 l2 l3 l4
  refine sSeq_exP (E2 := [some (scr ns), some s4.d, some t.d, some (.int k), some c.d, some (.tup [.int c.b, .lst true (c.us.map D.int), .int c.g]), some (.lst true (B.map Ln.d)), p 7, p 8, p 9, p 10, p 11, p 12, p 13, p 14, p 15]) (by
    simp [l1]) ?_
  refine sSeq_exP (E2 := [some (scr ns), some s4.d, some t.d, some (.int k), some c.d, some (.tup [.int c.b, .lst true (c.us.map D.int), .int c.g]), some (.lst true (B.map Ln.d)), some (.lst true (B.map Ln.d)), p 8, p 9, p 10, p 11, p 12, p 13, p 14, p 15]) (by
    simp [l2]) ?_
  have u1 := due_comp ns s4 t (some (.int k)) (some c.d) (some (.tup [.int c.b, .lst true (c.us.map D.int), .int c.g])) none (some (.lst true (B.map Ln.d))) (p 8) (p 9) (p 10) p B (by omega)
  simp at u1
  refine sSeq_exP (E2 := [some (scr ns), some s4.d, some t.d, some (.int k), some c.d, some (.tup [.int c.b, .lst true (c.us.map D.int), .int c.g]), some (.lst true (B.map Ln.d)), some (.lst true (B.map Ln.d)), p 8, p 9, p 10, p 11, p 12, p 13, p 14, p 15]) (by
    simp [x1, x2, x3, x5, u1, b1, b2]) ?_
  refine sSeq_exP (E2 := [some (scr ns), some s4.d, some t.d, some (.int k), some c.d, some (.tup [.int c.b, .lst true (c.us.map D.int), .int c.g]), some (.lst true (B.map Ln.d)), some (.lst true (B.map Ln.d)), some (.lst true (B.map Ln.d)), p 9, p 10, p 11, p 12, p 13, p 14, p 15]) (by
    simp [l3]) ?_
  refine sSeq_exP (E2 := [some (scr ns), some s4.d, some t.d, some (.int k), some c.d, some (.tup [.int c.b, .lst true (c.us.map D.int), .int c.g]), some (.lst true (B.map Ln.d)), some (.lst true (B.map Ln.d)), some (.lst true (B.map Ln.d)), p 9, p 10, p 11, p 12, p 13, p 14, p 15]) (by
    simp [x1]) ?_
  have more : ∃ (m6 m9 : Bool) (N : List Ln), sSet 9 (rIf (rTest (r2 opLtI (rIx2 (rVar 4) (rC (.int 2))) (rC (.int 96)))) (rCall fs_bill (rCons (rVar 2) (rCons (rTup (rCons (rIx2 (rVar 4) (rC (.int 0))) (rCons (rn bList (rCons (rIx2 (rVar 4) (rC (.int 1))) rNil)) (rCons (r2 opAdd (rIx2 (rVar 4) (rC (.int 2))) (rC (.int 1))) rNil)))) rNil))) (rVar 6)) [some (scr ns), some s4.d, some t.d, some (.int k), some c.d, some (.tup [.int c.b, .lst true (c.us.map D.int), .int c.g]), some (.lst true (B.map Ln.d)), some (.lst true (B.map Ln.d)), some (.lst true (B.map Ln.d)), p 9, p 10, p 11, p 12, p 13, p 14, p 15] =
      .ok (.nx, [some (scr ns), some s4.d, some t.d, some (.int k), some c.d, some (.tup [.int c.b, .lst true (c.us.map D.int), .int c.g]), some (.lst m6 (B.map Ln.d)), some (.lst true (B.map Ln.d)), some (.lst true (B.map Ln.d)), some (.lst m9 (N.map Ln.d)), p 10, p 11, p 12, p 13, p 14, p 15]) ∧ tot N ≤ tot B ∧ N.length ≤ 20 := by
    by_cases c1 : c.g < 96
    · exact ⟨true, true, M, by simp [c1, l4], l5, k3⟩
    · exact ⟨false, false, B, by simp [c1], Int.le_refl _, k1⟩
  obtain ⟨m6, m9, N, m1, m2, m3⟩ := more
  refine sSeq_exP m1 ?_
  have x6 := total_at N
  have m4 : ¬ tot B < tot N := by omega
  refine sSeq_exP (E2 := [some (scr ns), some s4.d, some t.d, some (.int k), some c.d, some (.tup [.int c.b, .lst true (c.us.map D.int), .int c.g]), some (.lst m6 (B.map Ln.d)), some (.lst true (B.map Ln.d)), some (.lst true (B.map Ln.d)), some (.lst m9 (N.map Ln.d)), p 10, p 11, p 12, p 13, p 14, p 15]) (by
    cases m9 <;> simp [x3, x6, m4]) ?_
  refine sSeq_exP (E2 := [some (scr ns), some s4.d, some t.d, some (.int k), some c.d, some (.tup [.int c.b, .lst true (c.us.map D.int), .int c.g]), some (.lst m6 (B.map Ln.d)), some (.lst true (B.map Ln.d)), some (.lst true (B.map Ln.d)), some (.lst m9 (N.map Ln.d)), some (Tar.d ⟨t.es, 0, 999999, []⟩), p 11, p 12, p 13, p 14, p 15]) (by
    simp) ?_
  have pok : Tar.Ok ⟨t.es, 0, 999999, []⟩ := ⟨ht.es, ht.el, (fun _ h => nomatch h), by simp, by dsimp only; omega⟩
  have y1 := lawbill_at ⟨t.es, 0, 999999, []⟩ pok c hc hu
  obtain ⟨y2, y3⟩ := billF_ok ⟨t.es, 0, 999999, []⟩ pok c
  generalize billF ⟨t.es, 0, 999999, []⟩ c = A at y1 y2 y3
  have u2 := base_comp ns s4 t (some (.int k)) (some c.d) (some (.tup [.int c.b, .lst true (c.us.map D.int), .int c.g])) (some (.lst m6 (B.map Ln.d))) (some (.lst true (B.map Ln.d))) (some (.lst true (B.map Ln.d))) (some (.lst m9 (N.map Ln.d))) (some (Tar.d ⟨t.es, 0, 999999, []⟩)) p A (by omega)
  have b3 : bSum [.lst true (A.map fun l => D.int l.c)] = some (.int (tot A)) := by
    have := bSum_ints (m := true) (A.map Ln.c)
    rw [List.map_map] at this
    exact this
  have b4 : bSum [.lst true (A.map (D.int ∘ Ln.c))] = some (.int (tot A)) := b3
  simp at y1 u2
  refine sSeq_exP (E2 := [some (scr ns), some s4.d, some t.d, some (.int k), some c.d, some (.tup [.int c.b, .lst true (c.us.map D.int), .int c.g]), some (.lst m6 (B.map Ln.d)), some (.lst true (B.map Ln.d)), some (.lst true (B.map Ln.d)), some (.lst m9 (N.map Ln.d)), some (Tar.d ⟨t.es, 0, 999999, []⟩), some (.int (tot A)), p 12, p 13, p 14, p 15]) (by
    simp [y1, u2, b3, b4]) ?_
  have hmx : ∃ z : Int, bMax [.int 0, .int (tot A - 1)] = some (.int z) := ⟨_, rfl⟩
  obtain ⟨z, hmx⟩ := hmx
  obtain ⟨r12, r13, r14, nl⟩ := near_loop ns s4 t ht c hc hu (fun i => ([some (scr ns), some s4.d, some t.d, some (.int k), some c.d, some (.tup [.int c.b, .lst true (c.us.map D.int), .int c.g]), some (.lst m6 (B.map Ln.d)), some (.lst true (B.map Ln.d)), some (.lst true (B.map Ln.d)), some (.lst m9 (N.map Ln.d)), some (Tar.d ⟨t.es, 0, 999999, []⟩), some (.int (tot A)), p 12, p 13, p 14, p 15] : List (Option D)).getD i none) [(tot A, tot A), (tot A + 1, 999999), (0, z), (0, tot A)] (p 12) (p 13) (p 14)
  refine sSeq_exP (E2 := [some (scr ns), some s4.d, some t.d, some (.int k), some c.d, some (.tup [.int c.b, .lst true (c.us.map D.int), .int c.g]), some (.lst m6 (B.map Ln.d)), some (.lst true (B.map Ln.d)), some (.lst true (B.map Ln.d)), some (.lst m9 (N.map Ln.d)), some (Tar.d ⟨t.es, 0, 999999, []⟩), some (.int (tot A)), r12, r13, r14, p 15]) (by
    refine sFor_at (E1 := [some (scr ns), some s4.d, some t.d, some (.int k), some c.d, some (.tup [.int c.b, .lst true (c.us.map D.int), .int c.g]), some (.lst m6 (B.map Ln.d)), some (.lst true (B.map Ln.d)), some (.lst true (B.map Ln.d)), some (.lst m9 (N.map Ln.d)), some (Tar.d ⟨t.es, 0, 999999, []⟩), some (.int (tot A)), p 12, p 13, p 14, p 15]) ?_ nl
    simp [hmx]) ?_
  have hz := size_big (n := B.length) (by omega)
  refine sSeq_exP (E2 := [some (scr ns), some s4.d, some t.d, some (.int k), some c.d, some (.tup [.int c.b, .lst true (c.us.map D.int), .int c.g]), some (.lst m6 (B.map Ln.d)), some (.lst true ((B ++ [Ln.mk "late" 0 0 1]).map Ln.d)), some (.lst true (B.map Ln.d)), some (.lst m9 (N.map Ln.d)), some (Tar.d ⟨t.es, 0, 999999, []⟩), some (.int (tot A)), r12, r13, r14, p 15]) (by
    simp [hz]) ?_
  refine ⟨[some (scr ns), some s4.d, some t.d, some (.int k), some c.d, some (.tup [.int c.b, .lst true (c.us.map D.int), .int c.g]), some (.lst m6 (B.map Ln.d)), some (.lst true ((B ++ [Ln.mk "late" 0 0 1]).map Ln.d)), some (.lst true (B.map Ln.d)), some (.lst m9 (N.map Ln.d)), some (Tar.d ⟨t.es, 0, 999999, []⟩), some (.int (tot A)), r12, r13, r14, p 15], ?_, s4, fun i => ([some (scr ns), some s4.d, some t.d, some (.int k), some c.d, some (.tup [.int c.b, .lst true (c.us.map D.int), .int c.g]), some (.lst m6 (B.map Ln.d)), some (.lst true ((B ++ [Ln.mk "late" 0 0 1]).map Ln.d)), some (.lst true (B.map Ln.d)), some (.lst m9 (N.map Ln.d)), some (Tar.d ⟨t.es, 0, 999999, []⟩), some (.int (tot A)), r12, r13, r14, p 15] : List (Option D)).getD i none, rfl⟩
  cases m6 <;> simp [l2, x1]

theorem law_run (ns : List Int) (hl : ns.length ≤ 63) (hz : ∀ z ∈ ns, PySem.Builtin.Int.intBits z ≤ 1048576) : ∃ mo, fs_law.run [.lst false (ns.map D.int)] = .ok (.bl true, mo) := by
  obtain ⟨s, t, e1, ht⟩ := tariff_at ns ⟨0, 0⟩
  obtain ⟨E2, e2, s2, q, rfl⟩ := sLoop_inv (g := lg_law_9) (b := lb_law_10) D.int (fun E => ∃ (s2 : Dw) (q : Nat → Option D), E = L16 ns s2 t q) (rangeI 0 3) (L16 ns s t fun _ => none) ⟨s, fun _ => none, rfl⟩ fun E a _ hE => by
    obtain ⟨s2, q, rfl⟩ := hE
    exact law_turn ns s2 t ht q a
  have b3 : Bnd 3 := by unfold Bnd; omega
  have t0 := total_at []
  have t1 := exact_int 0
  refine ⟨none, ?_⟩
  simp only [L16] at e2
  simp [tot] at e1 e2 t0
  simp [fs_law, r_law, e1, b3, e2, t0, t1]
end K82

namespace K82
open PySem PySem.Spec PyProof.Rows L2 DV
theorem law_at [Tb] {K : PySem.W.Frag} {H : Hp} {a : Addr} {ns : List Int} {E : XK} (hl : ns.length ≤ 63) (hz : ∀ z ∈ ns, Builtin.Int.intBits z ≤ 1048576) (hT : ∀ p, Tb.T p → GxR.TabG H p) (hS : SqL K H a (ns.map V.int)) : spD K fs_law [.ref a] H (fun v _ => v = .bl true) E :=
  law_script hT rfl rfl hS (law_run ns hl hz)
def d_applies : He.DefD := ⟨("applies", none), "applies", "applies", defArgs st_applies, defBody st_applies, defScope st_applies, [], []⟩
def d_counted : He.DefD := ⟨("counted", none), "counted", "counted", defArgs st_counted, defBody st_counted, defScope st_counted, [], []⟩
def d_events : He.DefD := ⟨("events", none), "events", "events", defArgs st_events, defBody st_events, defScope st_events, [], []⟩
def d_quantities : He.DefD := ⟨("quantities", none), "quantities", "quantities", defArgs st_quantities, defBody st_quantities, defScope st_quantities, [], []⟩
def d_total : He.DefD := ⟨("total", none), "total", "total", defArgs st_total, defBody st_total, defScope st_total, [], []⟩
def d_bill : He.DefD := ⟨("bill", none), "bill", "bill", defArgs st_bill, defBody st_bill, defScope st_bill, [], []⟩
def d__law_refill : He.DefD := ⟨("_law_refill", none), "_law_refill", "_law_refill", defArgs st__law_refill, defBody st__law_refill, defScope st__law_refill, [], []⟩
def d__law_draw : He.DefD := ⟨("_law_draw", none), "_law_draw", "_law_draw", defArgs st__law_draw, defBody st__law_draw, defScope st__law_draw, [], []⟩
def d__law_exact : He.DefD := ⟨("_law_exact", none), "_law_exact", "_law_exact", defArgs st__law_exact, defBody st__law_exact, defScope st__law_exact, [], []⟩
def d__law_tariff : He.DefD := ⟨("_law_tariff", none), "_law_tariff", "_law_tariff", defArgs st__law_tariff, defBody st__law_tariff, defScope st__law_tariff, [], []⟩
def d__law_course : He.DefD := ⟨("_law_course", none), "_law_course", "_law_course", defArgs st__law_course, defBody st__law_course, defScope st__law_course, [], []⟩
def d__law_bill : He.DefD := ⟨("_law_bill", none), "_law_bill", "_law_bill", defArgs st__law_bill, defBody st__law_bill, defScope st__law_bill, [], []⟩
def d_law : He.DefD := ⟨("law", none), "law", "law", defArgs st_law, defBody st_law, defScope st_law, [], []⟩
def fnl : List He.DefD := [d_applies, d_counted, d_events, d_quantities, d_total, d_bill, d__law_refill, d__law_draw, d__law_exact, d__law_tariff, d__law_course, d__law_bill, d_law]
def fal : List He.Fa := [.glo "applies", .glo "counted", .glo "events", .glo "quantities", .glo "total", .glo "bill", .glo "_law_refill", .glo "_law_draw", .glo "_law_exact", .glo "_law_tariff", .glo "_law_course", .glo "_law_bill", .glo "law", .free "enumerate", .free "max", .free "len", .free "sum", .free "int", .free "isinstance", .free "list", .free "tuple", .free "range", .free "all", .free "str", .free "bool", .free "min", .int "DAY" 24]
abbrev R : PySem.W.OpenRow := PySem.W.OpenLaw.row PySem.Challenge.rw_pledgedwatts_k82_bills_tick_by_tick
def tfl : List He.Defn := [("total", none)]
abbrev hk : PySem.W.Hook := He.hookX 5 fal fnl [] tfl (fun _ => true)
def ob (s : PySem.W.SharedT) : He.AlX := He.obsX 5 fal fnl [] tfl (fun _ => true) (HandSHeadRun.getT s)
theorem ob_eq (s : PySem.W.SharedT) : ob s = hk.obs s.abs := He.obsX_eq (HandSHeadRun.getT_eq s)
theorem run (w : World) : HandSHeadRun.RunEq R (PySem.W.view R.prog [15]) hk ob 4000 ["__name__", "DAY", "applies", "counted", "events", "quantities", "total", "bill", "_law_refill", "_law_draw", "_law_exact", "_law_tariff", "_law_course", "_law_bill"] w := by
  intro os
  kernel_rfl
theorem facts {l : PySem.W.OpenLaw} {w : World} {K : PySem.W.Frag} {h : Heap} {mg : Str → Option Value} {f : Addr} (X : K.In h) (G : h.Ns mainGlobals mg) (hfa : mg ("law" : Str) = some (.ref f)) (c : He.SaysX fal fnl [] tfl (fun _ => true) w h K) :
    LamX.LawAtS l w K CXE 10 63 "script" mg f h := by
  obtain ⟨fd_applies, F_applies⟩ := c.t.d.def_ 0 (d := d_applies) rfl
  obtain ⟨fd_counted, F_counted⟩ := c.t.d.def_ 1 (d := d_counted) rfl
  obtain ⟨fd_events, F_events⟩ := c.t.d.def_ 2 (d := d_events) rfl
  obtain ⟨fd_quantities, F_quantities⟩ := c.t.d.def_ 3 (d := d_quantities) rfl
  obtain ⟨fd_total, F_total⟩ := c.t.d.def_ 4 (d := d_total) rfl
  obtain ⟨fd_bill, F_bill⟩ := c.t.d.def_ 5 (d := d_bill) rfl
  obtain ⟨fd__law_refill, F__law_refill⟩ := c.t.d.def_ 6 (d := d__law_refill) rfl
  obtain ⟨fd__law_draw, F__law_draw⟩ := c.t.d.def_ 7 (d := d__law_draw) rfl
  obtain ⟨fd__law_exact, F__law_exact⟩ := c.t.d.def_ 8 (d := d__law_exact) rfl
  obtain ⟨fd__law_tariff, F__law_tariff⟩ := c.t.d.def_ 9 (d := d__law_tariff) rfl
  obtain ⟨fd__law_course, F__law_course⟩ := c.t.d.def_ 10 (d := d__law_course) rfl
  obtain ⟨fd__law_bill, F__law_bill⟩ := c.t.d.def_ 11 (d := d__law_bill) rfl
  obtain ⟨fd_law, F_law⟩ := c.t.d.def_ 12 (d := d_law) rfl
  have g_applies := He.glo_ok X G (c.t.d.fact 0 (f := .glo "applies") rfl)
  have g_counted := He.glo_ok X G (c.t.d.fact 1 (f := .glo "counted") rfl)
  have g_events := He.glo_ok X G (c.t.d.fact 2 (f := .glo "events") rfl)
  have g_quantities := He.glo_ok X G (c.t.d.fact 3 (f := .glo "quantities") rfl)
  have g_total := He.glo_ok X G (c.t.d.fact 4 (f := .glo "total") rfl)
  have g_bill := He.glo_ok X G (c.t.d.fact 5 (f := .glo "bill") rfl)
  have g__law_refill := He.glo_ok X G (c.t.d.fact 6 (f := .glo "_law_refill") rfl)
  have g__law_draw := He.glo_ok X G (c.t.d.fact 7 (f := .glo "_law_draw") rfl)
  have g__law_exact := He.glo_ok X G (c.t.d.fact 8 (f := .glo "_law_exact") rfl)
  have g__law_tariff := He.glo_ok X G (c.t.d.fact 9 (f := .glo "_law_tariff") rfl)
  have g__law_course := He.glo_ok X G (c.t.d.fact 10 (f := .glo "_law_course") rfl)
  have g__law_bill := He.glo_ok X G (c.t.d.fact 11 (f := .glo "_law_bill") rfl)
  have g_law := He.glo_ok X G (c.t.d.fact 12 (f := .glo "law") rfl)
  have n_enumerate : mg "enumerate" = none := He.free_ok X G (c.t.d.fact 13 (f := .free "enumerate") rfl)
  have n_max : mg "max" = none := He.free_ok X G (c.t.d.fact 14 (f := .free "max") rfl)
  have n_len : mg "len" = none := He.free_ok X G (c.t.d.fact 15 (f := .free "len") rfl)
  have n_sum : mg "sum" = none := He.free_ok X G (c.t.d.fact 16 (f := .free "sum") rfl)
  have n_int : mg "int" = none := He.free_ok X G (c.t.d.fact 17 (f := .free "int") rfl)
  have n_isinstance : mg "isinstance" = none := He.free_ok X G (c.t.d.fact 18 (f := .free "isinstance") rfl)
  have n_list : mg "list" = none := He.free_ok X G (c.t.d.fact 19 (f := .free "list") rfl)
  have n_tuple : mg "tuple" = none := He.free_ok X G (c.t.d.fact 20 (f := .free "tuple") rfl)
  have n_range : mg "range" = none := He.free_ok X G (c.t.d.fact 21 (f := .free "range") rfl)
  have n_all : mg "all" = none := He.free_ok X G (c.t.d.fact 22 (f := .free "all") rfl)
  have n_str : mg "str" = none := He.free_ok X G (c.t.d.fact 23 (f := .free "str") rfl)
  have n_bool : mg "bool" = none := He.free_ok X G (c.t.d.fact 24 (f := .free "bool") rfl)
  have n_min : mg "min" = none := He.free_ok X G (c.t.d.fact 25 (f := .free "min") rfl)
  have i_DAY := He.int_ok X G (c.t.d.fact 26 (f := .int "DAY" 24) rfl)
  have e := hfa.symm.trans g_law
  cases e
  have b := FunD.bindsA (ps := ["script"]) F_law fun _ _ _ _ _ _ us hl => match us, hl with | [_], _ => rfl
  letI : Tb := tbs K tfl
  refine lawAtS_of X c fd_law fs_law (fun s v => b s [v] rfl) rfl (fun H a ns hl hz hT hS => law_at hl hz hT hS) fun base _ _ hTB => ?_
  have C_applies : Cal l.prog w K mg base 1 "applies" ["entry", "tick"] fs_applies := ok_applies F_applies g_applies i_DAY
  have C_counted : Cal l.prog w K mg base 2 "counted" ["entries", "kind", "tick"] fs_counted := ok_counted F_counted g_counted n_enumerate  C_applies
  have C_events : Cal l.prog w K mg base 1 "events" ["course"] fs_events := ok_events F_events g_events n_enumerate n_max
  have C_quantities : Cal l.prog w K mg base 3 "quantities" ["entries", "course"] fs_quantities := ok_quantities F_quantities g_quantities n_len  C_events C_counted
  have C_total : Cal l.prog w K mg base 2 "total" ["lines"] fs_total := ok_total F_total g_total n_sum  (tabF_of (p := ("total", none)) (by decide) F_total hTB)
  have C_bill : Cal l.prog w K mg base 4 "bill" ["tariff", "course"] fs_bill := ok_bill F_bill g_bill n_enumerate  C_quantities C_total
  have C__law_refill : Cal l.prog w K mg base 1 "_law_refill" ["script", "k"] fs__law_refill := ok__law_refill F__law_refill g__law_refill n_len n_int
  have C__law_draw : Cal l.prog w K mg base 2 "_law_draw" ["state", "script", "size"] fs__law_draw := ok__law_draw F__law_draw g__law_draw n_int  C__law_refill
  have C__law_exact : Cal l.prog w K mg base 9 "_law_exact" ["first", "second"] fs__law_exact := ok__law_exact F__law_exact g__law_exact n_isinstance n_list n_tuple n_len n_range n_all n_str n_bool n_int
  have C__law_tariff : Cal l.prog w K mg base 3 "_law_tariff" ["state", "script"] fs__law_tariff := ok__law_tariff F__law_tariff g__law_tariff n_range n_tuple n_min  C__law_draw
  have C__law_course : Cal l.prog w K mg base 3 "_law_course" ["state", "script", "begin"] fs__law_course := ok__law_course F__law_course g__law_course n_range n_len n_min  C__law_draw
  have C__law_bill : Cal l.prog w K mg base 1 "_law_bill" ["tariff", "course"] fs__law_bill := ok__law_bill F__law_bill g__law_bill n_len n_range n_max n_list n_sum
  exact FnOk.toE (ok_law F_law g_law n_range n_list n_sum n_max  C__law_tariff C__law_course C__law_draw C__law_bill C_bill C__law_exact C_total)
end K82
open PySem PySem.W PySem.Calls PyProof.Rows
theorem PySem.Challenge.cw_pledgedwatts_k82_bills_tick_by_tick_holds : PySem.Challenge.rw_pledgedwatts_k82_bills_tick_by_tick.Holds := by
  w_on; o_law
  refine HandSHeadRun.head_any (r := OpenLaw.row PySem.Challenge.rw_pledgedwatts_k82_bills_tick_by_tick) (q := view (OpenLaw.row PySem.Challenge.rw_pledgedwatts_k82_bills_tick_by_tick).prog [15]) (H := K82.hk) (ob := K82.ob) (M := 4000) (loose := ["__name__", "DAY", "applies", "counted", "events", "quantities", "total", "bill", "_law_refill", "_law_draw", "_law_exact", "_law_tariff", "_law_course", "_law_bill"]) (d := HandSHeadRun.topDef (OpenLaw.row PySem.Challenge.rw_pledgedwatts_k82_bills_tick_by_tick).prog 15) (kwd := []) K82.ob_eq
    (by kernel_rfl) (fun s => by kernel_rfl) K82.run (by kernel_rfl) (by kernel_rfl) (by kernel_rfl) (by rfl) (by first | assumption | decide +kernel) (by decide +kernel) ⟨rfl, rfl, rfl, rfl, rfl, by decide +kernel⟩ ?hw ?hc
  case hw => w_witness2
  case hc =>
    refine LamX.walk_ofTsE (l := PySem.Challenge.rw_pledgedwatts_k82_bills_tick_by_tick) (n := 63) (k := 10) (x := "script") (CX := fun _ => DV.CXE) rfl (by decide) (by kernel_rfl) ⟨rfl, by decide, by decide⟩ ?F (fun _ _ _ _ _ z => by
      obtain ⟨_, _, _, h⟩ := z
      exact h)
    intro w mg fa h Y G hmg0
    obtain ⟨K, KX, c⟩ := Y
    have hmg : mg ("law" : PySem.Str) = some (.ref fa) := by
      have e : (HandSHeadRun.topDef (OpenLaw.row PySem.Challenge.rw_pledgedwatts_k82_bills_tick_by_tick).prog 15).name = ("law" : PySem.Str) := by kernel_rfl
      rw [← e]
      exact hmg0
    exact ⟨K, KX, K82.facts KX G hmg c⟩
