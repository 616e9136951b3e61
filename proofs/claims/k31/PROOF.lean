import PyProof.Rows.All
import Wide.All
import OpenK.AllK
import Wide.FinOn
import HandS.ForMost
import HandS.Wide
import HandS.Zip
import HandS.IsInst
import HandS.SortInts
import HandS.Sort
import HandS.WordsExc
import HandS.Defaults
import HandS.Style
import HandS.Head2
import HandS.HeadEnd
import HandS.HeadHook2
import HandS.Text
import HandS.NoneIn
import KE.SortKeyHeap
import HandS.SortKw
import HandS.Keys
import KE.KDictSum
import KE.GoesMore
import KE.GoesZip
import KE.GoesEnum
import HandS.HeadHook3
import PySem.Challenge.RW_campcarry_k31_whole_two_rolls_by_turns
set_option Elab.async false
set_option linter.all false
set_option maxRecDepth 100000
/-! TL1: values as trees; how a tree stands in the abstract heap; states and steps. -/
namespace TL
open PySem PySem.Spec L2

/-- how a list or a dict is held: for good; by one owner, who may change it; lent; for good, maybe of the module's own or locked (read alone) -/
inductive Mk where
  | fz | ow | br | sc
  deriving DecidableEq
inductive T where
  | non | bl (b : Bool) | int (i : Int) | str (x : Str)
  | tup (xs : List T)
  | lst (m : Mk) (xs : List T)
  | dic (m : Mk) (kvs : List (Key × T))
  | hnd (n : Nat)
  deriving Inhabited
/-- what a handle stands for -/
inductive Ob where
  | lst (xs : List T)
  | dic (kvs : List (Key × T))
  | ins (c : Str) (fs : List (Str × T))

/-- the heaps: what is held for good, that and what is lent, all; the handles' addresses; the classes' -/
structure Hc where
  K : PySem.W.Frag
  F : Hp
  P : Hp
  H : Hp
  ad : List Addr
  ca : Str → Addr

mutual
def Rep (c : Hc) : T → V → List Addr → Prop
  | .non, v, g => v = .non ∧ g = []
  | .bl b, v, g => v = .bl b ∧ g = []
  | .int i, v, g => v = .int i ∧ g = []
  | .str x, v, g => v = .str x ∧ g = []
  | .hnd n, v, g => ∃ p, v = .ref p ∧ c.ad[n]? = some p ∧ g = []
  | .tup xs, v, g => ∃ p vs, v = .ref p ∧ SqT c.K c.F p vs ∧ Reps c xs vs g
  | .lst .sc xs, v, g => ∃ p vs, v = .ref p ∧ SqL c.K c.F p vs ∧ Reps c xs vs [] ∧ g = []
  | .lst .fz xs, v, g => ∃ p vs, v = .ref p ∧ c.F p = some (.lst vs) ∧ Reps c xs vs [] ∧ g = []
  | .lst .br xs, v, g => ∃ p vs, v = .ref p ∧ c.P p = some (.lst vs) ∧ Reps c xs vs [] ∧ g = []
  | .lst .ow xs, v, g => ∃ p vs gs, v = .ref p ∧ c.H p = some (.lst vs) ∧ Reps c xs vs gs ∧ g = p :: gs
  | .dic .sc _, _, _ => False
  | .dic .fz xs, v, g => ∃ p vs, v = .ref p ∧ c.F p = some (.dK vs) ∧ RepK c xs vs [] ∧ g = []
  | .dic .br xs, v, g => ∃ p vs, v = .ref p ∧ c.P p = some (.dK vs) ∧ RepK c xs vs [] ∧ g = []
  | .dic .ow xs, v, g => ∃ p vs gs, v = .ref p ∧ c.H p = some (.dK vs) ∧ RepK c xs vs gs ∧ g = p :: gs
def Reps (c : Hc) : List T → List V → List Addr → Prop
  | [], vs, g => vs = [] ∧ g = []
  | t :: ts, vs, g => ∃ v r ga gb, vs = v :: r ∧ g = ga ++ gb ∧ Rep c t v ga ∧ Reps c ts r gb
def RepK (c : Hc) : List (Key × T) → List (Key × V) → List Addr → Prop
  | [], vs, g => vs = [] ∧ g = []
  | (k, t) :: ts, vs, g => ∃ v r ga gb, vs = (k, v) :: r ∧ g = ga ++ gb ∧ Rep c t v ga ∧ RepK c ts r gb
end

/-- from one to the other: what is held for good or lent stays, the nodes at g stay -/
structure Ex (c c' : Hc) (g : List Addr) : Prop where
  k : c'.K = c.K
  ca : c'.ca = c.ca
  f : Same c.F c'.F
  p : Same c.P c'.P
  h : ∀ a ∈ g, ∀ o, c.H a = some o → c'.H a = some o
  ad : ∃ more, c'.ad = c.ad ++ more
theorem Ex.mono {c c' : Hc} {g g' : List Addr} (e : Ex c c' g) (h : ∀ a ∈ g', a ∈ g) : Ex c c' g' := ⟨e.k, e.ca, e.f, e.p, fun a m => e.h a (h a m), e.ad⟩
theorem Ex.adAt {c c' : Hc} {g : List Addr} (e : Ex c c' g) {n : Nat} {p : Addr} (h : c.ad[n]? = some p) : c'.ad[n]? = some p := by
  obtain ⟨more, q⟩ := e.ad
  rw [q]
  obtain ⟨h1, _⟩ := List.getElem?_eq_some_iff.mp h
  rw [List.getElem?_append_left h1]
  exact h
theorem sqT_same {K : PySem.W.Frag} {H H' : Hp} {a : Addr} {xs : List V} (e : Same H H') (h : SqT K H a xs) : SqT K H' a xs := by
  rcases h with (h | ⟨o, h⟩) | h
  · exact .inl (.inl (e _ _ h))
  · exact .inl (.inr ⟨o, e _ _ h⟩)
  · exact .inr h
theorem sqL_same {K : PySem.W.Frag} {H H' : Hp} {a : Addr} {xs : List V} (e : Same H H') (h : SqL K H a xs) : SqL K H' a xs := e.seq h

mutual
theorem Rep.ex {c c' : Hc} : ∀ (t : T) (v : V) (g : List Addr), Ex c c' g → Rep c t v g → Rep c' t v g
  | .non, _, _, _, r => r
  | .bl _, _, _, _, r => r
  | .int _, _, _, _, r => r
  | .str _, _, _, _, r => r
  | .hnd n, _, _, e, ⟨p, a, b, d⟩ => ⟨p, a, e.adAt b, d⟩
  | .tup xs, _, _, e, ⟨p, vs, a, b, d⟩ => ⟨p, vs, a, by rw [e.k]; exact sqT_same e.f b, Reps.ex xs vs _ e d⟩
  | .lst .sc xs, _, _, e, ⟨p, vs, a, b, d, q⟩ => ⟨p, vs, a, by rw [e.k]; exact sqL_same e.f b, Reps.ex xs vs _ (e.mono (fun _ m => absurd m (by simp))) d, q⟩
  | .lst .fz xs, _, _, e, ⟨p, vs, a, b, d, q⟩ => ⟨p, vs, a, e.f _ _ b, Reps.ex xs vs _ (e.mono (fun _ m => absurd m (by simp))) d, q⟩
  | .lst .br xs, _, _, e, ⟨p, vs, a, b, d, q⟩ => ⟨p, vs, a, e.p _ _ b, Reps.ex xs vs _ (e.mono (fun _ m => absurd m (by simp))) d, q⟩
  | .lst .ow xs, _, _, e, ⟨p, vs, gs, a, b, d, q⟩ => ⟨p, vs, gs, a, e.h p (by rw [q]; simp) _ b, Reps.ex xs vs _ (e.mono (fun _ m => by rw [q]; exact List.mem_cons_of_mem _ m)) d, q⟩
  | .dic .sc _, _, _, _, r => (show False from r).elim
  | .dic .fz xs, _, _, e, ⟨p, vs, a, b, d, q⟩ => ⟨p, vs, a, e.f _ _ b, RepK.ex xs vs _ (e.mono (fun _ m => absurd m (by simp))) d, q⟩
  | .dic .br xs, _, _, e, ⟨p, vs, a, b, d, q⟩ => ⟨p, vs, a, e.p _ _ b, RepK.ex xs vs _ (e.mono (fun _ m => absurd m (by simp))) d, q⟩
  | .dic .ow xs, _, _, e, ⟨p, vs, gs, a, b, d, q⟩ => ⟨p, vs, gs, a, e.h p (by rw [q]; simp) _ b, RepK.ex xs vs _ (e.mono (fun _ m => by rw [q]; exact List.mem_cons_of_mem _ m)) d, q⟩
theorem Reps.ex {c c' : Hc} : ∀ (ts : List T) (vs : List V) (g : List Addr), Ex c c' g → Reps c ts vs g → Reps c' ts vs g
  | [], _, _, _, r => r
  | t :: ts, _, _, e, ⟨v, r, ga, gb, a, b, d, q⟩ => ⟨v, r, ga, gb, a, b, Rep.ex t v ga (e.mono (fun _ m => by rw [b]; exact List.mem_append_left _ m)) d, Reps.ex ts r gb (e.mono (fun _ m => by rw [b]; exact List.mem_append_right _ m)) q⟩
theorem RepK.ex {c c' : Hc} : ∀ (ts : List (Key × T)) (vs : List (Key × V)) (g : List Addr), Ex c c' g → RepK c ts vs g → RepK c' ts vs g
  | [], _, _, _, r => r
  | (k, t) :: ts, _, _, e, ⟨v, r, ga, gb, a, b, d, q⟩ => ⟨v, r, ga, gb, a, b, Rep.ex t v ga (e.mono (fun _ m => by rw [b]; exact List.mem_append_left _ m)) d, RepK.ex ts r gb (e.mono (fun _ m => by rw [b]; exact List.mem_append_right _ m)) q⟩
end

/-! ### the footprint stands in the heap -/
mutual
theorem Rep.inH {c : Hc} : ∀ (t : T) (v : V) (g : List Addr), Rep c t v g → ∀ a ∈ g, c.H a ≠ none
  | .non, _, _, ⟨_, q⟩, a, m => by rw [q] at m; simp at m
  | .bl _, _, _, ⟨_, q⟩, a, m => by rw [q] at m; simp at m
  | .int _, _, _, ⟨_, q⟩, a, m => by rw [q] at m; simp at m
  | .str _, _, _, ⟨_, q⟩, a, m => by rw [q] at m; simp at m
  | .hnd _, _, _, ⟨_, _, _, q⟩, a, m => by rw [q] at m; simp at m
  | .tup xs, _, _, ⟨_, vs, _, _, d⟩, a, m => Reps.inH xs vs _ d a m
  | .lst .sc _, _, _, ⟨_, _, _, _, _, q⟩, a, m => by rw [q] at m; simp at m
  | .lst .fz _, _, _, ⟨_, _, _, _, _, q⟩, a, m => by rw [q] at m; simp at m
  | .lst .br _, _, _, ⟨_, _, _, _, _, q⟩, a, m => by rw [q] at m; simp at m
  | .lst .ow xs, _, _, ⟨p, vs, gs, _, b, d, q⟩, a, m => by
    rw [q] at m
    rcases List.mem_cons.mp m with e | m
    · subst e; rw [b]; simp
    · exact Reps.inH xs vs _ d a m
  | .dic .sc _, _, _, r, _, _ => (show False from r).elim
  | .dic .fz _, _, _, ⟨_, _, _, _, _, q⟩, a, m => by rw [q] at m; simp at m
  | .dic .br _, _, _, ⟨_, _, _, _, _, q⟩, a, m => by rw [q] at m; simp at m
  | .dic .ow xs, _, _, ⟨p, vs, gs, _, b, d, q⟩, a, m => by
    rw [q] at m
    rcases List.mem_cons.mp m with e | m
    · subst e; rw [b]; simp
    · exact RepK.inH xs vs _ d a m
theorem Reps.inH {c : Hc} : ∀ (ts : List T) (vs : List V) (g : List Addr), Reps c ts vs g → ∀ a ∈ g, c.H a ≠ none
  | [], _, _, ⟨_, q⟩, a, m => by rw [q] at m; simp at m
  | t :: ts, _, _, ⟨v, r, ga, gb, _, b, d, q⟩, a, m => by
    rw [b] at m
    rcases List.mem_append.mp m with m | m
    · exact Rep.inH t v ga d a m
    · exact Reps.inH ts r gb q a m
theorem RepK.inH {c : Hc} : ∀ (ts : List (Key × T)) (vs : List (Key × V)) (g : List Addr), RepK c ts vs g → ∀ a ∈ g, c.H a ≠ none
  | [], _, _, ⟨_, q⟩, a, m => by rw [q] at m; simp at m
  | (k, t) :: ts, _, _, ⟨v, r, ga, gb, _, b, d, q⟩, a, m => by
    rw [b] at m
    rcases List.mem_append.mp m with m | m
    · exact Rep.inH t v ga d a m
    · exact RepK.inH ts r gb q a m
end

/-! ### trees without owned nodes; without lent ones; frozen, lent -/
mutual
def T.noOw : T → Bool
  | .tup xs => noOws xs
  | .lst m xs => (match m with | .ow => false | _ => noOws xs)
  | .dic m xs => (match m with | .ow => false | _ => noOwK xs)
  | _ => true
def noOws : List T → Bool
  | [] => true
  | t :: ts => t.noOw && noOws ts
def noOwK : List (Key × T) → Bool
  | [] => true
  | (_, t) :: ts => t.noOw && noOwK ts
end
mutual
def T.noBr : T → Bool
  | .tup xs => noBrs xs
  | .lst m xs => (match m with | .br => false | _ => noBrs xs)
  | .dic m xs => (match m with | .br => false | _ => noBrK xs)
  | _ => true
def noBrs : List T → Bool
  | [] => true
  | t :: ts => t.noBr && noBrs ts
def noBrK : List (Key × T) → Bool
  | [] => true
  | (_, t) :: ts => t.noBr && noBrK ts
end
def Mk.brw : Mk → Mk
  | .ow => .br
  | m => m
def Mk.frz : Mk → Mk
  | .ow => .fz
  | m => m
mutual
/-- all owned nodes lent -/
def T.brw : T → T
  | .tup xs => .tup (brws xs)
  | .lst m xs => .lst m.brw (brws xs)
  | .dic m xs => .dic m.brw (brwK xs)
  | t => t
def brws : List T → List T
  | [] => []
  | t :: ts => t.brw :: brws ts
def brwK : List (Key × T) → List (Key × T)
  | [] => []
  | (k, t) :: ts => (k, t.brw) :: brwK ts
end
mutual
/-- all owned nodes held for good -/
def T.frz : T → T
  | .tup xs => .tup (frzs xs)
  | .lst m xs => .lst m.frz (frzs xs)
  | .dic m xs => .dic m.frz (frzK xs)
  | t => t
def frzs : List T → List T
  | [] => []
  | t :: ts => t.frz :: frzs ts
def frzK : List (Key × T) → List (Key × T)
  | [] => []
  | (k, t) :: ts => (k, t.frz) :: frzK ts
end

mutual
theorem Rep.noOw {c : Hc} : ∀ (t : T) (v : V) (g : List Addr), t.noOw = true → Rep c t v g → g = []
  | .non, _, _, _, ⟨_, q⟩ => q
  | .bl _, _, _, _, ⟨_, q⟩ => q
  | .int _, _, _, _, ⟨_, q⟩ => q
  | .str _, _, _, _, ⟨_, q⟩ => q
  | .hnd _, _, _, _, ⟨_, _, _, q⟩ => q
  | .tup xs, _, _, h, ⟨_, vs, _, _, d⟩ => Reps.noOw xs vs _ h d
  | .lst .sc _, _, _, _, ⟨_, _, _, _, _, q⟩ => q
  | .lst .fz _, _, _, _, ⟨_, _, _, _, _, q⟩ => q
  | .lst .br _, _, _, _, ⟨_, _, _, _, _, q⟩ => q
  | .lst .ow xs, _, _, h, _ => by cases h
  | .dic .sc _, _, _, _, r => (show False from r).elim
  | .dic .fz _, _, _, _, ⟨_, _, _, _, _, q⟩ => q
  | .dic .br _, _, _, _, ⟨_, _, _, _, _, q⟩ => q
  | .dic .ow xs, _, _, h, _ => by cases h
theorem Reps.noOw {c : Hc} : ∀ (ts : List T) (vs : List V) (g : List Addr), noOws ts = true → Reps c ts vs g → g = []
  | [], _, _, _, ⟨_, q⟩ => q
  | t :: ts, _, _, h, ⟨v, r, ga, gb, _, b, d, q⟩ => by
    have h2 := Bool.and_eq_true_iff.mp (show (t.noOw && noOws ts) = true from h)
    rw [b, Rep.noOw t v ga h2.1 d, Reps.noOw ts r gb h2.2 q, List.nil_append]
theorem RepK.noOw {c : Hc} : ∀ (ts : List (Key × T)) (vs : List (Key × V)) (g : List Addr), noOwK ts = true → RepK c ts vs g → g = []
  | [], _, _, _, ⟨_, q⟩ => q
  | (k, t) :: ts, _, _, h, ⟨v, r, ga, gb, _, b, d, q⟩ => by
    have h2 := Bool.and_eq_true_iff.mp (show (t.noOw && noOwK ts) = true from h)
    rw [b, Rep.noOw t v ga h2.1 d, RepK.noOw ts r gb h2.2 q, List.nil_append]
end

/-- the same but for what is lent -/
structure ExF (c c' : Hc) (g : List Addr) : Prop where
  k : c'.K = c.K
  f : Same c.F c'.F
  h : ∀ a ∈ g, ∀ o, c.H a = some o → c'.H a = some o
  ad : ∀ (n : Nat) (p : Addr), c.ad[n]? = some p → c'.ad[n]? = some p
theorem ExF.mono {c c' : Hc} {g g' : List Addr} (e : ExF c c' g) (h : ∀ a ∈ g', a ∈ g) : ExF c c' g' := ⟨e.k, e.f, fun a m => e.h a (h a m), e.ad⟩
mutual
theorem Rep.exF {c c' : Hc} : ∀ (t : T) (v : V) (g : List Addr), t.noBr = true → ExF c c' g → Rep c t v g → Rep c' t v g
  | .non, _, _, _, _, r => r
  | .bl _, _, _, _, _, r => r
  | .int _, _, _, _, _, r => r
  | .str _, _, _, _, _, r => r
  | .hnd n, _, _, _, e, ⟨p, a, b, d⟩ => ⟨p, a, e.ad _ _ b, d⟩
  | .tup xs, _, _, hb, e, ⟨p, vs, a, b, d⟩ => ⟨p, vs, a, by rw [e.k]; exact sqT_same e.f b, Reps.exF xs vs _ hb e d⟩
  | .lst .sc xs, _, _, hb, e, ⟨p, vs, a, b, d, q⟩ => ⟨p, vs, a, by rw [e.k]; exact sqL_same e.f b, Reps.exF xs vs _ hb (e.mono (fun _ m => absurd m (by simp))) d, q⟩
  | .lst .fz xs, _, _, hb, e, ⟨p, vs, a, b, d, q⟩ => ⟨p, vs, a, e.f _ _ b, Reps.exF xs vs _ hb (e.mono (fun _ m => absurd m (by simp))) d, q⟩
  | .lst .br xs, _, _, hb, _, _ => by cases hb
  | .lst .ow xs, _, _, hb, e, ⟨p, vs, gs, a, b, d, q⟩ => ⟨p, vs, gs, a, e.h p (by rw [q]; simp) _ b, Reps.exF xs vs _ hb (e.mono (fun _ m => by rw [q]; exact List.mem_cons_of_mem _ m)) d, q⟩
  | .dic .sc _, _, _, _, _, r => (show False from r).elim
  | .dic .fz xs, _, _, hb, e, ⟨p, vs, a, b, d, q⟩ => ⟨p, vs, a, e.f _ _ b, RepK.exF xs vs _ hb (e.mono (fun _ m => absurd m (by simp))) d, q⟩
  | .dic .br xs, _, _, hb, _, _ => by cases hb
  | .dic .ow xs, _, _, hb, e, ⟨p, vs, gs, a, b, d, q⟩ => ⟨p, vs, gs, a, e.h p (by rw [q]; simp) _ b, RepK.exF xs vs _ hb (e.mono (fun _ m => by rw [q]; exact List.mem_cons_of_mem _ m)) d, q⟩
theorem Reps.exF {c c' : Hc} : ∀ (ts : List T) (vs : List V) (g : List Addr), noBrs ts = true → ExF c c' g → Reps c ts vs g → Reps c' ts vs g
  | [], _, _, _, _, r => r
  | t :: ts, _, _, hb, e, ⟨v, r, ga, gb, a, b, d, q⟩ => by
    have h2 := Bool.and_eq_true_iff.mp (show (t.noBr && noBrs ts) = true from hb)
    exact ⟨v, r, ga, gb, a, b, Rep.exF t v ga h2.1 (e.mono (fun _ m => by rw [b]; exact List.mem_append_left _ m)) d, Reps.exF ts r gb h2.2 (e.mono (fun _ m => by rw [b]; exact List.mem_append_right _ m)) q⟩
theorem RepK.exF {c c' : Hc} : ∀ (ts : List (Key × T)) (vs : List (Key × V)) (g : List Addr), noBrK ts = true → ExF c c' g → RepK c ts vs g → RepK c' ts vs g
  | [], _, _, _, _, r => r
  | (k, t) :: ts, _, _, hb, e, ⟨v, r, ga, gb, a, b, d, q⟩ => by
    have h2 := Bool.and_eq_true_iff.mp (show (t.noBr && noBrK ts) = true from hb)
    exact ⟨v, r, ga, gb, a, b, Rep.exF t v ga h2.1 (e.mono (fun _ m => by rw [b]; exact List.mem_append_left _ m)) d, RepK.exF ts r gb h2.2 (e.mono (fun _ m => by rw [b]; exact List.mem_append_right _ m)) q⟩
end

/-! ### lending and freezing: the owned nodes come into P, or into F and P -/
/-- the heaps with the nodes of g taken over from H -/
def plus (A H : Hp) (g : List Addr) : Hp := fun a => if a ∈ g then H a else A a
theorem plus_in {A H : Hp} {g : List Addr} {a : Addr} (h : a ∈ g) : plus A H g a = H a := if_pos h
theorem plus_out {A H : Hp} {g : List Addr} {a : Addr} (h : a ∉ g) : plus A H g a = A a := if_neg h
theorem plus_same {A H : Hp} {g : List Addr} (h : Same A H) : Same A (plus A H g) := fun a o e => by
  by_cases m : a ∈ g
  · rw [plus_in m]; exact h a o e
  · rw [plus_out m]; exact e
theorem plus_le {A H : Hp} {g : List Addr} (h : Same A H) : Same (plus A H g) H := fun a o e => by
  by_cases m : a ∈ g
  · rw [plus_in m] at e; exact e
  · rw [plus_out m] at e; exact h a o e
/-- the same, but that a dict may be locked meanwhile -/
def SameL (P H : Hp) : Prop := ∀ a o, P a = some o → H a = some o ∨ ∃ od vs, o = .dK vs ∧ H a = some (.frz od o)
theorem Same.loose {P H : Hp} (h : Same P H) : SameL P H := fun a o e => .inl (h a o e)
theorem SameL.upd {P H : Hp} {p : Addr} {u : HO} (h : SameL P H) (n : P p = none) : SameL P (L2.upd H p u) := fun a o e => by
  have ne : a ≠ p := fun z => by rw [z, n] at e; cases e
  rw [upd_ne ne]
  exact h a o e
theorem SameL.none {P H : Hp} (h : SameL P H) {p : Addr} (e : H p = none) : P p = none := by
  cases q : P p with
  | none => rfl
  | some o => rcases h p o q with z | ⟨_, _, _, z⟩ <;> rw [e] at z <;> cases z
theorem SameL.of {F P H : Hp} (h : Same F P) (h2 : SameL P H) : SameL F H := fun a o e => h2 a o (h a o e)
theorem plus_sameN {A H : Hp} {g : List Addr} (h : ∀ a ∈ g, A a = none) : Same A (plus A H g) := fun a o e => by
  by_cases m : a ∈ g
  · rw [h a m] at e; cases e
  · rw [plus_out m]; exact e
theorem plus_leL {A H : Hp} {g : List Addr} (h : SameL A H) : SameL (plus A H g) H := fun a o e => by
  by_cases m : a ∈ g
  · rw [plus_in m] at e; exact .inl e
  · rw [plus_out m] at e; exact h a o e
theorem SameL.lst {P H : Hp} (h : SameL P H) {a : Addr} {vs : List V} (e : P a = some (.lst vs)) : H a = some (.lst vs) := by
  rcases h a _ e with z | ⟨_, _, z, _⟩
  · exact z
  · cases z
theorem SameL.tup {P H : Hp} (h : SameL P H) {a : Addr} {vs : List V} (e : P a = some (.tup vs)) : H a = some (.tup vs) := by
  rcases h a _ e with z | ⟨_, _, z, _⟩
  · exact z
  · cases z
theorem SameL.frz {P H : Hp} (h : SameL P H) {a : Addr} {o : Obj} {u : HO} (e : P a = some (.frz o u)) : H a = some (.frz o u) := by
  rcases h a _ e with z | ⟨_, _, z, _⟩
  · exact z
  · cases z
theorem SameL.dic {P H : Hp} (h : SameL P H) {a : Addr} {vs : List (Key × V)} (e : P a = some (.dK vs)) : Rd H a (.dK vs) := by
  rcases h a _ e with z | ⟨o, _, _, z⟩
  · exact .inl z
  · exact .inr ⟨o, z⟩
theorem sqT_sameL {K : PySem.W.Frag} {H H' : Hp} {a : Addr} {xs : List V} (e : SameL H H') (h : SqT K H a xs) : SqT K H' a xs := by
  rcases h with (h | ⟨o, h⟩) | h
  · exact .inl (.inl (e.tup h))
  · exact .inl (.inr ⟨o, e.frz h⟩)
  · exact .inr h
theorem sqL_sameL {K : PySem.W.Frag} {H H' : Hp} {a : Addr} {xs : List V} (e : SameL H H') (h : SqL K H a xs) : SqL K H' a xs := by
  rcases h with (h | ⟨o, h⟩) | h
  · exact .inl (.inl (e.lst h))
  · exact .inl (.inr ⟨o, e.frz h⟩)
  · exact .inr h
/-- c' has all of c, and in P the nodes of g -/
structure Lend (c c' : Hc) (g : List Addr) : Prop where
  k : c'.K = c.K
  f : Same c.F c'.F
  p : Same c.P c'.P
  g : ∀ a ∈ g, ∀ o, c.H a = some o → c'.P a = some o
  ad : ∀ (n : Nat) (p : Addr), c.ad[n]? = some p → c'.ad[n]? = some p
theorem Lend.mono {c c' : Hc} {g g' : List Addr} (e : Lend c c' g) (h : ∀ a ∈ g', a ∈ g) : Lend c c' g' := ⟨e.k, e.f, e.p, fun a m => e.g a (h a m), e.ad⟩
mutual
theorem Rep.brw {c c' : Hc} : ∀ (t : T) (v : V) (g : List Addr), Lend c c' g → Rep c t v g → Rep c' t.brw v []
  | .non, _, _, _, ⟨a, _⟩ => ⟨a, rfl⟩
  | .bl _, _, _, _, ⟨a, _⟩ => ⟨a, rfl⟩
  | .int _, _, _, _, ⟨a, _⟩ => ⟨a, rfl⟩
  | .str _, _, _, _, ⟨a, _⟩ => ⟨a, rfl⟩
  | .hnd n, _, _, e, ⟨p, a, b, d⟩ => ⟨p, a, e.ad _ _ b, rfl⟩
  | .tup xs, _, _, e, ⟨p, vs, a, b, d⟩ => ⟨p, vs, a, by rw [e.k]; exact sqT_same e.f b, Reps.brw xs vs _ e d⟩
  | .lst .sc xs, _, _, e, ⟨p, vs, a, b, d, q⟩ => ⟨p, vs, a, by rw [e.k]; exact sqL_same e.f b, Reps.brw xs vs _ (e.mono (fun _ m => absurd m (by simp))) d, rfl⟩
  | .lst .fz xs, _, _, e, ⟨p, vs, a, b, d, q⟩ => ⟨p, vs, a, e.f _ _ b, Reps.brw xs vs _ (e.mono (fun _ m => absurd m (by simp))) d, rfl⟩
  | .lst .br xs, _, _, e, ⟨p, vs, a, b, d, q⟩ => ⟨p, vs, a, e.p _ _ b, Reps.brw xs vs _ (e.mono (fun _ m => absurd m (by simp))) d, rfl⟩
  | .lst .ow xs, _, _, e, ⟨p, vs, gs, a, b, d, q⟩ => ⟨p, vs, a, e.g p (by rw [q]; simp) _ b, Reps.brw xs vs _ (e.mono (fun _ m => by rw [q]; exact List.mem_cons_of_mem _ m)) d, rfl⟩
  | .dic .sc _, _, _, _, r => (show False from r).elim
  | .dic .fz xs, _, _, e, ⟨p, vs, a, b, d, q⟩ => ⟨p, vs, a, e.f _ _ b, RepK.brw xs vs _ (e.mono (fun _ m => absurd m (by simp))) d, rfl⟩
  | .dic .br xs, _, _, e, ⟨p, vs, a, b, d, q⟩ => ⟨p, vs, a, e.p _ _ b, RepK.brw xs vs _ (e.mono (fun _ m => absurd m (by simp))) d, rfl⟩
  | .dic .ow xs, _, _, e, ⟨p, vs, gs, a, b, d, q⟩ => ⟨p, vs, a, e.g p (by rw [q]; simp) _ b, RepK.brw xs vs _ (e.mono (fun _ m => by rw [q]; exact List.mem_cons_of_mem _ m)) d, rfl⟩
theorem Reps.brw {c c' : Hc} : ∀ (ts : List T) (vs : List V) (g : List Addr), Lend c c' g → Reps c ts vs g → Reps c' (brws ts) vs []
  | [], _, _, _, ⟨a, _⟩ => ⟨a, rfl⟩
  | t :: ts, _, _, e, ⟨v, r, ga, gb, a, b, d, q⟩ => ⟨v, r, [], [], a, rfl, Rep.brw t v ga (e.mono (fun _ m => by rw [b]; exact List.mem_append_left _ m)) d, Reps.brw ts r gb (e.mono (fun _ m => by rw [b]; exact List.mem_append_right _ m)) q⟩
theorem RepK.brw {c c' : Hc} : ∀ (ts : List (Key × T)) (vs : List (Key × V)) (g : List Addr), Lend c c' g → RepK c ts vs g → RepK c' (brwK ts) vs []
  | [], _, _, _, ⟨a, _⟩ => ⟨a, rfl⟩
  | (k, t) :: ts, _, _, e, ⟨v, r, ga, gb, a, b, d, q⟩ => ⟨v, r, [], [], a, rfl, Rep.brw t v ga (e.mono (fun _ m => by rw [b]; exact List.mem_append_left _ m)) d, RepK.brw ts r gb (e.mono (fun _ m => by rw [b]; exact List.mem_append_right _ m)) q⟩
end
structure Frz (c c' : Hc) (g : List Addr) : Prop where
  k : c'.K = c.K
  f : Same c.F c'.F
  p : Same c.P c'.P
  g : ∀ a ∈ g, ∀ o, c.H a = some o → c'.F a = some o
  ad : ∀ (n : Nat) (p : Addr), c.ad[n]? = some p → c'.ad[n]? = some p
theorem Frz.mono {c c' : Hc} {g g' : List Addr} (e : Frz c c' g) (h : ∀ a ∈ g', a ∈ g) : Frz c c' g' := ⟨e.k, e.f, e.p, fun a m => e.g a (h a m), e.ad⟩
mutual
theorem Rep.frz {c c' : Hc} : ∀ (t : T) (v : V) (g : List Addr), Frz c c' g → Rep c t v g → Rep c' t.frz v []
  | .non, _, _, _, ⟨a, _⟩ => ⟨a, rfl⟩
  | .bl _, _, _, _, ⟨a, _⟩ => ⟨a, rfl⟩
  | .int _, _, _, _, ⟨a, _⟩ => ⟨a, rfl⟩
  | .str _, _, _, _, ⟨a, _⟩ => ⟨a, rfl⟩
  | .hnd n, _, _, e, ⟨p, a, b, d⟩ => ⟨p, a, e.ad _ _ b, rfl⟩
  | .tup xs, _, _, e, ⟨p, vs, a, b, d⟩ => ⟨p, vs, a, by rw [e.k]; exact sqT_same e.f b, Reps.frz xs vs _ e d⟩
  | .lst .sc xs, _, _, e, ⟨p, vs, a, b, d, q⟩ => ⟨p, vs, a, by rw [e.k]; exact sqL_same e.f b, Reps.frz xs vs _ (e.mono (fun _ m => absurd m (by simp))) d, rfl⟩
  | .lst .fz xs, _, _, e, ⟨p, vs, a, b, d, q⟩ => ⟨p, vs, a, e.f _ _ b, Reps.frz xs vs _ (e.mono (fun _ m => absurd m (by simp))) d, rfl⟩
  | .lst .br xs, _, _, e, ⟨p, vs, a, b, d, q⟩ => ⟨p, vs, a, e.p _ _ b, Reps.frz xs vs _ (e.mono (fun _ m => absurd m (by simp))) d, rfl⟩
  | .lst .ow xs, _, _, e, ⟨p, vs, gs, a, b, d, q⟩ => ⟨p, vs, a, e.g p (by rw [q]; simp) _ b, Reps.frz xs vs _ (e.mono (fun _ m => by rw [q]; exact List.mem_cons_of_mem _ m)) d, rfl⟩
  | .dic .sc _, _, _, _, r => (show False from r).elim
  | .dic .fz xs, _, _, e, ⟨p, vs, a, b, d, q⟩ => ⟨p, vs, a, e.f _ _ b, RepK.frz xs vs _ (e.mono (fun _ m => absurd m (by simp))) d, rfl⟩
  | .dic .br xs, _, _, e, ⟨p, vs, a, b, d, q⟩ => ⟨p, vs, a, e.p _ _ b, RepK.frz xs vs _ (e.mono (fun _ m => absurd m (by simp))) d, rfl⟩
  | .dic .ow xs, _, _, e, ⟨p, vs, gs, a, b, d, q⟩ => ⟨p, vs, a, e.g p (by rw [q]; simp) _ b, RepK.frz xs vs _ (e.mono (fun _ m => by rw [q]; exact List.mem_cons_of_mem _ m)) d, rfl⟩
theorem Reps.frz {c c' : Hc} : ∀ (ts : List T) (vs : List V) (g : List Addr), Frz c c' g → Reps c ts vs g → Reps c' (frzs ts) vs []
  | [], _, _, _, ⟨a, _⟩ => ⟨a, rfl⟩
  | t :: ts, _, _, e, ⟨v, r, ga, gb, a, b, d, q⟩ => ⟨v, r, [], [], a, rfl, Rep.frz t v ga (e.mono (fun _ m => by rw [b]; exact List.mem_append_left _ m)) d, Reps.frz ts r gb (e.mono (fun _ m => by rw [b]; exact List.mem_append_right _ m)) q⟩
theorem RepK.frz {c c' : Hc} : ∀ (ts : List (Key × T)) (vs : List (Key × V)) (g : List Addr), Frz c c' g → RepK c ts vs g → RepK c' (frzK ts) vs []
  | [], _, _, _, ⟨a, _⟩ => ⟨a, rfl⟩
  | (k, t) :: ts, _, _, e, ⟨v, r, ga, gb, a, b, d, q⟩ => ⟨v, r, [], [], a, rfl, Rep.frz t v ga (e.mono (fun _ m => by rw [b]; exact List.mem_append_left _ m)) d, RepK.frz ts r gb (e.mono (fun _ m => by rw [b]; exact List.mem_append_right _ m)) q⟩
end
end TL

set_option Elab.async false
set_option linter.all false
set_option maxRecDepth 100000
/-! TL2: states, steps, temporaries; lifted readings. -/
namespace TL
open PySem PySem.Spec L2

/-- who owns nodes: a slot, a handle's object -/
inductive Own where
  | s (i : Nat) | o (n : Nat)
  deriving DecidableEq
/-- the state that a mirror sees: the slots' trees (none: not to be used), the objects -/
abbrev SS := List (Option T) × List Ob
structure Gh extends Hc where
  fp : Own → List Addr
  τ : List (Option T)
  O : List Ob
abbrev Gh.S (G : Gh) : SS := (G.τ, G.O)
def RepO (c : Hc) : Ob → Addr → List Addr → Prop
  | .lst xs, p, g => ∃ vs, c.H p = some (.lst vs) ∧ Reps c xs vs g ∧ noBrs xs = true
  | .dic kvs, p, g => ∃ vs, c.H p = some (.dK vs) ∧ RepK c kvs vs g ∧ noBrK kvs = true
  | .ins C fs, p, g => ∃ dx vs, c.H p = some (.ins (c.ca C) dx vs) ∧ RepK c (fs.map fun q => (.inr q.1, q.2)) (vs.map fun q => (.inr q.1, q.2)) g ∧ noBrK (fs.map fun q => (.inr q.1, q.2)) = true

structure Good (K : PySem.W.Frag) (ca : Str → Addr) (σ : L2.St) (G : Gh) : Prop where
  k : G.K = K
  c : G.ca = ca
  len : G.τ.length = σ.length
  fp : Same G.F G.P
  ph : SameL G.P G.H
  nd : ∀ k, (G.fp k).Nodup
  dj : ∀ k k' a, a ∈ G.fp k → a ∈ G.fp k' → k = k'
  pn : ∀ k a, a ∈ G.fp k → G.P a = none
  adn : G.ad.Nodup
  adp : ∀ a ∈ G.ad, G.P a = none
  ado : ∀ a ∈ G.ad, ∀ k, a ∉ G.fp k
  sl : ∀ i t, G.τ[i]? = some (some t) → ∃ v, σ[i]? = some (some v) ∧ Rep G.toHc t v (G.fp (.s i))
  sn : ∀ i, (∀ t, G.τ[i]? ≠ some (some t)) → G.fp (.s i) = []
  ob : ∀ n b, G.O[n]? = some b → ∃ p, G.ad[n]? = some p ∧ RepO G.toHc b p (G.fp (.o n))
  on : ∀ n, G.O[n]? = none → G.fp (.o n) = []
  ln : G.ad.length = G.O.length

theorem RepO.at {c : Hc} {b : Ob} {p : Addr} {g : List Addr} (r : RepO c b p g) : c.H p ≠ none := by
  cases b with
  | lst xs => obtain ⟨vs, e, _⟩ := r; rw [e]; simp
  | dic xs => obtain ⟨vs, e, _⟩ := r; rw [e]; simp
  | ins C fs => obtain ⟨dx, vs, e, _⟩ := r; rw [e]; simp
theorem RepO.inH {c : Hc} {b : Ob} {p : Addr} {g : List Addr} (r : RepO c b p g) : ∀ a ∈ g, c.H a ≠ none := by
  cases b with
  | lst xs => obtain ⟨vs, e, d, _⟩ := r; exact Reps.inH _ _ _ d
  | dic xs => obtain ⟨vs, e, d, _⟩ := r; exact RepK.inH _ _ _ d
  | ins C fs => obtain ⟨dx, vs, e, d, _⟩ := r; exact RepK.inH _ _ _ d
theorem RepO.ex {c c' : Hc} {b : Ob} {p : Addr} {g : List Addr} (e : Ex c c' (p :: g)) (r : RepO c b p g) : RepO c' b p g := by
  have e2 : Ex c c' g := e.mono fun _ m => List.mem_cons_of_mem _ m
  cases b with
  | lst xs => obtain ⟨vs, a, d, q⟩ := r; exact ⟨vs, e.h p (by simp) _ a, Reps.ex _ _ _ e2 d, q⟩
  | dic xs => obtain ⟨vs, a, d, q⟩ := r; exact ⟨vs, e.h p (by simp) _ a, RepK.ex _ _ _ e2 d, q⟩
  | ins C fs =>
    obtain ⟨dx, vs, a, d, q⟩ := r
    exact ⟨dx, vs, by rw [e.ca]; exact e.h p (by simp) _ a, RepK.ex _ _ _ e2 d, q⟩
section
variable {K : PySem.W.Frag} {ca : Str → Addr} {σ : L2.St} {G : Gh}
theorem Good.fpH (g : Good K ca σ G) {k : Own} {a : Addr} (m : a ∈ G.fp k) : G.H a ≠ none := by
  cases k with
  | s i =>
    by_cases h : ∃ t, G.τ[i]? = some (some t)
    · obtain ⟨t, h⟩ := h
      obtain ⟨v, _, r⟩ := g.sl i t h
      exact Rep.inH _ _ _ r a m
    · rw [g.sn i fun t q => h ⟨t, q⟩] at m
      simp at m
  | o n =>
    cases h : G.O[n]? with
    | none => rw [g.on n h] at m; simp at m
    | some b =>
      obtain ⟨p, _, r⟩ := g.ob n b h
      exact r.inH a m
theorem Good.adH (g : Good K ca σ G) {a : Addr} (m : a ∈ G.ad) : G.H a ≠ none := by
  obtain ⟨n, hn, e⟩ := List.mem_iff_getElem.mp m
  have e2 : G.ad[n]? = some a := by rw [← e]; exact List.getElem?_eq_getElem hn
  have h2 : n < G.O.length := by rw [← g.ln]; exact hn
  obtain ⟨p, e3, r⟩ := g.ob n _ (List.getElem?_eq_getElem h2)
  rw [e2] at e3
  cases e3
  exact r.at
end

structure Step (ef : Bool) (G G' : Gh) : Prop where
  k : G'.K = G.K
  c : G'.ca = G.ca
  f : Same G.F G'.F
  p : Same G.P G'.P
  fnew : ∀ a o, G'.F a = some o → G.F a = some o ∨ G.H a = none ∨ ∃ k, a ∈ G.fp k
  pnew : ∀ a o, G'.P a = some o → G.P a = some o ∨ G.H a = none ∨ ∃ k, a ∈ G.fp k
  fr : ∀ a o, G.H a = some o → (∀ k, a ∉ G.fp k) → a ∉ G.ad → G'.H a = some o
  dom : ∀ a, G.H a ≠ none → G'.H a ≠ none
  ad : ∃ more, G'.ad = G.ad ++ more
  anew : ∀ a ∈ G'.ad, a ∈ G.ad ∨ G.H a = none ∨ ∃ k, a ∈ G.fp k
  gnew : ∀ k a, a ∈ G'.fp k → (∃ k', a ∈ G.fp k') ∨ G.H a = none
  q : ef = false → G'.τ = G.τ ∧ G'.O = G.O ∧ Same G.H G'.H ∧ G'.fp = G.fp ∧ G'.ad = G.ad
theorem Step.refl {ef : Bool} (G : Gh) : Step ef G G where
  k := rfl
  c := rfl
  f := Same.refl _
  p := Same.refl _
  fnew := fun _ _ e => .inl e
  pnew := fun _ _ e => .inl e
  fr := fun _ _ e _ _ => e
  dom := fun _ e => e
  ad := ⟨[], by simp⟩
  anew := fun _ m => .inl m
  gnew := fun k _ m => .inl ⟨k, m⟩
  q := fun _ => ⟨rfl, rfl, Same.refl _, rfl, rfl⟩
theorem Step.loud {ef : Bool} {G G' : Gh} (s : Step ef G G') : Step true G G' := { s with q := fun e => by cases e }
theorem Step.weak {ef ef' : Bool} {G G' : Gh} (s : Step ef G G') (h : ef' = false → ef = false) : Step ef' G G' := { s with q := fun e => s.q (h e) }
theorem Step.trans {e1 e2 : Bool} {G G1 G2 : Gh} (s : Step e1 G G1) (t : Step e2 G1 G2) : Step (e1 || e2) G G2 where
  k := t.k.trans s.k
  c := t.c.trans s.c
  f := s.f.trans t.f
  p := s.p.trans t.p
  fnew := fun a o e => by
    rcases t.fnew a o e with h | h | ⟨k, h⟩
    · exact s.fnew a o h
    · right; left
      by_cases q : G.H a = none
      · exact q
      · exact absurd h (s.dom a q)
    · rcases s.gnew k a h with ⟨k', h⟩ | h
      · exact .inr (.inr ⟨k', h⟩)
      · exact .inr (.inl h)
  pnew := fun a o e => by
    rcases t.pnew a o e with h | h | ⟨k, h⟩
    · exact s.pnew a o h
    · right; left
      by_cases q : G.H a = none
      · exact q
      · exact absurd h (s.dom a q)
    · rcases s.gnew k a h with ⟨k', h⟩ | h
      · exact .inr (.inr ⟨k', h⟩)
      · exact .inr (.inl h)
  fr := fun a o e hg ha => t.fr a o (s.fr a o e hg ha) (fun k m => by
    rcases s.gnew k a m with ⟨k', h⟩ | h
    · exact hg k' h
    · rw [e] at h; cases h) fun m => by
    rcases s.anew a m with h | h | ⟨k, h⟩
    · exact ha h
    · rw [e] at h; cases h
    · exact hg k h
  dom := fun a h => t.dom a (s.dom a h)
  ad := by
    obtain ⟨m1, h1⟩ := s.ad
    obtain ⟨m2, h2⟩ := t.ad
    exact ⟨m1 ++ m2, by rw [h2, h1, List.append_assoc]⟩
  anew := fun a m => by
    rcases t.anew a m with h | h | ⟨k, h⟩
    · exact s.anew a h
    · right; left
      by_cases q : G.H a = none
      · exact q
      · exact absurd h (s.dom a q)
    · rcases s.gnew k a h with ⟨k', h⟩ | h
      · exact .inr (.inr ⟨k', h⟩)
      · exact .inr (.inl h)
  gnew := fun k a m => by
    rcases t.gnew k a m with ⟨k', h⟩ | h
    · exact s.gnew k' a h
    · right
      by_cases q : G.H a = none
      · exact q
      · exact absurd h (s.dom a q)
  q := fun e => by
    obtain ⟨h1, h2⟩ := Bool.or_eq_false_iff.mp e
    obtain ⟨a1, a2, a3, a4, a5⟩ := s.q h1
    obtain ⟨b1, b2, b3, b4, b5⟩ := t.q h2
    exact ⟨b1.trans a1, b2.trans a2, a3.trans b3, b4.trans a4, b5.trans a5⟩

/-- a value that no slot holds: its nodes are its own -/
structure Tmp (G : Gh) (v : V) (t : T) (g : List Addr) : Prop where
  rep : Rep G.toHc t v g
  nd : g.Nodup
  out : ∀ a ∈ g, (∀ k, a ∉ G.fp k) ∧ a ∉ G.ad ∧ G.P a = none
/-- its nodes were none of the heap's, or a slot's -/
def New (G : Gh) (g : List Addr) : Prop := ∀ a ∈ g, G.H a = none ∨ ∃ k, a ∈ G.fp k
theorem New.nil {G : Gh} : New G [] := fun _ m => absurd m (by simp)
theorem New.step {ef : Bool} {G G' : Gh} {g : List Addr} (s : Step ef G G') (h : New G' g) : New G g := fun a m => by
  rcases h a m with h | ⟨k, h⟩
  · left
    by_cases q : G.H a = none
    · exact q
    · exact absurd h (s.dom a q)
  · rcases s.gnew k a h with ⟨k', h⟩ | h
    · exact .inr ⟨k', h⟩
    · exact .inl h
theorem Tmp.inH {G : Gh} {v : V} {t : T} {g : List Addr} (m : Tmp G v t g) {a : Addr} (h : a ∈ g) : G.H a ≠ none := Rep.inH _ _ _ m.rep a h
theorem Tmp.step {ef : Bool} {G G' : Gh} {v : V} {t : T} {g : List Addr} (m : Tmp G v t g) (s : Step ef G G') : Tmp G' v t g where
  rep := Rep.ex _ _ _ ⟨s.k, s.c, s.f, s.p, fun a h o e => s.fr a o e (m.out a h).1 (m.out a h).2.1, s.ad⟩ m.rep
  nd := m.nd
  out := fun a h => by
    have hH : G.H a ≠ none := m.inH h
    obtain ⟨h1, h2, h3⟩ := m.out a h
    refine ⟨fun k q => ?_, fun q => ?_, ?_⟩
    · rcases s.gnew k a q with ⟨k', z⟩ | z
      · exact h1 k' z
      · exact hH z
    · rcases s.anew a q with z | z | ⟨k, z⟩
      · exact h2 z
      · exact hH z
      · exact h1 k z
    · cases e : G'.P a with
      | none => rfl
      | some o =>
        rcases s.pnew a o e with z | z | ⟨k, z⟩
        · rw [h3] at z; cases z
        · exact absurd z hH
        · exact absurd z (h1 k)
/-- two temporaries, the later one new: apart -/
theorem Tmp.apart {G : Gh} {v : V} {t : T} {g g2 : List Addr} (m : Tmp G v t g) (n : New G g2) : ∀ a ∈ g, a ∉ g2 := fun a h h2 => by
  rcases n a h2 with q | ⟨k, q⟩
  · exact m.inH h q
  · exact (m.out a h).1 k q
/-- a value without nodes of its own -/
theorem Tmp.bare {G : Gh} {v : V} {t : T} (r : Rep G.toHc t v []) : Tmp G v t [] := ⟨r, List.nodup_nil, fun _ m => absurd m (by simp)⟩

/-! ### lifted readings -/
abbrev DE := SS → Option (T × SS)
abbrev DT := SS → Option (Bool × SS)
/-- how a statement ends -/
inductive Fl where
  | nx | rt (t : T) | bk | ct
abbrev DS := SS → Option (Fl × SS)
/-- an argument: a value, or a slot that is lent -/
inductive Arg where
  | tmp (t : T) | bor (i : Nat)
abbrev DA := SS → Option (List Arg × SS)
section
variable (K : PySem.W.Frag) (ca : Str → Addr)
def liftE (ef : Bool) (d : DE) : TE := fun σ H Q => ∃ G : Gh, G.H = H ∧ Good K ca σ G ∧ ∃ r S', d G.S = some (r, S') ∧
  ∀ G' v g, G'.S = S' → Good K ca σ G' → Step ef G G' → Tmp G' v r g → New G g → Q v G'.H
def liftT (ef : Bool) (d : DT) : TT := fun σ H Q => ∃ G : Gh, G.H = H ∧ Good K ca σ G ∧ ∃ b S', d G.S = some (b, S') ∧
  ∀ G', G'.S = S' → Good K ca σ G' → Step ef G G' → Q b G'.H
/-- the arguments at hand -/
def ArgAt (G : Gh) (σ : L2.St) : Arg → V → List Addr → Prop
  | .tmp t, v, g => Tmp G v t g
  | .bor i, v, g => σ[i]? = some (some v) ∧ g = []
/-- .. one behind the other, no two with a common node -/
def ArgsAt (G : Gh) (σ : L2.St) : List Arg → List V → List Addr → Prop
  | [], vs, g => vs = [] ∧ g = []
  | a :: as, vs, g => ∃ v r ga gb, vs = v :: r ∧ g = ga ++ gb ∧ ArgAt G σ a v ga ∧ ArgsAt G σ as r gb ∧ ∀ x ∈ ga, x ∉ gb
def liftA (ef : Bool) (d : DA) : TA := fun σ H Q => ∃ G : Gh, G.H = H ∧ Good K ca σ G ∧ ∃ as S', d G.S = some (as, S') ∧
  ∀ G' vs g, G'.S = S' → Good K ca σ G' → Step ef G G' → ArgsAt G' σ as vs g → New G g → Q vs G'.H
def liftS (d : DS) : TS := fun D σ H => ∃ G : Gh, G.H = H ∧ Good K ca σ G ∧ ∃ f S', d G.S = some (f, S') ∧
  ∀ G' σ', G'.S = S' → Good K ca σ' G' → Step true G G' → match f with
    | .nx => D.nx σ' G'.H
    | .bk => D.bk σ' G'.H
    | .ct => D.ct σ' G'.H
    | .rt t => ∀ v g, Tmp G' v t g → New G g → D.rt v G'.H
end
abbrev EX (ca : Str → Addr) (X : Cx) (e : Expr) (ef : Bool) (d : DE) : Prop := PE X e (liftE X.K ca ef d)
abbrev TX (ca : Str → Addr) (X : Cx) (e : Expr) (ef : Bool) (d : DT) : Prop := PT X e (liftT X.K ca ef d)
abbrev AX (ca : Str → Addr) (X : Cx) (es : List Expr) (ef : Bool) (d : DA) : Prop := PA X es (liftA X.K ca ef d)
abbrev SX (ca : Str → Addr) (X : Cx) (s : Stmt) (d : DS) : Prop := PS X s (liftS X.K ca d)
abbrev BX (ca : Str → Addr) (X : Cx) (s : List Stmt) (d : DS) : Prop := PSs X s (liftS X.K ca d)
theorem PE.imp {X : Cx} {e : Expr} {t t' : TE} (h : PE X e t) (i : ∀ σ H Q, t' σ H Q → t σ H Q) : PE X e t' := ⟨fun pins s σ H Q I w => h.run pins s σ H Q I (i σ H Q w)⟩
theorem PT.imp {X : Cx} {e : Expr} {t t' : TT} (h : PT X e t) (i : ∀ σ H Q, t' σ H Q → t σ H Q) : PT X e t' := ⟨fun pins s σ H Q I w => h.run pins s σ H Q I (i σ H Q w)⟩
theorem PW.imp {X : Cx} {e : Expr} {t t' : TT} (h : PW X e t) (i : ∀ σ H Q, t' σ H Q → t σ H Q) : PW X e t' := ⟨fun wh pins s σ H Q I w => h.run wh pins s σ H Q I (i σ H Q w)⟩
theorem PA.imp {X : Cx} {e : List Expr} {t t' : TA} (h : PA X e t) (i : ∀ σ H Q, t' σ H Q → t σ H Q) : PA X e t' := ⟨fun po pins s σ H Q I w => h.run po pins s σ H Q I (i σ H Q w)⟩
theorem PS.imp {X : Cx} {e : Stmt} {t t' : TS} (h : PS X e t) (i : ∀ D σ H, t' D σ H → t D σ H) : PS X e t' := ⟨fun pins s σ H D I w => h.run pins s σ H D I (i D σ H w)⟩
theorem PSs.imp {X : Cx} {e : List Stmt} {t t' : TS} (h : PSs X e t) (i : ∀ D σ H, t' D σ H → t D σ H) : PSs X e t' := ⟨fun pins s σ H D I w => h.run pins s σ H D I (i D σ H w)⟩

section
variable {K : PySem.W.Frag} {ca : Str → Addr}
/-- the argument list stays at a step -/
theorem ArgsAt.step {ef : Bool} {G G' : Gh} {σ : L2.St} (s : Step ef G G') : ∀ {as : List Arg} {vs : List V} {g : List Addr}, ArgsAt G σ as vs g → ArgsAt G' σ as vs g
  | [], _, _, h => h
  | a :: as, _, _, ⟨v, r, ga, gb, e1, e2, h, hr, d⟩ => ⟨v, r, ga, gb, e1, e2, by
      cases a with
      | tmp t => exact Tmp.step h s
      | bor i => exact h, ArgsAt.step s hr, d⟩
end
end TL

set_option Elab.async false
set_option linter.all false
set_option maxRecDepth 100000
/-! TL3: names, constants, values by values, tests, small statements. -/
namespace TL
open PySem PySem.Spec L2

/-! ### slots -/
def setS (S : SS) (i : Nat) (o : Option T) : SS := (S.1.set i o, S.2)
theorem setAt {α : Type} {l : List α} {i j : Nat} {x y : α} (h : (l.set i x)[j]? = some y) : (i = j ∧ y = x ∧ i < l.length) ∨ (i ≠ j ∧ l[j]? = some y) := by
  rw [List.getElem?_set] at h
  by_cases e : i = j
  · subst e
    rw [if_pos rfl] at h
    by_cases l' : i < l.length
    · rw [if_pos l'] at h
      exact .inl ⟨rfl, (Option.some.inj h).symm, l'⟩
    · rw [if_neg l'] at h; cases h
  · rw [if_neg e] at h
    exact .inr ⟨e, h⟩
section
variable {K : PySem.W.Frag} {ca : Str → Addr} {σ : L2.St} {G : Gh}
/-- the ghost with other trees in one slot -/
def Gh.put (G : Gh) (i : Nat) (o : Option T) (g : List Addr) : Gh := { G with τ := G.τ.set i o, fp := fun k => if k = .s i then g else G.fp k }
theorem Gh.put_s {G : Gh} {i : Nat} {o : Option T} {g : List Addr} : (G.put i o g).fp (.s i) = g := if_pos rfl
theorem Gh.put_ne {G : Gh} {i : Nat} {o : Option T} {g : List Addr} {k : Own} (h : k ≠ .s i) : (G.put i o g).fp k = G.fp k := if_neg h
/-- a slot's tree forgotten -/
theorem Good.drop (g : Good K ca σ G) (i : Nat) : Good K ca σ (G.put i none []) ∧ Step true G (G.put i none []) := by
  have sub : ∀ k a, a ∈ (G.put i none []).fp k → a ∈ G.fp k := fun k a m => by
    by_cases e : k = .s i
    · subst e; rw [Gh.put_s] at m; simp at m
    · rw [Gh.put_ne e] at m; exact m
  refine ⟨{ k := g.k, c := g.c, len := (List.length_set ..).trans g.len, fp := g.fp, ph := g.ph, nd := fun k => ?_, dj := fun k k' a m m' => g.dj k k' a (sub k a m) (sub k' a m'), pn := fun k a m => g.pn k a (sub k a m), adn := g.adn, adp := g.adp, ado := fun a m k q => g.ado a m k (sub k a q), sl := fun j t e => ?_, sn := fun j e => ?_, ob := fun n b e => ?_, on := fun n e => ?_, ln := g.ln },
    { Step.refl (ef := true) G with gnew := fun k a m => .inl ⟨k, sub k a m⟩, q := fun e => by cases e }⟩
  · by_cases e : k = .s i
    · subst e; rw [Gh.put_s]; exact List.nodup_nil
    · rw [Gh.put_ne e]; exact g.nd k
  · rcases setAt (show (G.τ.set i none)[j]? = some (some t) from e) with ⟨_, q, _⟩ | ⟨ne, q⟩
    · cases q
    · obtain ⟨v, a, r⟩ := g.sl j t q
      refine ⟨v, a, ?_⟩
      rw [Gh.put_ne (by intro z; cases z; exact ne rfl)]
      exact r
  · by_cases ej : j = i
    · subst ej; exact Gh.put_s
    · rw [Gh.put_ne (by intro z; cases z; exact ej rfl)]
      refine g.sn j fun t q => e t ?_
      show (G.τ.set i none)[j]? = _
      rw [List.getElem?_set_ne (Ne.symm ej)]
      exact q
  · obtain ⟨p, a, r⟩ := g.ob n b e
    exact ⟨p, a, by rw [Gh.put_ne (by intro z; cases z)]; exact r⟩
  · rw [Gh.put_ne (by intro z; cases z)]; exact g.on n e
/-- a temporary stored into a slot -/
theorem Good.store (g : Good K ca σ G) {i : Nat} {v : V} {t : T} {gt : List Addr} (hi : i < σ.length) (m : Tmp G v t gt) :
    Good K ca (σ.set i (some v)) (G.put i (some t) gt) ∧ (∀ G0 ef, Step ef G0 G → New G0 gt → Step true G0 (G.put i (some t) gt)) := by
  have sub : ∀ k a, a ∈ (G.put i (some t) gt).fp k → (k = .s i ∧ a ∈ gt) ∨ (k ≠ .s i ∧ a ∈ G.fp k) := fun k a q => by
    by_cases e : k = .s i
    · subst e; rw [Gh.put_s] at q; exact .inl ⟨rfl, q⟩
    · rw [Gh.put_ne e] at q; exact .inr ⟨e, q⟩
  have li : i < G.τ.length := by rw [g.len]; exact hi
  refine ⟨{ k := g.k, c := g.c, len := by rw [List.length_set]; exact (List.length_set ..).trans g.len, fp := g.fp, ph := g.ph, nd := fun k => ?_, dj := fun k k' a q q' => ?_, pn := fun k a q => ?_, adn := g.adn, adp := g.adp, ado := fun a ma k q => ?_, sl := fun j u e => ?_, sn := fun j e => ?_, ob := fun n b e => ?_, on := fun n e => ?_, ln := g.ln },
    fun G0 ef s n => { s with gnew := fun k a q => ?_, q := fun e => by cases e }⟩
  · by_cases e : k = .s i
    · subst e; rw [Gh.put_s]; exact m.nd
    · rw [Gh.put_ne e]; exact g.nd k
  · rcases sub k a q with ⟨e1, a1⟩ | ⟨e1, a1⟩ <;> rcases sub k' a q' with ⟨e2, a2⟩ | ⟨e2, a2⟩
    · rw [e1, e2]
    · exact absurd a2 ((m.out a a1).1 k')
    · exact absurd a1 ((m.out a a2).1 k)
    · exact g.dj k k' a a1 a2
  · rcases sub k a q with ⟨_, a1⟩ | ⟨_, a1⟩
    · exact (m.out a a1).2.2
    · exact g.pn k a a1
  · rcases sub k a q with ⟨_, a1⟩ | ⟨_, a1⟩
    · exact (m.out a a1).2.1 ma
    · exact g.ado a ma k a1
  · rcases setAt (show (G.τ.set i (some t))[j]? = some (some u) from e) with ⟨ej, q, _⟩ | ⟨ne, q⟩
    · subst ej
      cases q
      refine ⟨v, ?_, by rw [Gh.put_s]; exact m.rep⟩
      rw [List.getElem?_set_self hi]
    · obtain ⟨v', a, r⟩ := g.sl j u q
      refine ⟨v', by rw [List.getElem?_set_ne ne]; exact a, ?_⟩
      rw [Gh.put_ne (by intro z; cases z; exact ne rfl)]
      exact r
  · by_cases ej : j = i
    · subst ej
      exact absurd (show (G.τ.set j (some t))[j]? = some (some t) by rw [List.getElem?_set_self li]) (e t)
    · rw [Gh.put_ne (by intro z; cases z; exact ej rfl)]
      refine g.sn j fun u q => e u ?_
      show (G.τ.set i (some t))[j]? = _
      rw [List.getElem?_set_ne (Ne.symm ej)]
      exact q
  · obtain ⟨p, a, r⟩ := g.ob n b e
    exact ⟨p, a, by rw [Gh.put_ne (by intro z; cases z)]; exact r⟩
  · rw [Gh.put_ne (by intro z; cases z)]; exact g.on n e
  · rcases sub k a q with ⟨_, a1⟩ | ⟨_, a1⟩
    · rcases n a a1 with z | z
      · exact .inr z
      · exact .inl z
    · exact s.gnew k a a1
/-- a slot's tree taken out: a temporary -/
theorem Good.take (g : Good K ca σ G) {i : Nat} {t : T} (h : G.τ[i]? = some (some t)) : ∃ v, σ[i]? = some (some v) ∧ Tmp (G.put i none []) v t (G.fp (.s i)) ∧ New G (G.fp (.s i)) := by
  obtain ⟨v, a, r⟩ := g.sl i t h
  refine ⟨v, a, ⟨r, g.nd _, fun x m => ⟨fun k q => ?_, fun q => g.ado x q _ m, g.pn _ x m⟩⟩, fun x m => .inr ⟨_, m⟩⟩
  by_cases e : k = .s i
  · subst e; rw [Gh.put_s] at q; simp at q
  · rw [Gh.put_ne e] at q
    exact e (g.dj k _ x q m)
/-- a slot's tree without nodes of its own, copied -/
theorem Good.copy (g : Good K ca σ G) {i : Nat} {t : T} (h : G.τ[i]? = some (some t)) (n : t.noOw = true) : ∃ v, σ[i]? = some (some v) ∧ Tmp G v t [] := by
  obtain ⟨v, a, r⟩ := g.sl i t h
  have e := Rep.noOw _ _ _ n r
  rw [e] at r
  exact ⟨v, a, .bare r⟩
/-- nodes of one owner held for good from now on -/
def Gh.ice (G : Gh) (i : Nat) (t : T) : Gh := { G with F := plus G.F G.H (G.fp (.s i)), P := plus G.P G.H (G.fp (.s i)), τ := G.τ.set i (some t.frz), fp := fun k => if k = .s i then [] else G.fp k }
theorem Good.ice (g : Good K ca σ G) {i : Nat} {t : T} (h : G.τ[i]? = some (some t)) : ∃ v, σ[i]? = some (some v) ∧ Good K ca σ (G.ice i t) ∧ Step true G (G.ice i t) ∧ Tmp (G.ice i t) v t.frz [] := by
  obtain ⟨v, a, r⟩ := g.sl i t h
  have li : i < G.τ.length := (List.getElem?_eq_some_iff.mp h).1
  have fpne : ∀ {k}, k ≠ .s i → (G.ice i t).fp k = G.fp k := fun e => if_neg e
  have fps : (G.ice i t).fp (.s i) = [] := if_pos rfl
  have sub : ∀ k x, x ∈ (G.ice i t).fp k → k ≠ .s i ∧ x ∈ G.fp k := fun k x m => by
    by_cases e : k = .s i
    · subst e; rw [fps] at m; simp at m
    · rw [fpne e] at m; exact ⟨e, m⟩
  have pn : ∀ x ∈ G.fp (.s i), G.P x = none := fun x m => g.pn _ x m
  have fn : ∀ x ∈ G.fp (.s i), G.F x = none := fun x m => by
    cases q : G.F x with
    | none => rfl
    | some o => exact absurd (pn x m) (by rw [g.fp x o q]; simp)
  have ex : ∀ gg : List Addr, Ex G.toHc (G.ice i t).toHc gg := fun gg => ⟨rfl, rfl, plus_sameN fn, plus_sameN pn, fun _ _ _ e => e, ⟨[], by show G.ad = _; simp⟩⟩
  have rf : Rep (G.ice i t).toHc t.frz v [] := Rep.frz (c := G.toHc) (c' := (G.ice i t).toHc) t v (G.fp (.s i)) ⟨rfl, plus_sameN fn, plus_sameN pn, fun x m o e => by show plus G.F G.H _ x = _; rw [plus_in m]; exact e, fun _ _ e => e⟩ r
  refine ⟨v, a, { k := g.k, c := g.c, len := (List.length_set ..).trans g.len, fp := fun x o e => ?_, ph := plus_leL g.ph, nd := fun k => ?_, dj := fun k k' x m m' => g.dj k k' x (sub k x m).2 (sub k' x m').2, pn := fun k x m => ?_, adn := g.adn, adp := fun x m => ?_, ado := fun x m k q => g.ado x m k (sub k x q).2, sl := fun j u e => ?_, sn := fun j e => ?_, ob := fun n b e => ?_, on := fun n e => ?_, ln := g.ln },
    { k := rfl, c := rfl, f := plus_sameN fn, p := plus_sameN pn, fnew := fun x o e => ?_, pnew := fun x o e => ?_, fr := fun _ _ e _ _ => e, dom := fun _ e => e, ad := ⟨[], by show G.ad = _; simp⟩, anew := fun _ m => .inl m, gnew := fun k x m => .inl ⟨k, (sub k x m).2⟩, q := fun e => by cases e }, .bare rf⟩
  · show plus G.P G.H _ x = _
    by_cases m : x ∈ G.fp (.s i)
    · rw [plus_in m]
      have e2 : plus G.F G.H (G.fp (.s i)) x = some o := e
      rw [plus_in m] at e2; exact e2
    · rw [plus_out m]
      have e2 : plus G.F G.H (G.fp (.s i)) x = some o := e
      rw [plus_out m] at e2; exact g.fp x o e2
  · by_cases e : k = .s i
    · subst e; rw [fps]; exact List.nodup_nil
    · rw [fpne e]; exact g.nd k
  · obtain ⟨ne, m2⟩ := sub k x m
    show plus G.P G.H _ x = none
    rw [plus_out fun z => ne (g.dj k _ x m2 z)]
    exact g.pn k x m2
  · show plus G.P G.H _ x = none
    rw [plus_out fun z => g.ado x m _ z]
    exact g.adp x m
  · rcases setAt (show (G.τ.set i (some t.frz))[j]? = some (some u) from e) with ⟨ej, q, _⟩ | ⟨ne, q⟩
    · subst ej
      cases q
      exact ⟨v, a, by rw [fps]; exact rf⟩
    · obtain ⟨v', a', r'⟩ := g.sl j u q
      refine ⟨v', a', ?_⟩
      rw [fpne (by intro z; cases z; exact ne rfl)]
      exact Rep.ex _ _ _ (ex _) r'
  · by_cases ej : j = i
    · subst ej; exact fps
    · rw [fpne (by intro z; cases z; exact ej rfl)]
      refine g.sn j fun u q => e u ?_
      show (G.τ.set i (some t.frz))[j]? = _
      rw [List.getElem?_set_ne (Ne.symm ej)]
      exact q
  · obtain ⟨p, a', r'⟩ := g.ob n b e
    exact ⟨p, a', by rw [fpne (by intro z; cases z)]; exact r'.ex (ex _)⟩
  · rw [fpne (by intro z; cases z)]; exact g.on n e
  · have e2 : plus G.F G.H (G.fp (.s i)) x = some o := e
    by_cases m : x ∈ G.fp (.s i)
    · exact .inr (.inr ⟨_, m⟩)
    · rw [plus_out m] at e2; exact .inl e2
  · have e2 : plus G.P G.H (G.fp (.s i)) x = some o := e
    by_cases m : x ∈ G.fp (.s i)
    · exact .inr (.inr ⟨_, m⟩)
    · rw [plus_out m] at e2; exact .inl e2
end

/-! ### mirrors -/
def slot (S : SS) (i : Nat) : Option T := (S.1[i]?).join
theorem slot_some {S : SS} {i : Nat} {t : T} (h : slot S i = some t) : S.1[i]? = some (some t) := by
  unfold slot at h
  cases e : S.1[i]? with
  | none => rw [e] at h; cases h
  | some o => rw [e] at h; exact congrArg some h
def dC (t : T) : DE := fun S => some (t, S)
def dGet (i : Nat) : DE := fun S => (slot S i).bind fun t => if t.noOw then some (t, S) else none
def dMov (i : Nat) : DE := fun S => (slot S i).bind fun t => some (t, setS S i none)
def dFrz (i : Nat) : DE := fun S => (slot S i).bind fun t => some (t.frz, setS S i (some t.frz))
abbrev DO := SS → Option (Arg × SS)
def oTmp (d : DE) : DO := fun S => (d S).bind fun p => some (.tmp p.1, p.2)
def oBor (i : Nat) : DO := fun S => some (.bor i, S)
/-- a list that a handle stands for, looked at as a list -/
def view (S : SS) : T → T
  | .hnd n => match S.2[n]? with
    | some (.lst xs) => .lst .ow xs
    | some (.dic xs) => .dic .ow xs
    | _ => .hnd n
  | t => t
def Arg.raw (S : SS) : Arg → Option T
  | .tmp t => some t
  | .bor i => slot S i
def Arg.res (S : SS) (a : Arg) : Option T := (a.raw S).bind fun t => some (view S t)
def d1 (f : T → Option T) (a : DO) : DE := fun S => (a S).bind fun p => (p.1.res p.2).bind fun x => (f x).bind fun z => some (z, p.2)
def d2 (f : T → T → Option T) (a b : DO) : DE := fun S => (a S).bind fun p => (b p.2).bind fun q => (p.1.res q.2).bind fun x => (q.1.res q.2).bind fun y => (f x y).bind fun z => some (z, q.2)
def tOf (d : DE) : DT := fun S => (d S).bind fun p => match p.1 with
  | .bl b => some (b, p.2)
  | _ => none
section
variable (K : PySem.W.Frag) (ca : Str → Addr)
def liftO (ef : Bool) (d : DO) : TE := fun σ H Q => ∃ G : Gh, G.H = H ∧ Good K ca σ G ∧ ∃ a S', d G.S = some (a, S') ∧
  ∀ G' v g, G'.S = S' → Good K ca σ G' → Step ef G G' → ArgAt G' σ a v g → New G g → Q v G'.H
end
abbrev OX (ca : Str → Addr) (X : Cx) (e : Expr) (ef : Bool) (d : DO) : Prop := PE X e (liftO X.K ca ef d)
section
variable {X : Cx} {ca : Str → Addr} {e a b : Expr} {ef ea eb : Bool} {pos : Pos}
theorem ex_of {d : DE} {v : V} {t : T} (h : PE X e (tC v)) (hd : d = dC t) (r : ∀ c : Hc, Rep c t v []) : EX ca X e false d := PE.imp h fun σ H Q w => by
  obtain ⟨G, rfl, g, r', S', e1, k⟩ := w
  rw [hd] at e1
  cases e1
  exact k G v [] rfl g (Step.refl _) (.bare (r _)) New.nil
theorem ex_int {i : Int} {j : Nat} : EX ca X (.Constant (.int i) j pos) false (dC (.int i)) := ex_of pe_int rfl fun _ => ⟨rfl, rfl⟩
theorem ex_bl {i : Bool} {j : Nat} : EX ca X (.Constant (.bool i) j pos) false (dC (.bl i)) := ex_of pe_bl rfl fun _ => ⟨rfl, rfl⟩
theorem ex_non {j : Nat} : EX ca X (.Constant .none j pos) false (dC .non) := ex_of pe_non rfl fun _ => ⟨rfl, rfl⟩
theorem ex_str {x : Str} {j : Nat} : EX ca X (.Constant (.str x) j pos) false (dC (.str x)) := ex_of pe_str rfl fun _ => ⟨rfl, rfl⟩
theorem ex_get {i : Nat} (h : PE X e (tVar i)) : EX ca X e false (dGet i) := PE.imp h fun σ H Q w => by
  obtain ⟨G, rfl, g, r, S', e1, k⟩ := w
  obtain ⟨t, h1, h2⟩ := Option.bind_eq_some_iff.mp e1
  split at h2
  · rename_i n
    cases h2
    obtain ⟨v, e2, m⟩ := g.copy (slot_some h1) n
    exact ⟨v, e2, k G v [] rfl g (Step.refl _) m New.nil⟩
  · cases h2
theorem ex_mov {i : Nat} (h : PE X e (tVar i)) : EX ca X e true (dMov i) := PE.imp h fun σ H Q w => by
  obtain ⟨G, rfl, g, r, S', e1, k⟩ := w
  obtain ⟨t, h1, h2⟩ := Option.bind_eq_some_iff.mp e1
  cases h2
  obtain ⟨v, e2, m, n⟩ := g.take (slot_some h1)
  obtain ⟨g2, s2⟩ := g.drop i
  exact ⟨v, e2, k (G.put i none []) v _ rfl g2 s2 m n⟩
theorem ex_frz {i : Nat} (h : PE X e (tVar i)) : EX ca X e true (dFrz i) := PE.imp h fun σ H Q w => by
  obtain ⟨G, rfl, g, r, S', e1, k⟩ := w
  obtain ⟨t, h1, h2⟩ := Option.bind_eq_some_iff.mp e1
  cases h2
  obtain ⟨v, e2, g2, s2, m⟩ := g.ice (slot_some h1)
  exact ⟨v, e2, k (G.ice i t) v [] rfl g2 s2 m New.nil⟩
theorem ox_tmp {d : DE} (h : EX ca X e ef d) : OX ca X e ef (oTmp d) := PE.imp h fun σ H Q w => by
  obtain ⟨G, rfl, g, r, S', e1, k⟩ := w
  obtain ⟨p, h1, h2⟩ := Option.bind_eq_some_iff.mp e1
  cases h2
  exact ⟨G, rfl, g, p.1, p.2, h1, fun G' v gg a1 a2 a3 a4 a5 => k G' v gg a1 a2 a3 a4 a5⟩
/-- a slot looked at; a slot that bears nothing is none to be looked at -/
theorem ox_bor {i : Nat} (h : PE X e (tVar i)) : OX ca X e false (fun S => (slot S i).bind fun _ => oBor i S) := PE.imp h fun σ H Q w => by
  obtain ⟨G, rfl, g, r, S', e1, k⟩ := w
  obtain ⟨t, h1, h2⟩ := Option.bind_eq_some_iff.mp e1
  cases h2
  obtain ⟨v, e2, _⟩ := g.sl i t (slot_some h1)
  exact ⟨v, e2, k G v [] rfl g (Step.refl _) ⟨e2, rfl⟩ New.nil⟩
/-- what a value is, looked at -/
theorem Rep.view {K : PySem.W.Frag} {σ : L2.St} {G : Gh} {v : V} {g : List Addr} {t : T} (gd : Good K ca σ G) (r : Rep G.toHc t v g) : ∃ gt, Rep G.toHc (view G.S t) v gt := by
  cases t with
  | hnd n =>
    cases hx : G.O[n]? with
    | none =>
      have e : TL.view G.S (.hnd n) = .hnd n := by show (match G.O[n]? with | some (.lst xs) => T.lst .ow xs | some (.dic xs) => T.dic .ow xs | _ => .hnd n) = _; rw [hx]
      rw [e]
      exact ⟨g, r⟩
    | some b =>
      cases b with
      | ins c fs =>
        have e : TL.view G.S (.hnd n) = .hnd n := by show (match G.O[n]? with | some (.lst xs) => T.lst .ow xs | some (.dic xs) => T.dic .ow xs | _ => .hnd n) = _; rw [hx]
        rw [e]
        exact ⟨g, r⟩
      | lst xs =>
        have e : TL.view G.S (.hnd n) = .lst .ow xs := by show (match G.O[n]? with | some (.lst xs) => T.lst .ow xs | some (.dic xs) => T.dic .ow xs | _ => .hnd n) = _; rw [hx]
        rw [e]
        obtain ⟨p, rfl, hp, _⟩ := r
        obtain ⟨q, hq, vs, hv, rr, _⟩ := gd.ob n (.lst xs) hx
        have hp : G.ad[n]? = some p := hp
        rw [hp] at hq
        cases hq
        exact ⟨p :: G.fp (.o n), p, vs, _, rfl, hv, rr, rfl⟩
      | dic xs =>
        have e : TL.view G.S (.hnd n) = .dic .ow xs := by show (match G.O[n]? with | some (.lst xs) => T.lst .ow xs | some (.dic xs) => T.dic .ow xs | _ => .hnd n) = _; rw [hx]
        rw [e]
        obtain ⟨p, rfl, hp, _⟩ := r
        obtain ⟨q, hq, vs, hv, rr, _⟩ := gd.ob n (.dic xs) hx
        have hp : G.ad[n]? = some p := hp
        rw [hp] at hq
        cases hq
        exact ⟨p :: G.fp (.o n), p, vs, _, rfl, hv, rr, rfl⟩
  | _ => exact ⟨g, r⟩
theorem ArgAt.rep {K : PySem.W.Frag} {σ : L2.St} {G : Gh} {arg : Arg} {v : V} {g : List Addr} {t : T} (gd : Good K ca σ G) (h : ArgAt G σ arg v g) (r : arg.res G.S = some t) : ∃ gt, Rep G.toHc t v gt := by
  obtain ⟨u, e1, e2⟩ := Option.bind_eq_some_iff.mp r
  cases e2
  cases arg with
  | tmp u =>
    cases e1
    exact Rep.view gd (Tmp.rep h)
  | bor i =>
    obtain ⟨v', e, r'⟩ := gd.sl i u (slot_some e1)
    rw [h.1] at e
    cases e
    exact Rep.view gd r'
/-- what a two-place operation asks, by trees -/
def Op2 (X : Cx) (ca : Str → Addr) (r : R2) (f : T → T → Option T) : Prop := ∀ (σ : L2.St) (G : Gh) (x y z : T) (v w : V) (gx gy : List Addr) (Q : VK), Good X.K ca σ G → Rep G.toHc x v gx → Rep G.toHc y w gy → f x y = some z →
  (∀ G' u g, G'.S = G.S → Good X.K ca σ G' → Step false G G' → Tmp G' u z g → New G g → Q u G'.H) → r v w G.H Q
def Op1 (X : Cx) (ca : Str → Addr) (r : V → Hp → VK → Prop) (f : T → Option T) : Prop := ∀ (σ : L2.St) (G : Gh) (x z : T) (v : V) (gx : List Addr) (Q : VK), Good X.K ca σ G → Rep G.toHc x v gx → f x = some z →
  (∀ G' u g, G'.S = G.S → Good X.K ca σ G' → Step false G G' → Tmp G' u z g → New G g → Q u G'.H) → r v G.H Q
theorem bin_of {r : R2} {f : T → T → Option T} {da db : DO} (o : Op2 X ca r f) {σ : L2.St} {H : Hp} {Q : VK} (w : liftE X.K ca (ea || eb) (d2 f da db) σ H Q) :
    liftO X.K ca ea da σ H fun x H1 => liftO X.K ca eb db σ H1 fun y H2 => r x y H2 Q := by
  obtain ⟨G, rfl, g, z, S', e1, k⟩ := w
  obtain ⟨p, h1, e1⟩ := Option.bind_eq_some_iff.mp e1
  obtain ⟨q, h2, e1⟩ := Option.bind_eq_some_iff.mp e1
  obtain ⟨x, h3, e1⟩ := Option.bind_eq_some_iff.mp e1
  obtain ⟨y, h4, e1⟩ := Option.bind_eq_some_iff.mp e1
  obtain ⟨z', h5, e1⟩ := Option.bind_eq_some_iff.mp e1
  cases e1
  refine ⟨G, rfl, g, p.1, p.2, h1, fun G1 v gv a1 a2 a3 a4 a5 => ⟨G1, rfl, a2, q.1, q.2, by rw [a1]; exact h2, fun G2 w gw b1 b2 b3 b4 b5 => ?_⟩⟩
  have a4' : ArgAt G2 σ p.1 v gv := by
    cases hp : p.1 with
    | tmp t => rw [hp] at a4; exact Tmp.step a4 b3
    | bor i => rw [hp] at a4; exact a4
  obtain ⟨g1, r1⟩ := a4'.rep b2 (by rw [b1]; exact h3)
  obtain ⟨g2, r2⟩ := b4.rep b2 (by rw [b1]; exact h4)
  exact o σ G2 x y z v w g1 g2 Q b2 r1 r2 h5 fun G' u gu c1 c2 c3 c4 c5 => k G' u gu (c1.trans b1) c2 (((a3.trans b3).trans c3).weak fun e => by rw [e]; rfl) c4 (New.step (a3.trans b3) c5)
theorem un_of {r : V → Hp → VK → Prop} {f : T → Option T} {da : DO} (o : Op1 X ca r f) {σ : L2.St} {H : Hp} {Q : VK} (w : liftE X.K ca ea (d1 f da) σ H Q) :
    liftO X.K ca ea da σ H fun x H1 => r x H1 Q := by
  obtain ⟨G, rfl, g, z, S', e1, k⟩ := w
  obtain ⟨p, h1, e1⟩ := Option.bind_eq_some_iff.mp e1
  obtain ⟨x, h3, e1⟩ := Option.bind_eq_some_iff.mp e1
  obtain ⟨z', h5, e1⟩ := Option.bind_eq_some_iff.mp e1
  cases e1
  refine ⟨G, rfl, g, p.1, p.2, h1, fun G1 v gv a1 a2 a3 a4 a5 => ?_⟩
  obtain ⟨g1, r1⟩ := a4.rep a2 (by rw [a1]; exact h3)
  exact o σ G1 x z v g1 Q a2 r1 h5 fun G' u gu c1 c2 c3 c4 c5 => k G' u gu (c1.trans a1) c2 ((a3.trans c3).weak fun e => by rw [e]; rfl) c4 (New.step a3 c5)
theorem ex_op {op : Operator} {r : R2} {f : T → T → Option T} {da db : DO} (ho : OpR X (binaryOp op) r) (o : Op2 X ca r f) (ha : OX ca X a ea da) (hb : OX ca X b eb db) : EX ca X (.BinOp a op b pos) (ea || eb) (d2 f da db) :=
  PE.imp (pe_op ho ha hb) fun σ H Q w => bin_of o w
theorem ex_un {op : UnaryOp} {r : V → Hp → VK → Prop} {f : T → Option T} {da : DO} (ho : UnR X (unaryOp op) r) (o : Op1 X ca r f) (ha : OX ca X a ea da) : EX ca X (.UnaryOp op a pos) ea (d1 f da) :=
  PE.imp (pe_un ho ha) fun σ H Q w => un_of o w
theorem ex_cmp {op : CmpOp} {r : R2} {f : T → T → Option T} {da db : DO} (ho : OpR X (compareOp op) r) (o : Op2 X ca r f) (ha : OX ca X a ea da) (hb : OX ca X b eb db) (hm : behindInMarks op b = false) : EX ca X (.Compare a [op] [b] pos) (ea || eb) (d2 f da db) :=
  PE.imp (pe_cmpR ho ha hb hm) fun σ H Q w => bin_of o w
/-- an expression whose value is a bool, as a test: through the reading that a test has -/
theorem liftT_of {d : DE} {σ : L2.St} {H : Hp} {Q : Bool → Hp → Prop} (w : liftT X.K ca ef (tOf d) σ H Q) : liftE X.K ca ef d σ H fun x H' => ∃ k, x = .bl k ∧ Q k H' := by
  obtain ⟨G, rfl, g, b, S', e1, k⟩ := w
  obtain ⟨p, h1, e1⟩ := Option.bind_eq_some_iff.mp e1
  refine ⟨G, rfl, g, p.1, p.2, h1, fun G1 v gv a1 a2 a3 a4 a5 => ?_⟩
  split at e1
  · rename_i b' hb
    cases e1
    have r := a4.rep
    rw [hb] at r
    exact ⟨b, r.1, k G1 a1 a2 a3⟩
  · cases e1
theorem tx_cmp {op : CmpOp} {r : R2} {f : T → T → Option T} {da db : DO} (ho : OpR X (compareOp op) r) (o : Op2 X ca r f) (ha : OX ca X a ea da) (hb : OX ca X b eb db) (hm : behindInMarks op b = false) : TX ca X (.Compare a [op] [b] pos) (ea || eb) (tOf (d2 f da db)) :=
  PT.imp (pt_cmpR ho ha hb hm) fun σ H Q w => bin_of o (liftT_of w)
theorem tx_val {d : DE} (h : EX ca X e ef d) (he : ∀ whole, isTrue e X.env whole = (do let v ← whole; standAt e.pos; holding [v] (truthy v)) := by intro _; rfl) : TX ca X e ef (tOf d) :=
  PT.imp (pt_val h he) fun σ H Q w => liftT_of w
end
end TL

set_option Elab.async false
set_option linter.all false
set_option maxRecDepth 100000
/-! TL4: new objects; operators by trees. -/
namespace TL
open PySem PySem.Spec L2

section
variable {K : PySem.W.Frag} {ca : Str → Addr} {σ : L2.St} {G : Gh} {p : Addr} {o : HO}
theorem same_upd {H : Hp} {p : Addr} {o : HO} (h : H p = none) : Same H (upd H p o) := fun a u e => by rw [upd_ne (ne_of_none e h)]; exact e
def Gh.newH (G : Gh) (p : Addr) (o : HO) : Gh := { G with H := upd G.H p o }
def Gh.newF (G : Gh) (p : Addr) (o : HO) : Gh := { G with F := upd G.F p o, P := upd G.P p o, H := upd G.H p o }
theorem Good.newH (g : Good K ca σ G) (hp : G.H p = none) : Good K ca σ (G.newH p o) ∧ Step false G (G.newH p o) := by
  have sm : Same G.H (upd G.H p o) := same_upd hp
  have ex : ∀ gg : List Addr, Ex G.toHc (G.newH p o).toHc gg := fun gg => ⟨rfl, rfl, Same.refl _, Same.refl _, fun a _ u e => sm a u e, ⟨[], by show G.ad = _; simp⟩⟩
  refine ⟨{ g with ph := g.ph.upd (g.ph.none hp), sl := fun i t e => ?_, ob := fun n b e => ?_ },
    { Step.refl (ef := false) G with fr := fun a u e _ _ => sm a u e, dom := fun a h e => ?_, q := fun _ => ⟨rfl, rfl, sm, rfl, rfl⟩ }⟩
  · obtain ⟨v, a, r⟩ := g.sl i t e
    exact ⟨v, a, Rep.ex _ _ _ (ex _) r⟩
  · obtain ⟨q, a, r⟩ := g.ob n b e
    exact ⟨q, a, r.ex (ex _)⟩
  · cases q : G.H a with
    | none => exact h q
    | some u => rw [show (G.newH p o).H a = some u from sm a u q] at e; cases e
theorem Good.newF (g : Good K ca σ G) (hp : G.H p = none) : Good K ca σ (G.newF p o) ∧ Step false G (G.newF p o) := by
  have hP : G.P p = none := g.ph.none hp
  have hF : G.F p = none := g.fp.free hP
  have sm : Same G.H (upd G.H p o) := same_upd hp
  have sF : Same G.F (upd G.F p o) := same_upd hF
  have sP : Same G.P (upd G.P p o) := same_upd hP
  have ex : ∀ gg : List Addr, Ex G.toHc (G.newF p o).toHc gg := fun gg => ⟨rfl, rfl, sF, sP, fun a _ u e => sm a u e, ⟨[], by show G.ad = _; simp⟩⟩
  have both : ∀ {A B : Hp}, Same A B → Same (upd A p o) (upd B p o) := fun {A B} s a u e => by
    by_cases q : a = p
    · subst q; rw [upd_same] at e ⊢; exact e
    · rw [upd_ne q] at e ⊢; exact s a u e
  have bothL : ∀ {A B : Hp}, SameL A B → SameL (upd A p o) (upd B p o) := fun {A B} s a u e => by
    by_cases q : a = p
    · subst q; rw [upd_same] at e ⊢; exact .inl e
    · rw [upd_ne q] at e ⊢; exact s a u e
  have nw : ∀ {A : Hp} {a : Addr} {u : HO}, upd A p o a = some u → A a = some u ∨ G.H a = none := fun {A a u} e => by
    by_cases q : a = p
    · subst q; exact .inr hp
    · rw [upd_ne q] at e; exact .inl e
  refine ⟨{ g with fp := both g.fp, ph := bothL g.ph, pn := fun k a m => ?_, adp := fun a m => ?_, sl := fun i t e => ?_, ob := fun n b e => ?_ },
    { Step.refl (ef := false) G with f := sF, p := sP, fnew := fun a u e => (nw e).imp id .inl, pnew := fun a u e => (nw e).imp id .inl, fr := fun a u e _ _ => sm a u e, dom := fun a h e => ?_, q := fun _ => ⟨rfl, rfl, sm, rfl, rfl⟩ }⟩
  · have e : a ≠ p := fun z => g.fpH m (by rw [z]; exact hp)
    show upd G.P p o a = none
    rw [upd_ne e]; exact g.pn k a m
  · have e : a ≠ p := fun z => g.adH m (by rw [z]; exact hp)
    show upd G.P p o a = none
    rw [upd_ne e]; exact g.adp a m
  · obtain ⟨v, a, r⟩ := g.sl i t e
    exact ⟨v, a, Rep.ex _ _ _ (ex _) r⟩
  · obtain ⟨q, a, r⟩ := g.ob n b e
    exact ⟨q, a, r.ex (ex _)⟩
  · cases q : G.H a with
    | none => exact h q
    | some u => rw [show (G.newF p o).H a = some u from sm a u q] at e; cases e
/-- a new list, a new dict, over values that are apart already -/
theorem Good.newL (g : Good K ca σ G) (hp : G.H p = none) {ts : List T} {vs : List V} {gs : List Addr} (r : Reps G.toHc ts vs gs) (nd : gs.Nodup) (out : ∀ a ∈ gs, (∀ k, a ∉ G.fp k) ∧ a ∉ G.ad ∧ G.P a = none) :
    Tmp (G.newH p (.lst vs)) (.ref p) (.lst .ow ts) (p :: gs) := by
  have sm : Same G.H (upd G.H p (.lst vs)) := same_upd hp
  refine ⟨⟨p, vs, gs, rfl, upd_same, Reps.ex (c := G.toHc) _ _ _ ⟨rfl, rfl, Same.refl _, Same.refl _, fun a _ u e => sm a u e, ⟨[], by show G.ad = _; simp⟩⟩ r, rfl⟩, ?_, fun a m => ?_⟩
  · refine List.nodup_cons.mpr ⟨fun m => Reps.inH _ _ _ r p m hp, nd⟩
  · rcases List.mem_cons.mp m with e | m
    · subst e
      exact ⟨fun k m => g.fpH m hp, fun m => g.adH m hp, g.ph.none hp⟩
    · exact out a m
theorem Good.newT (g : Good K ca σ G) (hp : G.H p = none) {ts : List T} {vs : List V} {gs : List Addr} (r : Reps G.toHc ts vs gs) (nd : gs.Nodup) (out : ∀ a ∈ gs, (∀ k, a ∉ G.fp k) ∧ a ∉ G.ad ∧ G.P a = none) :
    Tmp (G.newF p (.tup vs)) (.ref p) (.tup ts) gs := by
  have hP : G.P p = none := g.ph.none hp
  have hF : G.F p = none := g.fp.free hP
  have sm : Same G.H (upd G.H p (.tup vs)) := same_upd hp
  refine ⟨⟨p, vs, rfl, SqT.of upd_same, Reps.ex (c := G.toHc) _ _ _ ⟨rfl, rfl, same_upd hF, same_upd hP, fun a _ u e => sm a u e, ⟨[], by show G.ad = _; simp⟩⟩ r⟩, nd, fun a m => ?_⟩
  obtain ⟨a1, a2, a3⟩ := out a m
  refine ⟨a1, a2, ?_⟩
  show upd G.P p _ a = none
  rw [upd_ne fun z => Reps.inH _ _ _ r a m (by rw [z]; exact hp)]
  exact a3
theorem New.cons {G : Gh} {p : Addr} {gs : List Addr} (hp : G.H p = none) (n : New G gs) : New G (p :: gs) := fun a m => by
  rcases List.mem_cons.mp m with e | m
  · subst e; exact .inl hp
  · exact n a m
end

/-! ### looking at trees -/
section
variable {c : Hc}
theorem Reps.len : ∀ {ts : List T} {vs : List V} {g : List Addr}, Reps c ts vs g → vs.length = ts.length
  | [], _, _, ⟨a, _⟩ => by rw [a]; rfl
  | t :: ts, _, _, ⟨v, r, ga, gb, a, _, _, q⟩ => by rw [a, List.length_cons, List.length_cons, Reps.len q]
theorem Reps.get : ∀ {ts : List T} {vs : List V} {g : List Addr} {i : Nat} {t : T}, Reps c ts vs g → ts[i]? = some t → ∃ v gt, vs[i]? = some v ∧ Rep c t v gt ∧ ∀ a ∈ gt, a ∈ g
  | [], _, _, _, _, _, e => by simp at e
  | u :: ts, _, _, 0, t, ⟨v, r, ga, gb, a, b, d, _⟩, e => by
    simp at e; subst e
    exact ⟨v, ga, by rw [a]; rfl, d, fun x m => by rw [b]; exact List.mem_append_left _ m⟩
  | u :: ts, _, _, i + 1, t, ⟨v, r, ga, gb, a, b, _, q⟩, e => by
    obtain ⟨v', gt, e1, e2, e3⟩ := Reps.get (i := i) (t := t) q (by simpa using e)
    exact ⟨v', gt, by rw [a]; simpa using e1, e2, fun x m => by rw [b]; exact List.mem_append_right _ (e3 x m)⟩
/-- a list, however it is held -/
theorem Rep.lstL {m : Mk} {ts : List T} {v : V} {g : List Addr} (fp : Same c.F c.P) (ph : SameL c.P c.H) (r : Rep c (.lst m ts) v g) : ∃ p vs gs, v = .ref p ∧ SqL c.K c.H p vs ∧ Reps c ts vs gs ∧ (m ≠ .sc → c.H p = some (.lst vs)) ∧ ∀ a ∈ gs, a ∈ g := by
  cases m with
  | sc => obtain ⟨p, vs, a, b, d, q⟩ := r; exact ⟨p, vs, [], a, sqL_sameL (SameL.of fp ph) b, d, fun h => absurd rfl h, fun _ m => absurd m (by simp)⟩
  | fz => obtain ⟨p, vs, a, b, d, q⟩ := r; exact ⟨p, vs, [], a, SqL.of (ph.lst (fp _ _ b)), d, fun _ => ph.lst (fp _ _ b), fun _ m => absurd m (by simp)⟩
  | br => obtain ⟨p, vs, a, b, d, q⟩ := r; exact ⟨p, vs, [], a, SqL.of (ph.lst b), d, fun _ => ph.lst b, fun _ m => absurd m (by simp)⟩
  | ow => obtain ⟨p, vs, gs, a, b, d, q⟩ := r; exact ⟨p, vs, gs, a, SqL.of b, d, fun _ => b, fun _ m => by rw [q]; exact List.mem_cons_of_mem _ m⟩
theorem Rep.tupT {ts : List T} {v : V} {g : List Addr} (fp : Same c.F c.P) (ph : SameL c.P c.H) (r : Rep c (.tup ts) v g) : ∃ p vs, v = .ref p ∧ SqT c.K c.H p vs ∧ Reps c ts vs g := by
  obtain ⟨p, vs, a, b, d⟩ := r
  exact ⟨p, vs, a, sqT_sameL (SameL.of fp ph) b, d⟩
theorem Reps.append : ∀ {ts us : List T} {vs ws : List V} {g g' : List Addr}, Reps c ts vs g → Reps c us ws g' → Reps c (ts ++ us) (vs ++ ws) (g ++ g')
  | [], _, _, _, _, _, ⟨a, b⟩, h => by rw [a, b]; exact h
  | t :: ts, us, _, ws, _, g', ⟨v, r, ga, gb, a, b, d, q⟩, h => ⟨v, r ++ ws, ga, gb ++ g', by rw [a, List.cons_append], by rw [b, List.append_assoc], d, Reps.append q h⟩
theorem Reps.bare {ts : List T} {vs : List V} {g : List Addr} (r : Reps c ts vs g) (n : noOws ts = true) : Reps c ts vs [] := by
  have e := Reps.noOw _ _ _ n r
  rw [e] at r
  exact r
theorem noOws_app : ∀ {a b : List T}, noOws a = true → noOws b = true → noOws (a ++ b) = true
  | [], _, _, h => h
  | t :: a, b, h, h' => by
    have h2 := Bool.and_eq_true_iff.mp (show (t.noOw && noOws a) = true from h)
    exact Bool.and_eq_true_iff.mpr ⟨h2.1, noOws_app h2.2 h'⟩
theorem noOws_mem : ∀ {a : List T} {t : T}, noOws a = true → t ∈ a → t.noOw = true
  | [], _, _, m => absurd m (by simp)
  | u :: a, t, h, m => by
    have h2 := Bool.and_eq_true_iff.mp (show (u.noOw && noOws a) = true from h)
    rcases List.mem_cons.mp m with e | m
    · rw [e]; exact h2.1
    · exact noOws_mem h2.2 m
theorem noOws_of : ∀ {a : List T}, (∀ t ∈ a, t.noOw = true) → noOws a = true
  | [], _ => rfl
  | u :: a, h => Bool.and_eq_true_iff.mpr ⟨h u (by simp), noOws_of fun t m => h t (by simp [m])⟩
theorem Reps.sub {ts : List T} {vs : List V} {g : List Addr} (r : Reps c ts vs g) (n : noOws ts = true) : ∀ {us : List T} {ws : List V}, us.length = ws.length → (∀ (i : Nat) (u : T) (w : V), us[i]? = some u → ws[i]? = some w → ∃ j : Nat, ts[j]? = some u ∧ vs[j]? = some w) → Reps c us ws []
  | [], [], _, _ => ⟨rfl, rfl⟩
  | [], _ :: _, e, _ => by simp at e
  | _ :: _, [], e, _ => by simp at e
  | u :: us, w :: ws, e, h => by
    obtain ⟨j, e1, e2⟩ := h 0 u w rfl rfl
    obtain ⟨v, gt, e3, e4, _⟩ := r.get e1
    rw [e2] at e3
    cases e3
    have e5 := Rep.noOw _ _ _ (noOws_mem n (List.mem_of_getElem? e1)) e4
    rw [e5] at e4
    exact ⟨w, ws, [], [], rfl, rfl, e4, Reps.sub r n (by simpa using e) fun i u' w' a b => h (i + 1) u' w' (by simpa using a) (by simpa using b)⟩
theorem Reps.take (n : Nat) {ts : List T} {vs : List V} (r : Reps c ts vs []) (h : noOws ts = true) : Reps c (ts.take n) (vs.take n) [] := by
  refine r.sub h (by rw [List.length_take, List.length_take, r.len]) fun i u w a b => ⟨i, ?_, ?_⟩
  · rw [List.getElem?_take] at a; split at a; exact a; cases a
  · rw [List.getElem?_take] at b; split at b; exact b; cases b
theorem Reps.drop (n : Nat) {ts : List T} {vs : List V} (r : Reps c ts vs []) (h : noOws ts = true) : Reps c (ts.drop n) (vs.drop n) [] := by
  refine r.sub h (by rw [List.length_drop, List.length_drop, r.len]) fun i u w a b => ⟨n + i, ?_, ?_⟩
  · rw [List.getElem?_drop] at a; exact a
  · rw [List.getElem?_drop] at b; exact b
end

/-! ### a + b -/
def fAdd : T → T → Option T
  | .int i, .int j => some (.int (i + j))
  | .str x, .str y => if x.length + y.length ≤ sizeLine then some (.str (x ++ y)) else none
  | .lst .sc _, _ => none
  | .lst _ _, .lst .sc _ => none
  | .lst _ xs, .lst _ ys => if xs.length + ys.length ≤ sizeLine ∧ noOws xs = true ∧ noOws ys = true then some (.lst .ow (xs ++ ys)) else none
  | .tup xs, .tup ys => if xs.length + ys.length ≤ sizeLine ∧ xs ≠ [] ∧ noOws xs = true ∧ noOws ys = true then some (.tup (xs ++ ys)) else none
  | _, _ => none
def rAddAny (K : PySem.W.Frag) : R2 := fun x y H Q => rI0 (fun i j => .int (i + j)) x y H Q ∨ (∃ i j, x = .str i ∧ y = .str j ∧ i.length + j.length ≤ sizeLine ∧ Q (.str (i ++ j)) H) ∨ rCat x y H Q ∨ rCatT K x y H Q
instance : DecidablePred fun xs : List T => xs ≠ [] := fun xs => match xs with
  | [] => isFalse (fun h => h rfl)
  | _ :: _ => isTrue (fun h => by cases h)
theorem op_addAny {X : Cx} : OpR X (binaryOp .Add) (rAddAny X.K) := by
  intro pins s σ H x y v u Q I rx ry h
  rcases h with h | h | h | h
  · exact op_add pins s σ H x y v u Q I rx ry h
  · exact op_add_str pins s σ H x y v u Q I rx ry h
  · exact op_cat pins s σ H x y v u Q I rx ry h
  · exact op_catT pins s σ H x y v u Q I rx ry h
section
variable {X : Cx} {ca : Str → Addr}
/-- the ends of an operation: a value without nodes -/
theorem fin0 {σ : L2.St} {G : Gh} {Q : VK} {z : T} {v : V} (g : Good X.K ca σ G) (k : ∀ G' u g, G'.S = G.S → Good X.K ca σ G' → Step false G G' → Tmp G' u z g → New G g → Q u G'.H) (r : Rep G.toHc z v []) : Q v G.H :=
  k G v [] rfl g (Step.refl _) (.bare r) New.nil
/-- .. a new list of values that others hold -/
theorem finL {σ : L2.St} {G : Gh} {Q : VK} {zs : List T} {vs : List V} (g : Good X.K ca σ G) (k : ∀ G' u g, G'.S = G.S → Good X.K ca σ G' → Step false G G' → Tmp G' u (.lst .ow zs) g → New G g → Q u G'.H) (r : Reps G.toHc zs vs []) :
    ∀ p, G.H p = none → Q (.ref p) (upd G.H p (.lst vs)) := fun p hp => by
  obtain ⟨g2, s2⟩ := g.newH (o := .lst vs) hp
  exact k (G.newH p (.lst vs)) (.ref p) (p :: []) rfl g2 s2 (g.newL hp r List.nodup_nil fun _ m => absurd m (by simp)) (New.nil.cons hp)
theorem finT {σ : L2.St} {G : Gh} {Q : VK} {zs : List T} {vs : List V} (g : Good X.K ca σ G) (k : ∀ G' u g, G'.S = G.S → Good X.K ca σ G' → Step false G G' → Tmp G' u (.tup zs) g → New G g → Q u G'.H) (r : Reps G.toHc zs vs []) :
    ∀ p, G.H p = none → Q (.ref p) (upd G.H p (.tup vs)) := fun p hp => by
  obtain ⟨g2, s2⟩ := g.newF (o := .tup vs) hp
  exact k (G.newF p (.tup vs)) (.ref p) [] rfl g2 s2 (g.newT hp r List.nodup_nil fun _ m => absurd m (by simp)) New.nil
theorem o2_add : Op2 X ca (rAddAny X.K) fAdd := by
  intro σ G x y z v w gx gy Q g rx ry e k
  have hK : G.K = X.K := g.k
  unfold fAdd at e
  split at e
  · cases e
    obtain ⟨rfl, _⟩ := rx
    obtain ⟨rfl, _⟩ := ry
    exact .inl ⟨_, _, rfl, rfl, fin0 g k ⟨rfl, rfl⟩⟩
  · rename_i a b
    split at e
    · rename_i hl
      cases e
      obtain ⟨rfl, _⟩ := rx
      obtain ⟨rfl, _⟩ := ry
      exact .inr (.inl ⟨_, _, rfl, rfl, hl, fin0 g k ⟨rfl, rfl⟩⟩)
    · cases e
  · cases e
  · cases e
  · rename_i m xs m2 ys h1 h2
    split at e
    · rename_i hl
      cases e
      obtain ⟨p1, v1, g1, rfl, a1, r1, t1, _⟩ := Rep.lstL g.fp g.ph rx
      obtain ⟨p2, v2, g2, rfl, a2, r2, t2, _⟩ := Rep.lstL g.fp g.ph ry
      refine .inr (.inr (.inl ⟨_, _, _, _, rfl, rfl, t1 (fun z => ?_), t2 (fun z => ?_), by rw [r1.len, r2.len]; exact hl.1, finL g k ((r1.bare hl.2.1).append (r2.bare hl.2.2))⟩))
      · exact h1 z
      · exact h2 z
    · cases e
  · rename_i xs ys
    split at e
    · rename_i hl
      cases e
      obtain ⟨p1, v1, rfl, a1, r1⟩ := Rep.tupT g.fp g.ph rx
      obtain ⟨p2, v2, rfl, a2, r2⟩ := Rep.tupT g.fp g.ph ry
      have n1 := r1.bare hl.2.2.1
      have n2 := r2.bare hl.2.2.2
      have ne : v1 ≠ [] := fun z => by
        have := r1.len
        rw [z] at this
        exact hl.2.1 (List.length_eq_zero_iff.mp this.symm)
      refine .inr (.inr (.inr ⟨_, _, _, _, rfl, rfl, hK ▸ a1, hK ▸ a2, ne, by rw [r1.len, r2.len]; exact hl.1, fun z => ?_, fun _ => finT g k (n1.append n2)⟩))
      have : ys = [] := List.length_eq_zero_iff.mp (by rw [← r2.len, z]; rfl)
      subst this
      rw [List.append_nil] at k
      obtain ⟨q, vs, a, b, d⟩ := rx
      cases a
      exact fin0 g k ⟨_, vs, rfl, b, d.bare hl.2.2.1⟩
    · cases e
  · cases e

/-! ### ints -/
def fI (C : Int → Int → Bool) (f : Int → Int → T) : T → T → Option T
  | .int i, .int j => if C i j then some (f i j) else none
  | _, _ => none
theorem o2_I {C : Int → Int → Prop} {Cb : Int → Int → Bool} {fv : Int → Int → V} {f : Int → Int → T} (hC : ∀ i j, Cb i j = true → C i j) (hf : ∀ (c : Hc) i j, Rep c (f i j) (fv i j) []) : Op2 X ca (rI C fv) (fI Cb f) := by
  intro σ G x y z v w gx gy Q g rx ry e k
  unfold fI at e
  split at e
  · split at e
    · rename_i i j hc
      cases e
      obtain ⟨rfl, _⟩ := rx
      obtain ⟨rfl, _⟩ := ry
      exact ⟨i, j, rfl, rfl, hC i j hc, fin0 g k (hf _ i j)⟩
    · cases e
  · cases e
theorem o2_I0 {fv : Int → Int → V} {f : Int → Int → T} (hf : ∀ (c : Hc) i j, Rep c (f i j) (fv i j) []) : Op2 X ca (rI0 fv) (fI (fun _ _ => true) f) := by
  intro σ G x y z v w gx gy Q g rx ry e k
  unfold fI at e
  split at e
  · rename_i i j
    rw [if_pos rfl] at e
    cases e
    obtain ⟨rfl, _⟩ := rx
    obtain ⟨rfl, _⟩ := ry
    exact ⟨i, j, rfl, rfl, fin0 g k (hf _ i j)⟩
  · cases e
def fSub : T → T → Option T := fI (fun _ _ => true) fun i j => .int (i - j)
theorem o2_sub : Op2 X ca (rI0 fun i j => .int (i - j)) fSub := o2_I0 fun _ _ _ => ⟨rfl, rfl⟩
def smallI (i : Int) : Bool := decide (-(2 ^ 64) < i ∧ i < 2 ^ 64)
/-- * of ints (one of them below 2 ^ 64), and a list times an int -/
def fMul : T → T → Option T
  | .int i, .int j => if smallI i || smallI j then some (.int (i * j)) else none
  | .lst .sc _, _ => none
  | .lst _ xs, .int k => if -(2 ^ 63) ≤ k ∧ k < 2 ^ 63 ∧ xs.length * k.toNat ≤ sizeLine ∧ noOws xs = true then some (.lst .ow (List.replicate k.toNat xs).flatten) else none
  | _, _ => none
def rMulAny : R2 := fun x y H Q => rI CMul (fun i j => .int (i * j)) x y H Q ∨ rRep x y H Q
theorem op_mulAny : OpR X (binaryOp .Mult) rMulAny := by
  intro pins s σ H x y v u Q I rx ry h
  rcases h with h | h
  · exact op_mul pins s σ H x y v u Q I rx ry h
  · exact op_rep pins s σ H x y v u Q I rx ry h
theorem Reps.rep {c : Hc} {ts : List T} {vs : List V} (r : Reps c ts vs []) : ∀ n : Nat, Reps c (List.replicate n ts).flatten (List.replicate n vs).flatten []
  | 0 => ⟨rfl, rfl⟩
  | n + 1 => by
    rw [List.replicate_succ, List.replicate_succ, List.flatten_cons, List.flatten_cons]
    exact r.append (Reps.rep r n)
theorem o2_mul : Op2 X ca rMulAny fMul := by
  intro σ G x y z v w gx gy Q g rx ry e k
  unfold fMul at e
  split at e
  · rename_i i j
    split at e
    · rename_i hc
      cases e
      obtain ⟨rfl, _⟩ := rx
      obtain ⟨rfl, _⟩ := ry
      refine .inl ⟨_, _, rfl, rfl, ?_, fin0 g k ⟨rfl, rfl⟩⟩
      rcases Bool.or_eq_true_iff.mp hc with h | h
      · exact .inl (of_decide_eq_true h)
      · exact .inr (of_decide_eq_true h)
    · cases e
  · cases e
  · rename_i m xs kk h1
    split at e
    · rename_i hl
      cases e
      obtain ⟨p1, v1, g1, rfl, a1, r1, t1, _⟩ := Rep.lstL g.fp g.ph rx
      obtain ⟨rfl, _⟩ := ry
      exact .inr ⟨_, _, _, rfl, rfl, t1 (fun z => h1 z), hl.1, hl.2.1, by rw [r1.len]; exact hl.2.2.1, finL g k ((r1.bare hl.2.2.2).rep _)⟩
    · cases e
  · cases e
def okDiv (_ j : Int) : Bool := decide (0 < j ∧ j.natAbs.log2 < 9000)
def fDiv : T → T → Option T := fI okDiv fun i j => .int (i / j)
theorem o2_div : Op2 X ca (rI CDivW fun i j => .int (i / j)) fDiv := o2_I (fun i j h => by have q : 0 < j ∧ j.natAbs.log2 < 9000 := of_decide_eq_true h; exact q) fun _ _ _ => ⟨rfl, rfl⟩
def fMod : T → T → Option T := fI (fun _ j => decide (0 < j)) fun i j => .int (i % j)
theorem o2_mod : Op2 X ca (rI (fun _ j => 0 < j) fun i j => .int (i % j)) fMod := o2_I (fun i j h => of_decide_eq_true h) fun _ _ _ => ⟨rfl, rfl⟩
def fPow : T → T → Option T := fI (fun i j => decide (0 ≤ j ∧ j ≤ 1000000 ∧ i.natAbs < 2 ^ 64)) fun i j => .int (i ^ j.toNat)
theorem o2_pow : Op2 X ca (rI CPow fun i j => .int (i ^ j.toNat)) fPow := o2_I (fun i j h => by have q : 0 ≤ j ∧ j ≤ 1000000 ∧ i.natAbs < 2 ^ 64 := of_decide_eq_true h; exact q) fun _ _ _ => ⟨rfl, rfl⟩
def fNeg : T → Option T
  | .int i => some (.int (-i))
  | _ => none
theorem o1_neg : Op1 X ca (rU fun i => .int (-i)) fNeg := by
  intro σ G x z v gx Q g rx e k
  unfold fNeg at e
  split at e
  · cases e
    obtain ⟨rfl, _⟩ := rx
    exact ⟨_, rfl, fin0 g k ⟨rfl, rfl⟩⟩
  · cases e

/-! ### < and its like: ints and texts -/
def ltS (x y : Str) : Bool := decide (x.cps.toList < y.cps.toList)
def fLt : T → T → Option T
  | .int i, .int j => some (.bl (decide (i < j)))
  | .str x, .str y => some (.bl (ltS x y))
  | _, _ => none
def fLe : T → T → Option T
  | .int i, .int j => some (.bl (decide (i ≤ j)))
  | .str x, .str y => some (.bl (!ltS y x))
  | _, _ => none
def fGt : T → T → Option T
  | .int i, .int j => some (.bl (decide (j < i)))
  | .str x, .str y => some (.bl (ltS y x))
  | _, _ => none
def fGe : T → T → Option T
  | .int i, .int j => some (.bl (decide (j ≤ i)))
  | .str x, .str y => some (.bl (!ltS x y))
  | _, _ => none
def rOrd (fi : Int → Int → Bool) (fs : Str → Str → Bool) : R2 := fun x y H Q => rI0 (fun i j => .bl (fi i j)) x y H Q ∨ ∃ i j, x = .str i ∧ y = .str j ∧ Q (.bl (fs i j)) H
theorem op_ord {op : CmpOp} {fi : Int → Int → Bool} {fs : Str → Str → Bool} (h1 : OpR X (compareOp op) (rI0 fun i j => .bl (fi i j))) (h2 : OpR X (compareOp op) fun x y H Q => ∃ i j, x = .str i ∧ y = .str j ∧ Q (.bl (fs i j)) H) : OpR X (compareOp op) (rOrd fi fs) := by
  intro pins s σ H x y v u Q I rx ry h
  rcases h with h | h
  · exact h1 pins s σ H x y v u Q I rx ry h
  · exact h2 pins s σ H x y v u Q I rx ry h
theorem op_ltA : OpR X (compareOp .Lt) (rOrd (fun i j => decide (i < j)) ltS) := op_ord op_lt op_lt_str
theorem op_leA : OpR X (compareOp .LtE) (rOrd (fun i j => decide (i ≤ j)) fun x y => !ltS y x) := op_ord op_le op_le_str
theorem op_gtA : OpR X (compareOp .Gt) (rOrd (fun i j => decide (j < i)) fun x y => ltS y x) := op_ord op_gt op_gt_str
theorem op_geA : OpR X (compareOp .GtE) (rOrd (fun i j => decide (j ≤ i)) fun x y => !ltS x y) := op_ord op_ge op_ge_str
theorem o2_ord {fi : Int → Int → Bool} {fs : Str → Str → Bool} {f : T → T → Option T} (hf : ∀ x y z, f x y = some z → (∃ i j, x = .int i ∧ y = .int j ∧ z = .bl (fi i j)) ∨ ∃ i j, x = .str i ∧ y = .str j ∧ z = .bl (fs i j)) : Op2 X ca (rOrd fi fs) f := by
  intro σ G x y z v w gx gy Q g rx ry e k
  rcases hf x y z e with ⟨i, j, rfl, rfl, rfl⟩ | ⟨i, j, rfl, rfl, rfl⟩
  · obtain ⟨rfl, _⟩ := rx
    obtain ⟨rfl, _⟩ := ry
    exact .inl ⟨_, _, rfl, rfl, fin0 g k ⟨rfl, rfl⟩⟩
  · obtain ⟨rfl, _⟩ := rx
    obtain ⟨rfl, _⟩ := ry
    exact .inr ⟨_, _, rfl, rfl, fin0 g k ⟨rfl, rfl⟩⟩
theorem o2_lt : Op2 X ca (rOrd (fun i j => decide (i < j)) ltS) fLt := o2_ord fun x y z e => by
  unfold fLt at e; split at e <;> cases e
  · exact .inl ⟨_, _, rfl, rfl, rfl⟩
  · exact .inr ⟨_, _, rfl, rfl, rfl⟩
theorem o2_le : Op2 X ca (rOrd (fun i j => decide (i ≤ j)) fun x y => !ltS y x) fLe := o2_ord fun x y z e => by
  unfold fLe at e; split at e <;> cases e
  · exact .inl ⟨_, _, rfl, rfl, rfl⟩
  · exact .inr ⟨_, _, rfl, rfl, rfl⟩
theorem o2_gt : Op2 X ca (rOrd (fun i j => decide (j < i)) fun x y => ltS y x) fGt := o2_ord fun x y z e => by
  unfold fGt at e; split at e <;> cases e
  · exact .inl ⟨_, _, rfl, rfl, rfl⟩
  · exact .inr ⟨_, _, rfl, rfl, rfl⟩
theorem o2_ge : Op2 X ca (rOrd (fun i j => decide (j ≤ i)) fun x y => !ltS x y) fGe := o2_ord fun x y z e => by
  unfold fGe at e; split at e <;> cases e
  · exact .inl ⟨_, _, rfl, rfl, rfl⟩
  · exact .inr ⟨_, _, rfl, rfl, rfl⟩
/-! ### is None -/
def T.isN : T → Bool
  | .non => true
  | _ => false
theorem Rep.isN {c : Hc} {t : T} {v : V} {g : List Addr} (r : Rep c t v g) : decide (v = .non) = t.isN := by
  have ref : ∀ {p : Addr}, v = .ref p → decide (v = .non) = false := fun e => by rw [e]; rfl
  cases t with
  | non => obtain ⟨rfl, _⟩ := r; rfl
  | bl b => obtain ⟨rfl, _⟩ := r; rfl
  | int i => obtain ⟨rfl, _⟩ := r; rfl
  | str x => obtain ⟨rfl, _⟩ := r; rfl
  | tup xs => obtain ⟨p, vs, rfl, _⟩ := r; rfl
  | hnd n => obtain ⟨p, rfl, _⟩ := r; rfl
  | lst m xs => cases m with
    | fz => obtain ⟨p, vs, rfl, _⟩ := r; rfl
    | ow => obtain ⟨p, vs, gs, rfl, _⟩ := r; rfl
    | br => obtain ⟨p, vs, rfl, _⟩ := r; rfl
    | sc => obtain ⟨p, vs, rfl, _⟩ := r; rfl
  | dic m xs => cases m with
    | fz => obtain ⟨p, vs, rfl, _⟩ := r; rfl
    | ow => obtain ⟨p, vs, gs, rfl, _⟩ := r; rfl
    | br => obtain ⟨p, vs, rfl, _⟩ := r; rfl
    | sc => exact (show False from r).elim
def fIsN : T → T → Option T
  | x, .non => some (.bl x.isN)
  | _, _ => none
def fNotN : T → T → Option T
  | x, .non => some (.bl (!x.isN))
  | _, _ => none
theorem o2_isN : Op2 X ca (fun x y H Q => y = .non ∧ Q (.bl (decide (x = .non))) H) fIsN := by
  intro σ G x y z v w gx gy Q g rx ry e k
  unfold fIsN at e
  split at e
  · cases e
    obtain ⟨rfl, _⟩ := ry
    refine ⟨rfl, ?_⟩
    rw [rx.isN]
    exact fin0 g k ⟨rfl, rfl⟩
  · cases e
theorem o2_notN : Op2 X ca (fun x y H Q => y = .non ∧ Q (.bl (!decide (x = .non))) H) fNotN := by
  intro σ G x y z v w gx gy Q g rx ry e k
  unfold fNotN at e
  split at e
  · cases e
    obtain ⟨rfl, _⟩ := ry
    refine ⟨rfl, ?_⟩
    rw [rx.isN]
    exact fin0 g k ⟨rfl, rfl⟩
  · cases e
end
end TL

set_option Elab.async false
set_option linter.all false
set_option maxRecDepth 100000
/-! TL5: and, or, not, a if t else b; arguments; displays; places and slices; statements; calls. -/
namespace TL
open PySem PySem.Spec L2

/-! ### tests -/
def tAndD (a b : DT) : DT := fun S => (a S).bind fun p => if p.1 = true then b p.2 else some (false, p.2)
def tOrD (a b : DT) : DT := fun S => (a S).bind fun p => if p.1 = true then some (true, p.2) else b p.2
def tNotD (a : DT) : DT := fun S => (a S).bind fun p => some (!p.1, p.2)
def dAndD (a b : DE) : DE := fun S => (a S).bind fun p => match p.1 with
  | .bl c => if c = true then b p.2 else some (.bl false, p.2)
  | _ => none
def dOrD (a b : DE) : DE := fun S => (a S).bind fun p => match p.1 with
  | .bl c => if c = true then some (.bl true, p.2) else b p.2
  | _ => none
def dNotD (a : DE) : DE := fun S => (a S).bind fun p => match p.1 with
  | .bl c => some (.bl (!c), p.2)
  | _ => none
def dIfD (c : DT) (a b : DE) : DE := fun S => (c S).bind fun p => if p.1 = true then a p.2 else b p.2
section
variable {X : Cx} {ca : Str → Addr} {a b c : Expr} {rest : List Expr} {ea eb ec : Bool} {pos : Pos}
theorem step_l {e1 e2 : Bool} {G G' : Gh} (s : Step e1 G G') : Step (e1 || e2) G G' := s.weak fun h => (Bool.or_eq_false_iff.mp h).1
abbrev WX (ca : Str → Addr) (X : Cx) (e : Expr) (ef : Bool) (d : DT) : Prop := PW X e (liftT X.K ca ef d)
theorem wx_and1 {d : DT} (h : TX ca X a ea d) : WX ca X (.BoolOp .And [a] pos) ea d := pw_and1 h
theorem wx_or1 {d : DT} (h : TX ca X a ea d) : WX ca X (.BoolOp .Or [a] pos) ea d := pw_or1 h
theorem wx_and {d1 d2 : DT} (h1 : TX ca X a ea d1) (h2 : WX ca X (.BoolOp .And (b :: rest) pos) eb d2) : WX ca X (.BoolOp .And (a :: b :: rest) pos) (ea || eb) (tAndD d1 d2) :=
  PW.imp (pw_and h1 h2) fun σ H Q w => by
    obtain ⟨G, rfl, g, z, S', e1, k⟩ := w
    obtain ⟨p, h3, e1⟩ := Option.bind_eq_some_iff.mp e1
    refine ⟨G, rfl, g, p.1, p.2, h3, fun G1 a1 a2 a3 => ?_⟩
    split at e1
    · rename_i hp
      rw [if_pos hp]
      exact ⟨G1, rfl, a2, z, S', by rw [a1]; exact e1, fun G2 b1 b2 b3 => k G2 b1 b2 (a3.trans b3)⟩
    · rename_i hp
      rw [if_neg hp]
      cases e1
      exact k G1 a1 a2 (step_l a3)
theorem wx_or {d1 d2 : DT} (h1 : TX ca X a ea d1) (h2 : WX ca X (.BoolOp .Or (b :: rest) pos) eb d2) : WX ca X (.BoolOp .Or (a :: b :: rest) pos) (ea || eb) (tOrD d1 d2) :=
  PW.imp (pw_or h1 h2) fun σ H Q w => by
    obtain ⟨G, rfl, g, z, S', e1, k⟩ := w
    obtain ⟨p, h3, e1⟩ := Option.bind_eq_some_iff.mp e1
    refine ⟨G, rfl, g, p.1, p.2, h3, fun G1 a1 a2 a3 => ?_⟩
    split at e1
    · rename_i hp
      rw [if_pos hp]
      cases e1
      exact k G1 a1 a2 (step_l a3)
    · rename_i hp
      rw [if_neg hp]
      exact ⟨G1, rfl, a2, z, S', by rw [a1]; exact e1, fun G2 b1 b2 b3 => k G2 b1 b2 (a3.trans b3)⟩
theorem tx_not {d : DT} (h : TX ca X a ea d) : TX ca X (.UnaryOp .Not a pos) ea (tNotD d) := PT.imp (pt_not h) fun σ H Q w => by
  obtain ⟨G, rfl, g, z, S', e1, k⟩ := w
  obtain ⟨p, h3, e1⟩ := Option.bind_eq_some_iff.mp e1
  cases e1
  exact ⟨G, rfl, g, p.1, p.2, h3, fun G1 a1 a2 a3 => k G1 a1 a2 a3⟩
theorem ex_one {op : BoolOp} {d : DE} (h : EX ca X a ea d) : EX ca X (.BoolOp op [a] pos) ea d := pe_one h
theorem ex_and {d1 d2 : DE} (h1 : EX ca X a ea d1) (h2 : EX ca X (.BoolOp .And (b :: rest) pos) eb d2) : EX ca X (.BoolOp .And (a :: b :: rest) pos) (ea || eb) (dAndD d1 d2) :=
  PE.imp (pe_and h1 h2) fun σ H Q w => by
    obtain ⟨G, rfl, g, z, S', e1, k⟩ := w
    obtain ⟨p, h3, e1⟩ := Option.bind_eq_some_iff.mp e1
    refine ⟨G, rfl, g, p.1, p.2, h3, fun G1 v gv a1 a2 a3 a4 a5 => ?_⟩
    split at e1
    · rename_i cc hc
      have r := a4.rep
      rw [hc] at r
      refine ⟨cc, r.1, ?_⟩
      split at e1
      · rename_i hp
        rw [if_pos hp]
        exact ⟨G1, rfl, a2, z, S', by rw [a1]; exact e1, fun G2 u gu b1 b2 b3 b4 b5 => k G2 u gu b1 b2 (a3.trans b3) b4 (b5.step a3)⟩
      · rename_i hp
        rw [if_neg hp]
        cases e1
        exact k G1 _ [] a1 a2 (step_l a3) (.bare ⟨rfl, rfl⟩) New.nil
    · cases e1
theorem ex_or {d1 d2 : DE} (h1 : EX ca X a ea d1) (h2 : EX ca X (.BoolOp .Or (b :: rest) pos) eb d2) : EX ca X (.BoolOp .Or (a :: b :: rest) pos) (ea || eb) (dOrD d1 d2) :=
  PE.imp (pe_or h1 h2) fun σ H Q w => by
    obtain ⟨G, rfl, g, z, S', e1, k⟩ := w
    obtain ⟨p, h3, e1⟩ := Option.bind_eq_some_iff.mp e1
    refine ⟨G, rfl, g, p.1, p.2, h3, fun G1 v gv a1 a2 a3 a4 a5 => ?_⟩
    split at e1
    · rename_i cc hc
      have r := a4.rep
      rw [hc] at r
      refine ⟨cc, r.1, ?_⟩
      split at e1
      · rename_i hp
        rw [if_pos hp]
        cases e1
        exact k G1 _ [] a1 a2 (step_l a3) (.bare ⟨rfl, rfl⟩) New.nil
      · rename_i hp
        rw [if_neg hp]
        exact ⟨G1, rfl, a2, z, S', by rw [a1]; exact e1, fun G2 u gu b1 b2 b3 b4 b5 => k G2 u gu b1 b2 (a3.trans b3) b4 (b5.step a3)⟩
    · cases e1
theorem ex_not {d : DE} (h : EX ca X a ea d) : EX ca X (.UnaryOp .Not a pos) ea (dNotD d) := PE.imp (pe_not h) fun σ H Q w => by
  obtain ⟨G, rfl, g, z, S', e1, k⟩ := w
  obtain ⟨p, h3, e1⟩ := Option.bind_eq_some_iff.mp e1
  refine ⟨G, rfl, g, p.1, p.2, h3, fun G1 v gv a1 a2 a3 a4 a5 => ?_⟩
  split at e1
  · rename_i cc hc
    have r := a4.rep
    rw [hc] at r
    cases e1
    exact ⟨cc, r.1, k G1 _ [] a1 a2 a3 (.bare ⟨rfl, rfl⟩) New.nil⟩
  · cases e1
theorem ex_ifx {dc : DT} {d1 d2 : DE} (hc : TX ca X c ec dc) (h1 : EX ca X a ea d1) (h2 : EX ca X b eb d2) : EX ca X (.IfExp c a b pos) (ec || (ea || eb)) (dIfD dc d1 d2) :=
  PE.imp (pe_ifExp hc h1 h2) fun σ H Q w => by
    obtain ⟨G, rfl, g, z, S', e1, k⟩ := w
    obtain ⟨p, h3, e1⟩ := Option.bind_eq_some_iff.mp e1
    refine ⟨G, rfl, g, p.1, p.2, h3, fun G1 a1 a2 a3 => ?_⟩
    split at e1
    · rename_i hp
      rw [if_pos hp]
      refine ⟨G1, rfl, a2, z, S', by rw [a1]; exact e1, fun G2 u gu b1 b2 b3 b4 b5 => k G2 u gu b1 b2 ((a3.trans b3).weak fun h => ?_) b4 (b5.step a3)⟩
      obtain ⟨q1, q2⟩ := Bool.or_eq_false_iff.mp h
      rw [q1, (Bool.or_eq_false_iff.mp q2).1] <;> rfl
    · rename_i hp
      rw [if_neg hp]
      refine ⟨G1, rfl, a2, z, S', by rw [a1]; exact e1, fun G2 u gu b1 b2 b3 b4 b5 => k G2 u gu b1 b2 ((a3.trans b3).weak fun h => ?_) b4 (b5.step a3)⟩
      obtain ⟨q1, q2⟩ := Bool.or_eq_false_iff.mp h
      rw [q1, (Bool.or_eq_false_iff.mp q2).2] <;> rfl
/-- a < b < c -/
def dChain (f f' : T → T → Option T) (a b c : DE) : DE := fun S => (a S).bind fun p => (b p.2).bind fun q => (f p.1 q.1).bind fun z => match z with
  | .bl k => if k = true then (c q.2).bind fun r => (f' q.1 r.1).bind fun y => some (y, r.2) else some (.bl false, q.2)
  | _ => none

/-! ### arguments -/
def aNil : DA := fun S => some ([], S)
def aCons (a : DO) (r : DA) : DA := fun S => (a S).bind fun p => (r p.2).bind fun q => some (p.1 :: q.1, q.2)
theorem ax_nil : AX ca X [] false aNil := PA.imp pa_nil fun σ H Q w => by
  obtain ⟨G, rfl, g, as, S', e1, k⟩ := w
  cases e1
  exact k G [] [] rfl g (Step.refl _) ⟨rfl, rfl⟩ New.nil
theorem ax_cons {es : List Expr} {da : DO} {dr : DA} (h1 : OX ca X a ea da) (h2 : AX ca X es eb dr) (hs : starEach (a :: es) X.env = (false, eval a X.env) :: starEach es X.env := by rfl) : AX ca X (a :: es) (ea || eb) (aCons da dr) :=
  PA.imp (pa_cons h1 h2 hs) fun σ H Q w => by
    obtain ⟨G, rfl, g, as, S', e1, k⟩ := w
    obtain ⟨p, h3, e1⟩ := Option.bind_eq_some_iff.mp e1
    obtain ⟨q, h4, e1⟩ := Option.bind_eq_some_iff.mp e1
    cases e1
    refine ⟨G, rfl, g, p.1, p.2, h3, fun G1 v gv a1 a2 a3 a4 a5 => ⟨G1, rfl, a2, q.1, q.2, by rw [a1]; exact h4, fun G2 vs gs b1 b2 b3 b4 b5 => ?_⟩⟩
    have a4' : ArgAt G2 σ p.1 v gv := by
      cases hp : p.1 with
      | tmp t => rw [hp] at a4; exact Tmp.step a4 b3
      | bor i => rw [hp] at a4; exact a4
    refine k G2 (v :: vs) (gv ++ gs) b1 b2 (a3.trans b3) ⟨v, vs, gv, gs, rfl, rfl, a4', b4, fun x m => ?_⟩ fun x m => ?_
    · cases hp : p.1 with
      | tmp t => rw [hp] at a4; exact Tmp.apart a4 b5 x m
      | bor i => rw [hp] at a4; rw [a4.2] at m; exact absurd m (by simp)
    · rcases List.mem_append.mp m with m | m
      · exact a5 x m
      · exact (b5.step a3) x m
/-- the values among arguments, where there is no lent slot -/
def temps : List Arg → Option (List T)
  | [] => some []
  | .tmp t :: as => (temps as).bind fun ts => some (t :: ts)
  | .bor _ :: _ => none
theorem ArgsAt.reps {G : Gh} {σ : L2.St} : ∀ {as : List Arg} {ts : List T} {vs : List V} {g : List Addr}, temps as = some ts → ArgsAt G σ as vs g → Reps G.toHc ts vs g ∧ g.Nodup ∧ ∀ a ∈ g, (∀ k, a ∉ G.fp k) ∧ a ∉ G.ad ∧ G.P a = none
  | [], ts, vs, g, e, ⟨h1, h2⟩ => by
    cases e
    rw [h1, h2]
    exact ⟨⟨rfl, rfl⟩, List.nodup_nil, fun _ m => absurd m (by simp)⟩
  | .tmp t :: as, ts, vs, g, e, ⟨v, r, ga, gb, e1, e2, h, hr, d⟩ => by
    obtain ⟨us, e3, e4⟩ := Option.bind_eq_some_iff.mp (show (temps as).bind (fun ts => some (t :: ts)) = some ts from e)
    cases e4
    obtain ⟨r1, r2, r3⟩ := ArgsAt.reps e3 hr
    have h : Tmp G v t ga := h
    refine ⟨⟨v, r, ga, gb, e1, e2, h.rep, r1⟩, ?_, fun x m => ?_⟩
    · rw [e2]
      exact List.nodup_append.mpr ⟨h.nd, r2, fun x m y m' q => d x m (q ▸ m')⟩
    · rw [e2] at m
      rcases List.mem_append.mp m with m | m
      · exact h.out x m
      · exact r3 x m
def dTup (a : DA) : DE := fun S => (a S).bind fun p => (temps p.1).bind fun ts => if ts.length ≤ sizeLine then some (.tup ts, p.2) else none
def dLst (a : DA) : DE := fun S => (a S).bind fun p => (temps p.1).bind fun ts => if ts.length ≤ sizeLine then some (.lst .ow ts, p.2) else none
theorem ex_tup {es : List Expr} {da : DA} {x1 : Nat} (h : AX ca X es ea da) : EX ca X (.Tuple es x1 pos) ea (dTup da) := PE.imp (pe_tup h) fun σ H Q w => by
  obtain ⟨G, rfl, g, z, S', e1, k⟩ := w
  obtain ⟨p, h3, e1⟩ := Option.bind_eq_some_iff.mp e1
  obtain ⟨ts, h4, e1⟩ := Option.bind_eq_some_iff.mp e1
  split at e1
  · rename_i hl
    cases e1
    refine ⟨G, rfl, g, p.1, p.2, h3, fun G1 vs gs a1 a2 a3 a4 a5 => ?_⟩
    obtain ⟨r, nd, out⟩ := a4.reps h4
    refine ⟨by rw [r.len]; exact hl, fun q hq => ?_⟩
    obtain ⟨g2, s2⟩ := a2.newF (o := .tup vs) hq
    exact k (G1.newF q (.tup vs)) (.ref q) gs a1 g2 ((a3.trans s2).weak fun e => by rw [e]; rfl) (a2.newT hq r nd out) a5
  · cases e1
theorem ex_lst {es : List Expr} {da : DA} (h : AX ca X es ea da) : EX ca X (.List es pos) ea (dLst da) := PE.imp (pe_lst h) fun σ H Q w => by
  obtain ⟨G, rfl, g, z, S', e1, k⟩ := w
  obtain ⟨p, h3, e1⟩ := Option.bind_eq_some_iff.mp e1
  obtain ⟨ts, h4, e1⟩ := Option.bind_eq_some_iff.mp e1
  split at e1
  · rename_i hl
    cases e1
    refine ⟨G, rfl, g, p.1, p.2, h3, fun G1 vs gs a1 a2 a3 a4 a5 => ?_⟩
    obtain ⟨r, nd, out⟩ := a4.reps h4
    refine ⟨by rw [r.len]; exact hl, fun q hq => ?_⟩
    obtain ⟨g2, s2⟩ := a2.newH (o := .lst vs) hq
    exact k (G1.newH q (.lst vs)) (.ref q) (q :: gs) a1 g2 ((a3.trans s2).weak fun e => by rw [e]; rfl) (a2.newL hq r nd out) (New.cons (by
      cases q' : G.H q with
      | none => rfl
      | some u => exact absurd hq (a3.dom q (by rw [q']; simp))) a5)
  · cases e1

/-! ### places and slices -/
def fIx : T → T → Option T
  | .lst _ xs, .int i => (atI xs i).bind fun t => if t.noOw then some t else none
  | .tup xs, .int i => (atI xs i).bind fun t => if t.noOw then some t else none
  | .str z, .int i => if z.length ≤ sizeLine then (atI z.cps.toList i).bind fun c => some (.str ⟨#[c]⟩) else none
  | _, _ => none
theorem atI_reps {c : Hc} {ts : List T} {vs : List V} {g : List Addr} {i : Int} {t : T} (r : Reps c ts vs g) (h : atI ts i = some t) (n : t.noOw = true) : ∃ v, atI vs i = some v ∧ Rep c t v [] := by
  unfold atI at h ⊢
  obtain ⟨j, h1, h2⟩ := Option.bind_eq_some_iff.mp h
  obtain ⟨v, gt, e1, e2, _⟩ := r.get h2
  have e3 := Rep.noOw _ _ _ n e2
  rw [e3] at e2
  exact ⟨v, by rw [r.len, h1]; exact e1, e2⟩
theorem o2_ix : Op2 X ca (rIx X.K) fIx := by
  intro σ G x y z v w gx gy Q g rx ry e k
  have hK : G.K = X.K := g.k
  unfold fIx at e
  split at e
  · obtain ⟨t, h1, e⟩ := Option.bind_eq_some_iff.mp e
    split at e
    · rename_i n
      cases e
      obtain ⟨p1, v1, g1, rfl, a1, r1, _, _⟩ := Rep.lstL g.fp g.ph rx
      obtain ⟨rfl, _⟩ := ry
      obtain ⟨u, e1, e2⟩ := atI_reps r1 h1 n
      exact .inl ⟨_, _, _, u, rfl, rfl, hK ▸ a1, e1, fin0 g k e2⟩
    · cases e
  · obtain ⟨t, h1, e⟩ := Option.bind_eq_some_iff.mp e
    split at e
    · rename_i n
      cases e
      obtain ⟨p1, v1, rfl, a1, r1⟩ := Rep.tupT g.fp g.ph rx
      obtain ⟨rfl, _⟩ := ry
      obtain ⟨u, e1, e2⟩ := atI_reps r1 h1 n
      exact .inr (.inl ⟨_, _, _, u, rfl, rfl, hK ▸ a1, e1, fin0 g k e2⟩)
    · cases e
  · split at e
    · rename_i hl
      obtain ⟨ch, h1, e⟩ := Option.bind_eq_some_iff.mp e
      cases e
      obtain ⟨rfl, _⟩ := rx
      obtain ⟨rfl, _⟩ := ry
      exact .inr (.inr ⟨_, _, ch, rfl, rfl, hl, h1, fin0 g k ⟨rfl, rfl⟩⟩)
    · cases e
  · cases e
theorem ex_ix {da db : DO} (ha : OX ca X a ea da) (hb : OX ca X b eb db) (hs : PlainIx b) : EX ca X (.Subscript a b pos) (ea || eb) (d2 fIx da db) :=
  PE.imp (pe_ix ix_seq ha hb hs) fun σ H Q w => bin_of o2_ix w
/-! a slice: its ends ints or left out -/
abbrev DP := SS → Option (Option Int × SS)
def pNone : DP := fun S => some (none, S)
def pSome (d : DE) : DP := fun S => (d S).bind fun p => match p.1 with
  | .int i => some (some i, p.2)
  | _ => none
section
variable (K : PySem.W.Frag)
def liftP (ca : Str → Addr) (ef : Bool) (d : DP) : TO := fun σ H Q => ∃ G : Gh, G.H = H ∧ Good K ca σ G ∧ ∃ i S', d G.S = some (i, S') ∧ ∀ G', G'.S = S' → Good K ca σ G' → Step ef G G' → Q i G'.H
end
abbrev PX (ca : Str → Addr) (X : Cx) (e : Option Expr) (ef : Bool) (d : DP) : Prop := PO X e (liftP X.K ca ef d)
theorem PO.imp {X : Cx} {e : Option Expr} {t t' : TO} (h : PO X e t) (i : ∀ σ H Q, t' σ H Q → t σ H Q) : PO X e t' := ⟨fun pins s σ H Q I w => h.run pins s σ H Q I (i σ H Q w)⟩
theorem px_none : PX ca X none false pNone := PO.imp po_none fun σ H Q w => by
  obtain ⟨G, rfl, g, i, S', e1, k⟩ := w
  cases e1
  exact k G rfl g (Step.refl _)
theorem px_some {d : DE} (h : EX ca X a ea d) : PX ca X (some a) ea (pSome d) := PO.imp (po_some h) fun σ H Q w => by
  obtain ⟨G, rfl, g, i, S', e1, k⟩ := w
  obtain ⟨p, h3, e1⟩ := Option.bind_eq_some_iff.mp e1
  refine ⟨G, rfl, g, p.1, p.2, h3, fun G1 v gv a1 a2 a3 a4 a5 => ?_⟩
  split at e1
  · rename_i j hj
    cases e1
    have r := a4.rep
    rw [hj] at r
    exact ⟨j, r.1, k G1 a1 a2 a3⟩
  · cases e1
/-- the cut of a list of trees, as of values -/
def cutT (xs : List T) (lo hi : Option Int) : List T := (xs.drop (HT.sIx xs.length 0 lo)).take (HT.sIx xs.length xs.length hi - HT.sIx xs.length 0 lo)
def isWhole (n : Nat) (lo hi : Option Int) : Bool := decide (HT.sIx n 0 lo = 0 ∧ HT.sIx n n hi = n)
def fSl (x : T) (lo hi : Option Int) : Option T := match x with
  | .lst _ xs => if noOws xs then some (.lst .ow (cutT xs lo hi)) else none
  | .tup xs => if noOws xs ∧ isWhole xs.length lo hi = false then some (.tup (cutT xs lo hi)) else none
  | .str z => if z.length ≤ sizeLine then some (.str (cutS z lo hi)) else none
  | _ => none
def rSlAny (K : PySem.W.Frag) : V → Option Int → Option Int → Hp → VK → Prop := fun x lo hi H Q => rSlL K x lo hi H Q ∨ rSlT K x lo hi H Q ∨ rSlS x lo hi H Q
theorem sl_any : SlR X (rSlAny X.K) := SlR.or sl_list (SlR.or sl_tup sl_str)
def d3 (f : T → Option Int → Option Int → Option T) (a : DO) (lo hi : DP) : DE := fun S => (a S).bind fun p => (lo p.2).bind fun q => (hi q.2).bind fun r => (p.1.res r.2).bind fun x => (f x q.1 r.1).bind fun z => some (z, r.2)
theorem cut_reps {c : Hc} {ts : List T} {vs : List V} (r : Reps c ts vs []) (n : noOws ts = true) (lo hi : Option Int) : Reps c (cutT ts lo hi) (cutV vs lo hi) [] := by
  unfold cutT cutV
  rw [r.len]
  exact (r.drop _ n).take _ (noOws_of fun t m => noOws_mem n (List.mem_of_mem_drop m))
theorem ex_sl {lo hi : Option Expr} {da : DO} {dl dh : DP} {el eh : Bool} {p2 : Pos} (ha : OX ca X a ea da) (hl : PX ca X lo el dl) (hh : PX ca X hi eh dh) : EX ca X (.Subscript a (.Slice lo hi none p2) pos) (ea || (el || eh)) (d3 fSl da dl dh) :=
  PE.imp (pe_slice sl_any ha hl hh) fun σ H Q w => by
    obtain ⟨G, rfl, g, z, S', e1, k⟩ := w
    obtain ⟨p, h1, e1⟩ := Option.bind_eq_some_iff.mp e1
    obtain ⟨q, h2, e1⟩ := Option.bind_eq_some_iff.mp e1
    obtain ⟨r, h3, e1⟩ := Option.bind_eq_some_iff.mp e1
    obtain ⟨x, h4, e1⟩ := Option.bind_eq_some_iff.mp e1
    obtain ⟨z', h5, e1⟩ := Option.bind_eq_some_iff.mp e1
    cases e1
    refine ⟨G, rfl, g, p.1, p.2, h1, fun G1 v gv a1 a2 a3 a4 a5 => ⟨G1, rfl, a2, q.1, q.2, by rw [a1]; exact h2, fun G2 b1 b2 b3 => ⟨G2, rfl, b2, r.1, r.2, by rw [b1]; exact h3, fun G3 c1 c2 c3 => ?_⟩⟩⟩
    have a4' : ArgAt G3 σ p.1 v gv := by
      cases hp : p.1 with
      | tmp t => rw [hp] at a4; exact Tmp.step (Tmp.step a4 b3) c3
      | bor i => rw [hp] at a4; exact a4
    obtain ⟨g1, rx⟩ := a4'.rep c2 (by rw [c1]; exact h4)
    have st : Step (ea || (el || eh)) G G3 := a3.trans (b3.trans c3)
    have k' : ∀ G' u gu, G'.S = G3.S → Good X.K ca σ G' → Step false G3 G' → Tmp G' u z gu → New G3 gu → Q u G'.H := fun G' u gu d1 d2 d3 d4 d5 => k G' u gu (d1.trans c1) d2 ((st.trans d3).weak fun e => by rw [e]; rfl) d4 (d5.step st)
    have hK : G3.K = X.K := c2.k
    unfold fSl at h5
    split at h5
    · split at h5
      · rename_i n
        cases h5
        obtain ⟨p1, v1, g1, rfl, t1, r1, _, _⟩ := Rep.lstL c2.fp c2.ph rx
        exact .inl ⟨_, _, rfl, hK ▸ t1, finL c2 k' (cut_reps (r1.bare n) n _ _)⟩
      · cases h5
    · split at h5
      · rename_i n
        cases h5
        obtain ⟨p1, v1, rfl, t1, r1⟩ := Rep.tupT c2.fp c2.ph rx
        refine .inr (.inl ⟨_, _, rfl, hK ▸ t1, ?_, finT c2 k' (cut_reps (r1.bare n.1) n.1 _ _)⟩)
        rw [r1.len]
        intro h
        have := n.2
        unfold isWhole at this
        rw [decide_eq_true h] at this
        cases this
      · cases h5
    · split at h5
      · rename_i hl
        cases h5
        obtain ⟨rfl, _⟩ := rx
        exact .inr (.inr ⟨_, rfl, hl, fin0 c2 k' ⟨rfl, rfl⟩⟩)
      · cases h5
    · cases h5
end
end TL

set_option Elab.async false
set_option linter.all false
set_option maxRecDepth 100000
/-! TL6: chains; statements; targets; for and while; comprehensions. -/
namespace TL
open PySem PySem.Spec L2

section
variable {X : Cx} {ca : Str → Addr} {a b c : Expr} {ea eb ec : Bool} {pos : Pos}
theorem chain_of {r r' : R2} {f f' : T → T → Option T} {da db dc : DE} (o : Op2 X ca r f) (o' : Op2 X ca r' f') {σ : L2.St} {H : Hp} {Q : VK} (w : liftE X.K ca (ea || (eb || ec)) (dChain f f' da db dc) σ H Q) :
    tChain r r' (liftE X.K ca ea da) (liftE X.K ca eb db) (liftE X.K ca ec dc) σ H Q := by
  obtain ⟨G, rfl, g, z, S', e1, k⟩ := w
  obtain ⟨p, h1, e1⟩ := Option.bind_eq_some_iff.mp e1
  obtain ⟨q, h2, e1⟩ := Option.bind_eq_some_iff.mp e1
  obtain ⟨y, h3, e1⟩ := Option.bind_eq_some_iff.mp e1
  refine ⟨G, rfl, g, p.1, p.2, h1, fun G1 v gv a1 a2 a3 a4 a5 => ⟨G1, rfl, a2, q.1, q.2, by rw [a1]; exact h2, fun G2 w gw b1 b2 b3 b4 b5 => ?_⟩⟩
  refine o σ G2 p.1 q.1 y v w gv gw _ b2 (Tmp.step a4 b3).rep b4.rep h3 fun G3 u gu c1 c2 c3 c4 c5 => ?_
  split at e1
  · rename_i kk
    have r := c4.rep
    refine ⟨kk, r.1, ?_⟩
    split at e1
    · rename_i hk
      rw [if_pos hk]
      obtain ⟨rr, h4, e1⟩ := Option.bind_eq_some_iff.mp e1
      obtain ⟨y2, h5, e1⟩ := Option.bind_eq_some_iff.mp e1
      cases e1
      refine ⟨G3, rfl, c2, rr.1, rr.2, by rw [c1, b1]; exact h4, fun G4 x gx d1 d2 d3 d4 d5 => ?_⟩
      refine o' σ G4 q.1 rr.1 z w x gw gx Q d2 (Tmp.step (Tmp.step b4 c3) d3).rep d4.rep h5 fun G5 u2 gu2 e1 e2 e3 e4 e5 => ?_
      have st := (a3.trans b3).trans (c3.trans (d3.trans e3))
      refine k G5 u2 gu2 (e1.trans d1) e2 (st.weak fun h => ?_) e4 (e5.step ((a3.trans b3).trans (c3.trans d3)))
      obtain ⟨q1, q2⟩ := Bool.or_eq_false_iff.mp h
      obtain ⟨q3, q4⟩ := Bool.or_eq_false_iff.mp q2
      rw [q1, q3, q4] <;> rfl
    · rename_i hk
      rw [if_neg hk]
      cases e1
      refine k G3 _ [] (c1.trans b1) c2 (((a3.trans b3).trans c3).weak fun h => ?_) (.bare ⟨rfl, rfl⟩) New.nil
      obtain ⟨q1, q2⟩ := Bool.or_eq_false_iff.mp h
      obtain ⟨q3, q4⟩ := Bool.or_eq_false_iff.mp q2
      rw [q1, q3] <;> rfl
  · cases e1
theorem ex_chain {op op' : CmpOp} {r r' : R2} {f f' : T → T → Option T} {da db dc : DE} (ho : OpR X (compareOp op) r) (o : Op2 X ca r f) (ho' : OpR X (compareOp op') r') (o' : Op2 X ca r' f') (ha : EX ca X a ea da) (hb : EX ca X b eb db) (hc : EX ca X c ec dc)
    (hm : lastMarks [op, op'] [b, c] = false := by with_unfolding_all rfl) : EX ca X (.Compare a [op, op'] [b, c] pos) (ea || (eb || ec)) (dChain f f' da db dc) :=
  PE.imp (pe_chain ho ho' ha hb hc hm) fun σ H Q w => chain_of o o' w
theorem tx_chain {op op' : CmpOp} {r r' : R2} {f f' : T → T → Option T} {da db dc : DE} (ho : OpR X (compareOp op) r) (o : Op2 X ca r f) (ho' : OpR X (compareOp op') r') (o' : Op2 X ca r' f') (ha : EX ca X a ea da) (hb : EX ca X b eb db) (hc : EX ca X c ec dc)
    (hm : lastMarks [op, op'] [b, c] = false := by with_unfolding_all rfl) : TX ca X (.Compare a [op, op'] [b, c] pos) (ea || (eb || ec)) (tOf (dChain f f' da db dc)) :=
  PT.imp (pt_chain ho ho' ha hb hc hm) fun σ H Q w => chain_of o o' (liftT_of w)
end

/-! ### statements -/
def sNil : DS := fun S => some (.nx, S)
def sSeq (a b : DS) : DS := fun S => (a S).bind fun p => match p.1 with
  | .nx => b p.2
  | f => some (f, p.2)
def sBrk : DS := fun S => some (.bk, S)
def sCnt : DS := fun S => some (.ct, S)
def sDrop (d : DE) : DS := fun S => (d S).bind fun p => some (.nx, p.2)
def sRet (d : DE) : DS := fun S => (d S).bind fun p => some (.rt p.1, p.2)
def sRetN : DS := fun S => some (.rt .non, S)
def sIf (c : DT) (a b : DS) : DS := fun S => (c S).bind fun p => if p.1 = true then a p.2 else b p.2
section
variable {X : Cx} {ca : Str → Addr} {e : Expr} {st : Stmt} {rest : List Stmt} {ef : Bool} {pos : Pos}
theorem bx_nil : BX ca X [] sNil := PSs.imp pss_nil fun D σ H w => by
  obtain ⟨G, rfl, g, f, S', e1, k⟩ := w
  cases e1
  exact k G σ rfl g (Step.refl _)
theorem sx_pass : SX ca X (.Pass pos) sNil := PS.imp ps_pass fun D σ H w => by
  obtain ⟨G, rfl, g, f, S', e1, k⟩ := w
  cases e1
  exact k G σ rfl g (Step.refl _)
theorem sx_doc {x : Str} {j : Nat} {pos' : Pos} : SX ca X (.Expr (.Constant (.str x) j pos) pos') sNil := PS.imp ps_doc fun D σ H w => by
  obtain ⟨G, rfl, g, f, S', e1, k⟩ := w
  cases e1
  exact k G σ rfl g (Step.refl _)
theorem sx_brk : SX ca X (.Break pos) sBrk := PS.imp ps_break fun D σ H w => by
  obtain ⟨G, rfl, g, f, S', e1, k⟩ := w
  cases e1
  exact k G σ rfl g (Step.refl _)
theorem sx_cnt : SX ca X (.Continue pos) sCnt := PS.imp ps_continue fun D σ H w => by
  obtain ⟨G, rfl, g, f, S', e1, k⟩ := w
  cases e1
  exact k G σ rfl g (Step.refl _)
theorem bx_cons {d1 d2 : DS} (h1 : SX ca X st d1) (h2 : BX ca X rest d2) : BX ca X (st :: rest) (sSeq d1 d2) := PSs.imp (pss_cons h1 h2) fun D σ H w => by
  obtain ⟨G, rfl, g, f, S', e1, k⟩ := w
  obtain ⟨p, h3, e1⟩ := Option.bind_eq_some_iff.mp e1
  refine ⟨G, rfl, g, p.1, p.2, h3, fun G1 σ1 a1 a2 a3 => ?_⟩
  split at e1
  · rename_i hp
    rw [hp]
    refine ⟨G1, rfl, a2, f, S', by rw [a1]; exact e1, fun G2 σ2 b1 b2 b3 => ?_⟩
    have k2 := k G2 σ2 b1 b2 (a3.trans b3)
    cases f with
    | nx => exact k2
    | bk => exact k2
    | ct => exact k2
    | rt t => exact fun v gv m n => k2 v gv m (n.step a3)
  · rename_i ff hp
    cases e1
    have k2 := k G1 σ1 a1 a2 a3
    cases q : p.1 with
    | nx => exact absurd q hp
    | bk => rw [q] at k2; exact k2
    | ct => rw [q] at k2; exact k2
    | rt t => rw [q] at k2; exact k2
theorem bx_one {d : DS} (h1 : SX ca X st d) : BX ca X [st] d := pss_one h1
theorem sx_expr {d : DE} (h : EX ca X e ef d) (hs : swapsWith e none pos.line X.env = pure false := by rfl) : SX ca X (.Expr e pos) (sDrop d) := PS.imp (ps_expr h hs) fun D σ H w => by
  obtain ⟨G, rfl, g, f, S', e1, k⟩ := w
  obtain ⟨p, h3, e1⟩ := Option.bind_eq_some_iff.mp e1
  cases e1
  exact ⟨G, rfl, g, p.1, p.2, h3, fun G1 v gv a1 a2 a3 a4 a5 => k G1 σ a1 a2 a3.loud⟩
theorem sx_ret {d : DE} (h : EX ca X e ef d) : SX ca X (.Return (some e) pos) (sRet d) := PS.imp (ps_ret h) fun D σ H w => by
  obtain ⟨G, rfl, g, f, S', e1, k⟩ := w
  obtain ⟨p, h3, e1⟩ := Option.bind_eq_some_iff.mp e1
  cases e1
  exact ⟨G, rfl, g, p.1, p.2, h3, fun G1 v gv a1 a2 a3 a4 a5 => k G1 σ a1 a2 a3.loud v gv a4 a5⟩
theorem sx_retN : SX ca X (.Return none pos) sRetN := PS.imp ps_retN fun D σ H w => by
  obtain ⟨G, rfl, g, f, S', e1, k⟩ := w
  cases e1
  exact k G σ rfl g (Step.refl _) .non [] (.bare ⟨rfl, rfl⟩) New.nil
theorem sx_if {c : Expr} {a b : List Stmt} {dc : DT} {d1 d2 : DS} (hc : TX ca X c ef dc) (ha : BX ca X a d1) (hb : BX ca X b d2) : SX ca X (.If c a b pos) (sIf dc d1 d2) := PS.imp (ps_if hc ha hb) fun D σ H w => by
  obtain ⟨G, rfl, g, f, S', e1, k⟩ := w
  obtain ⟨p, h3, e1⟩ := Option.bind_eq_some_iff.mp e1
  refine ⟨G, rfl, g, p.1, p.2, h3, fun G1 a1 a2 a3 => ?_⟩
  have fin : ∀ d : DS, d p.2 = some (f, S') → liftS X.K ca d D σ G1.H := fun d h => ⟨G1, rfl, a2, f, S', by rw [a1]; exact h, fun G2 σ2 b1 b2 b3 => by
    have k2 := k G2 σ2 b1 b2 (a3.loud.trans b3)
    cases f with
    | nx => exact k2
    | bk => exact k2
    | ct => exact k2
    | rt t => exact fun v gv m n => k2 v gv m (n.step a3)⟩
  split at e1
  · rename_i hp
    show if p.1 = true then _ else _
    rw [if_pos hp]
    exact fin d1 e1
  · rename_i hp
    show if p.1 = true then _ else _
    rw [if_neg hp]
    exact fin d2 e1
/-- a way that is not gone -/
def sNev : DS := fun _ => none
theorem sx_nev : SX ca X st sNev := PS.imp ps_never fun D σ H w => by
  obtain ⟨G, rfl, g, f, S', e1, k⟩ := w
  cases e1
theorem bx_nev {sts : List Stmt} : BX ca X sts sNev := PSs.imp pss_never fun D σ H w => by
  obtain ⟨G, rfl, g, f, S', e1, k⟩ := w
  cases e1

/-! ### targets -/
abbrev DG := T → SS → Option SS
def gNm (i : Nat) : DG := fun t S => if i < S.1.length then some (setS S i (some t)) else none
def gTp : List DG → T → SS → Option SS
  | gs, .tup ts, S => gAll gs ts S
  | _, _, _ => none
where gAll : List DG → List T → SS → Option SS
  | [], [], S => some S
  | g :: gs, t :: ts, S => (g t S).bind fun S' => gAll gs ts S'
  | _, _, _ => none
section
variable (K : PySem.W.Frag)
def liftG (ca : Str → Addr) (is : List Nat) (d : DG) : TG := fun v σ H Q => ∃ (G : Gh) (t : T) (g : List Addr), G.H = H ∧ Good K ca σ G ∧ Tmp G v t g ∧ ∃ S', d t G.S = some S' ∧ ∀ G' σ', G'.S = S' → Good K ca σ' G' → (∀ G0 ef, Step ef G0 G → New G0 g → Step true G0 G') → (∀ v2 t2 g2, Tmp G v2 t2 g2 → (∀ a ∈ g2, a ∉ g) → Tmp G' v2 t2 g2) → (∀ vs, (∀ i ∈ is, i ∈ vs) → wipe σ' vs = wipe σ vs) → Q σ' G'.H
def liftGs (ca : Str → Addr) (is : List Nat) (d : List T → SS → Option SS) : TGs := fun vs σ H Q => ∃ (G : Gh) (ts : List T) (g : List Addr), G.H = H ∧ Good K ca σ G ∧ Reps G.toHc ts vs g ∧ g.Nodup ∧ (∀ a ∈ g, (∀ k, a ∉ G.fp k) ∧ a ∉ G.ad ∧ G.P a = none) ∧ ∃ S', d ts G.S = some S' ∧
  ∀ G' σ', G'.S = S' → Good K ca σ' G' → (∀ G0 ef, Step ef G0 G → New G0 g → Step true G0 G') → (∀ v2 t2 g2, Tmp G v2 t2 g2 → (∀ a ∈ g2, a ∉ g) → Tmp G' v2 t2 g2) → (∀ vs, (∀ i ∈ is, i ∈ vs) → wipe σ' vs = wipe σ vs) → Q σ' G'.H
end
abbrev GX (ca : Str → Addr) (X : Cx) (e : Expr) (is : List Nat) (d : DG) : Prop := PG X e (liftG X.K ca is d)
abbrev GsX (ca : Str → Addr) (X : Cx) (e : List Expr) (is : List Nat) (d : List DG) : Prop := PGs X e (liftGs X.K ca is (gTp.gAll d))
theorem wipe_set {σ : L2.St} {i : Nat} {x : Option V} : ∀ {vs : List Nat}, i ∈ vs → wipe (σ.set i x) vs = wipe σ vs
  | [], m => absurd m (by simp)
  | v :: vs, m => by
    show (wipe (σ.set i x) vs).set v none = (wipe σ vs).set v none
    by_cases h : i ∈ vs
    · rw [wipe_set h]
    · have e : v = i := by
        rcases List.mem_cons.mp m with e | m
        · exact e.symm
        · exact absurd m h
      subst e
      have sw : ∀ ws : List Nat, v ∉ ws → wipe (σ.set v x) ws = (wipe σ ws).set v x := by
        intro ws
        induction ws with
        | nil => intro _; rfl
        | cons w ws ih =>
          intro n
          have n2 : v ≠ w ∧ v ∉ ws := by simpa using n
          show (wipe (σ.set v x) ws).set w none = ((wipe σ ws).set w none).set v x
          rw [ih n2.2, List.set_comm _ _ n2.1]
      rw [sw vs h, List.set_set]
theorem PG.imp {X : Cx} {e : Expr} {t t' : TG} (h : PG X e t) (i : ∀ v σ H Q, t' v σ H Q → t v σ H Q) : PG X e t' := ⟨fun pins s σ H v u Q I r w => h.run pins s σ H v u Q I r (i v σ H Q w)⟩
theorem PGs.imp {X : Cx} {e : List Expr} {t t' : TGs} (h : PGs X e t) (i : ∀ v σ H Q, t' v σ H Q → t v σ H Q) : PGs X e t' := ⟨fun pins s σ H v u Q I r w => h.run pins s σ H v u Q I r (i v σ H Q w)⟩
theorem Tmp.put {G : Gh} {v : V} {t : T} {g : List Addr} (m : Tmp G v t g) {i : Nat} {o : Option T} {gi : List Addr} (h : ∀ a ∈ g, a ∉ gi) : Tmp (G.put i o gi) v t g := ⟨m.rep, m.nd, fun a q => by
  obtain ⟨h1, h2, h3⟩ := m.out a q
  refine ⟨fun k z => ?_, h2, h3⟩
  by_cases e : k = .s i
  · subst e; rw [Gh.put_s] at z; exact h a q z
  · rw [Gh.put_ne e] at z; exact h1 k z⟩
theorem gx_name {i : Nat} {x : Str} (hN : X.N.Nodup) (hi : X.N[i]? = some x) (hx : Loc X.env.scope x) (hf : X.fn x = true ∨ X.env.scope.names.lookup x = some .local := by first | exact .inl rfl | exact .inr rfl | assumption) : GX ca X (.Name x pos) [i] (gNm i) :=
  PG.imp (pg_name hN hi hx hf) fun v σ H Q w => by
    obtain ⟨G, t, gt, rfl, g, m, S', e1, k⟩ := w
    unfold gNm at e1
    split at e1
    · rename_i hl
      cases e1
      have hl : i < σ.length := by rw [← g.len]; exact hl
      obtain ⟨g2, s2⟩ := g.store hl m
      exact k (G.put i (some t) gt) _ rfl g2 s2 (fun v2 t2 g2 m2 ap => m2.put ap) fun vs h => wipe_set (h i (by simp))
    · cases e1
theorem gsx_nil : GsX ca X [] [] [] := PGs.imp pgs_nil fun vs σ H Q w => by
  obtain ⟨G, ts, gt, rfl, g, r, nd, out, S', e1, k⟩ := w
  cases ts with
  | nil =>
    cases e1
    obtain ⟨rfl, rfl⟩ := r
    exact ⟨rfl, k G σ rfl g (fun G0 ef s _ => s.loud) (fun v2 t2 g2 m _ => m) fun _ _ => rfl⟩
  | cons t ts => cases e1
theorem gsx_cons {es : List Expr} {d : DG} {ds : List DG} {i1 i2 : List Nat} (h1 : GX ca X e i1 d) (h2 : GsX ca X es i2 ds) (hs : (assignEach (e :: es) X.env).map (·.2) = assign e X.env :: (assignEach es X.env).map (·.2) := by rfl) : GsX ca X (e :: es) (i1 ++ i2) (d :: ds) :=
  PGs.imp (pgs_cons h1 h2 hs) fun vs σ H Q w => by
    obtain ⟨G, ts, gt, rfl, g, r, nd, out, S', e1, k⟩ := w
    cases ts with
    | nil => cases e1
    | cons t ts =>
      obtain ⟨S1, h3, e1⟩ := Option.bind_eq_some_iff.mp (show (d t G.S).bind (fun S' => gTp.gAll ds ts S') = some S' from e1)
      obtain ⟨v, r', ga, gb, rfl, rfl, rt, rr⟩ := r
      have nda := (List.nodup_append.mp nd)
      have ap : ∀ a ∈ gb, a ∉ ga := fun a m m' => nda.2.2 a m' a m rfl
      refine ⟨v, r', rfl, G, t, ga, rfl, g, ⟨rt, nda.1, fun a m => out a (List.mem_append_left _ m)⟩, S1, h3, fun G1 σ1 a1 a2 a3 a4 a5 => ?_⟩
      -- the rest, as it stands behind
      have each : ∀ (us : List T) (ws : List V) (gg : List Addr), Reps G.toHc us ws gg → gg.Nodup → (∀ a ∈ gg, a ∉ ga) → (∀ a ∈ gg, (∀ k, a ∉ G.fp k) ∧ a ∉ G.ad ∧ G.P a = none) → Reps G1.toHc us ws gg := by
        intro us
        induction us with
        | nil => intro ws gg r _ _ _; exact r
        | cons u us ih =>
          intro ws gg r nd ap out
          obtain ⟨v, r', g1, g2, rfl, rfl, h1, h2⟩ := r
          have n2 := List.nodup_append.mp nd
          exact ⟨v, r', g1, g2, rfl, rfl, (a4 v u g1 ⟨h1, n2.1, fun a m => out a (List.mem_append_left _ m)⟩ fun a m => ap a (List.mem_append_left _ m)).rep, ih r' g2 h2 n2.2.1 (fun a m => ap a (List.mem_append_right _ m)) fun a m => out a (List.mem_append_right _ m)⟩
      have outs : ∀ (us : List T) (ws : List V) (gg : List Addr), Reps G.toHc us ws gg → gg.Nodup → (∀ a ∈ gg, a ∉ ga) → (∀ a ∈ gg, (∀ k, a ∉ G.fp k) ∧ a ∉ G.ad ∧ G.P a = none) → ∀ a ∈ gg, (∀ k, a ∉ G1.fp k) ∧ a ∉ G1.ad ∧ G1.P a = none := by
        intro us
        induction us with
        | nil => intro ws gg r _ _ _ a m; rw [r.2] at m; exact absurd m (by simp)
        | cons u us ih =>
          intro ws gg r nd ap out a m
          obtain ⟨v, r', g1, g2, rfl, rfl, h1, h2⟩ := r
          have n2 := List.nodup_append.mp nd
          rcases List.mem_append.mp m with m | m
          · exact (a4 v u g1 ⟨h1, n2.1, fun a m => out a (List.mem_append_left _ m)⟩ fun a m => ap a (List.mem_append_left _ m)).out a m
          · exact ih r' g2 h2 n2.2.1 (fun a m => ap a (List.mem_append_right _ m)) (fun a m => out a (List.mem_append_right _ m)) a m
      have outb : ∀ a ∈ gb, (∀ k, a ∉ G.fp k) ∧ a ∉ G.ad ∧ G.P a = none := fun a m => out a (List.mem_append_right _ m)
      refine ⟨G1, ts, gb, rfl, a2, each ts r' gb rr nda.2.1 ap outb, nda.2.1, outs ts r' gb rr nda.2.1 ap outb, S', by rw [a1]; exact e1, fun G2 σ2 b1 b2 b3 b4 b5 => ?_⟩
      exact k G2 σ2 b1 b2 (fun G0 ef s n => b3 G0 true (a3 G0 ef s fun a m => n a (List.mem_append_left _ m)) fun a m => n a (List.mem_append_right _ m)) (fun v2 t2 g2 m ap2 => b4 v2 t2 g2 (a4 v2 t2 g2 m fun a q => fun z => ap2 a q (List.mem_append_left _ z)) fun a q => fun z => ap2 a q (List.mem_append_right _ z)) fun vs h => (b5 vs fun i m => h i (List.mem_append_right _ m)).trans (a5 vs fun i m => h i (List.mem_append_left _ m))
theorem gx_tup {es : List Expr} {kk : Nat} {ds : List DG} {is : List Nat} {n : Nat} (hc : X.calm = true) (h : GsX ca X es is ds) (hl : ds.length = n := by rfl)
    (hn : (assignEach es X.env).length = n := by rfl) (hst : (assignEach es X.env).findIdx? (·.1) = none := by rfl) : GX ca X (.Tuple es kk pos) is (gTp ds) :=
  PG.imp (pg_tup hc h hn hst) fun v σ H Q w => by
    obtain ⟨G, t, gt, rfl, g, m, S', e1, k⟩ := w
    cases t with
    | tup ts =>
      have e1 : gTp.gAll ds ts G.S = some S' := e1
      obtain ⟨p, vs, rfl, a1, r⟩ := Rep.tupT g.fp g.ph m.rep
      have hK : G.K = X.K := g.k
      have len : ∀ (ds : List DG) (ts : List T) (S S' : SS), gTp.gAll ds ts S = some S' → ts.length = ds.length := by
        intro ds
        induction ds with
        | nil => intro ts S S' e; cases ts with
          | nil => rfl
          | cons t ts => cases e
        | cons d ds ih => intro ts S S' e; cases ts with
          | nil => cases e
          | cons t ts =>
            obtain ⟨S1, h3, e1⟩ := Option.bind_eq_some_iff.mp (show (d t S).bind (fun S' => gTp.gAll ds ts S') = some S' from e)
            rw [List.length_cons, List.length_cons, ih ts S1 S' e1]
      exact ⟨p, vs, rfl, hK ▸ a1, by rw [r.len, len _ _ _ _ e1, hl], G, ts, gt, rfl, g, r, m.nd, m.out, S', e1, k⟩
    | _ => cases e1
/-! target = value -/
def sAsg (d : DE) (g : DG) : DS := fun S => (d S).bind fun p => (g p.1 p.2).bind fun S' => some (.nx, S')
theorem sx_asg {tg : Expr} {d : DE} {dg : DG} {is : List Nat} (h : EX ca X e ef d) (hg : GX ca X tg is dg) (hs : swapsWithSole [tg] e pos.line X.env = pure false := by rfl) (hw : swappedStores [tg] e X.env = pure none := by rfl)
    (h1 : (assignEach [tg] X.env).map (·.2) = [assign tg X.env] := by rfl) : SX ca X (.Assign [tg] e pos) (sAsg d dg) := PS.imp (ps_asg h hg hs hw h1) fun D σ H w => by
  obtain ⟨G, rfl, g, f, S', e1, k⟩ := w
  obtain ⟨p, h3, e1⟩ := Option.bind_eq_some_iff.mp e1
  obtain ⟨S2, h4, e1⟩ := Option.bind_eq_some_iff.mp e1
  cases e1
  exact ⟨G, rfl, g, p.1, p.2, h3, fun G1 v gv a1 a2 a3 a4 a5 => ⟨G1, p.1, gv, rfl, a2, a4, _, by rw [a1]; exact h4, fun G2 σ2 b1 b2 b3 _ _ => k G2 σ2 b1 b2 (b3 G ef a3 a5)⟩⟩
theorem sx_set {i : Nat} {x : Str} {d : DE} {pos' : Pos} (hN : X.N.Nodup) (hi : X.N[i]? = some x) (hx : Loc X.env.scope x) (h : EX ca X e ef d) (hs : swapsWith e (some (.Name x pos')) pos.line X.env = pure false := by rfl)
    (hf : X.fn x = true ∨ X.env.scope.names.lookup x = some .local := by first | exact .inl rfl | exact .inr rfl | assumption) : SX ca X (.Assign [.Name x pos'] e pos) (sAsg d (gNm i)) := PS.imp (ps_set hN hi hx h hs hf) fun D σ H w => by
  obtain ⟨G, rfl, g, f, S', e1, k⟩ := w
  obtain ⟨p, h3, e1⟩ := Option.bind_eq_some_iff.mp e1
  obtain ⟨S2, h4, e1⟩ := Option.bind_eq_some_iff.mp e1
  cases e1
  refine ⟨G, rfl, g, p.1, p.2, h3, fun G1 v gv a1 a2 a3 a4 a5 => ?_⟩
  unfold gNm at h4
  split at h4
  · rename_i hl
    cases h4
    have hl : i < σ.length := by
      have e2 : G1.τ.length = p.2.1.length := by rw [← a1]
      rw [← a2.len, e2]; exact hl
    obtain ⟨g2, s2⟩ := a2.store hl a4
    refine k (G1.put i (some p.1) gv) _ ?_ g2 (s2 G ef a3 a5)
    show (G1.τ.set i (some p.1), G1.O) = setS p.2 i (some p.1)
    rw [← a1] <;> rfl
  · cases h4
end
end TL

set_option Elab.async false
set_option linter.all false
set_option maxRecDepth 100000
/-! TL7: what is walked; for, while; comprehensions. -/
namespace TL
open PySem PySem.Spec L2

abbrev DI := SS → Option (List T × SS)
/-- the iterator J yields the trees ts, whatever is done meanwhile -/
def Walks (K : PySem.W.Frag) (ca : Str → Addr) (J : It) (ts : List T) (G : Gh) : Prop := ∀ (G' : Gh) (σ : L2.St), Good K ca σ G' → Step true G G' →
  (∀ (i : Nat) (t : T), ts[i]? = some t → J.go i G'.H ∧ ∀ x H'', J.yld i G'.H x H'' → ∃ G'', G''.H = H'' ∧ G''.S = G'.S ∧ Good K ca σ G'' ∧ Step false G' G'' ∧ Tmp G'' x t []) ∧ J.stop ts.length G'.H
section
variable (K : PySem.W.Frag)
def liftI (ca : Str → Addr) (ef : Bool) (d : DI) : TI := fun σ H R => ∃ G : Gh, G.H = H ∧ Good K ca σ G ∧ ∃ ts S', d G.S = some (ts, S') ∧ ∀ G' J, G'.S = S' → Good K ca σ G' → Step ef G G' → Walks K ca J ts G' → R J G'.H
end
abbrev IX (ca : Str → Addr) (X : Cx) (tg e : Expr) (ef : Bool) (d : DI) : Prop := PI X tg e (liftI X.K ca ef d)
theorem PI.imp {X : Cx} {tg e : Expr} {t t' : TI} (h : PI X tg e t) (i : ∀ σ H Q, t' σ H Q → t σ H Q) : PI X tg e t' := ⟨fun pins s σ H R I w => h.run pins s σ H R I (i σ H R w)⟩

/-! ### for -/
def forGo (g : DG) (b : DS) : List T → SS → Option (Fl × SS)
  | [], S => some (.nx, S)
  | t :: ts, S => (g t S).bind fun S1 => (b S1).bind fun q => match q.1 with
    | .nx => forGo g b ts q.2
    | .ct => forGo g b ts q.2
    | .bk => some (.nx, q.2)
    | .rt r => some (.rt r, q.2)
def sFor (d : DI) (g : DG) (b : DS) : DS := fun S => (d S).bind fun p => forGo g b p.1 p.2
def whGo (c : DT) (b : DS) : Nat → SS → Option (Fl × SS)
  | 0, _ => none
  | n + 1, S => (c S).bind fun p => if p.1 = true then (b p.2).bind fun q => match q.1 with
      | .nx => whGo c b n q.2
      | .ct => whGo c b n q.2
      | .bk => some (.nx, q.2)
      | .rt r => some (.rt r, q.2)
    else some (.nx, p.2)
def sWhile (n : Nat) (c : DT) (b : DS) : DS := whGo c b n
section
variable {X : Cx} {ca : Str → Addr} {ef : Bool} {pos : Pos}
theorem sx_for {tg iter : Expr} {body : List Stmt} {d : DI} {dg : DG} {is : List Nat} {db : DS} (hp : PassesOwn (model X.prog X.w) X.A X.env X.xe) (hc : X.calm = true) (hi : IX ca X tg iter ef d) (hg : GX ca X tg is dg) (hb : BX ca X body db)
    (hs : ∀ x, foldedSetIterable iter X.env x = pure x := by intro _; rfl) : SX ca X (.For tg iter body [] pos) (sFor d dg db) := PS.imp (ps_for hp hc hi hg hb hs) fun D σ H w => by
  obtain ⟨G, rfl, g, f, S', e1, k⟩ := w
  obtain ⟨p, h3, e1⟩ := Option.bind_eq_some_iff.mp e1
  refine ⟨G, rfl, g, p.1, p.2, h3, fun G1 J a1 a2 a3 wk => ?_⟩
  refine ⟨fun i m σ' H' => ∃ G', G'.H = H' ∧ Good X.K ca σ' G' ∧ Step true G1 G' ∧ m = p.1.length - i ∧ i ≤ p.1.length ∧ forGo dg db (p.1.drop i) G'.S = some (f, S'), ⟨p.1.length, G1, rfl, a2, Step.refl _, by simp, Nat.zero_le _, by rw [a1, List.drop_zero]; exact e1⟩, ?_⟩
  rintro i m σ' H' ⟨G', rfl, gg, st, rfl, hi, e⟩
  obtain ⟨w1, w2⟩ := wk G' σ' gg st
  by_cases hlt : i < p.1.length
  · right
    have ht : p.1[i]? = some p.1[i] := List.getElem?_eq_getElem hlt
    obtain ⟨go, yl⟩ := w1 i _ ht
    rw [List.drop_eq_getElem_cons hlt] at e
    obtain ⟨S1, e2, e⟩ := Option.bind_eq_some_iff.mp (show (dg p.1[i] G'.S).bind _ = some (f, S') from e)
    obtain ⟨q, e3, e⟩ := Option.bind_eq_some_iff.mp e
    refine ⟨go, fun σ'' H'' => ∃ G'', G''.H = H'' ∧ Good X.K ca σ'' G'' ∧ Step true G1 G'' ∧ forGo dg db (p.1.drop (i + 1)) G''.S = some (f, S'), fun σ'' H'' ⟨G'', b1, b2, b3, b4⟩ => ⟨p.1.length - (i + 1), by omega, G'', b1, b2, b3, rfl, hlt, b4⟩, fun x H'' y => ?_⟩
    obtain ⟨G2, rfl, b1, b2, b3, b4⟩ := yl x H'' y
    refine ⟨G2, p.1[i], [], rfl, b2, b4, S1, by rw [b1]; exact e2, fun G3 σ3 c1 c2 c3 _ _ => ?_⟩
    have st3 : Step true G1 G3 := c3 G1 true (st.trans b3) New.nil
    refine ⟨G3, rfl, c2, q.1, q.2, by rw [c1]; exact e3, fun G4 σ4 d1 d2 d3 => ?_⟩
    have st4 : Step true G1 G4 := st3.trans d3
    cases hq : q.1 with
    | nx => rw [hq] at e; exact ⟨G4, rfl, d2, st4, by rw [d1]; exact e⟩
    | ct => rw [hq] at e; exact ⟨G4, rfl, d2, st4, by rw [d1]; exact e⟩
    | bk =>
      rw [hq] at e
      cases e
      exact k G4 σ4 d1 d2 (a3.loud.trans st4)
    | rt r =>
      rw [hq] at e
      cases e
      exact fun v gv m n => k G4 σ4 d1 d2 (a3.loud.trans st4) v gv m (n.step (a3.loud.trans st3))
  · left
    have e0 : i = p.1.length := by omega
    subst e0
    rw [List.drop_length] at e
    cases e
    exact ⟨w2, k G' σ' rfl gg (a3.loud.trans st)⟩
theorem sx_while {n : Nat} {c : Expr} {body : List Stmt} {dc : DT} {db : DS} (hp : PassesOwn (model X.prog X.w) X.A X.env X.xe) (hc : TX ca X c ef dc) (hb : BX ca X body db) : SX ca X (.While c body [] pos) (sWhile n dc db) := PS.imp (ps_while hp hc hb) fun D σ H w => by
  obtain ⟨G, rfl, g, f, S', e1, k⟩ := w
  refine ⟨fun m σ' H' => ∃ G', G'.H = H' ∧ Good X.K ca σ' G' ∧ Step true G G' ∧ whGo dc db m G'.S = some (f, S'), ⟨n, G, rfl, g, Step.refl _, e1⟩, ?_⟩
  rintro m σ' H' ⟨G', rfl, gg, st, e⟩
  cases m with
  | zero => cases e
  | succ m =>
    obtain ⟨p, h3, e⟩ := Option.bind_eq_some_iff.mp (show (dc G'.S).bind _ = some (f, S') from e)
    refine ⟨G', rfl, gg, p.1, p.2, h3, fun G1 a1 a2 a3 => ?_⟩
    have st1 : Step true G G1 := st.trans a3
    split at e
    · rename_i hp
      show if p.1 = true then _ else _
      rw [if_pos hp]
      obtain ⟨q, e3, e⟩ := Option.bind_eq_some_iff.mp e
      refine ⟨fun σ'' H'' => ∃ G'', G''.H = H'' ∧ Good X.K ca σ'' G'' ∧ Step true G G'' ∧ whGo dc db m G''.S = some (f, S'), fun σ'' H'' ⟨G'', b1, b2, b3, b4⟩ => ⟨m, Nat.lt_succ_self m, G'', b1, b2, b3, b4⟩, ?_⟩
      refine ⟨G1, rfl, a2, q.1, q.2, by rw [a1]; exact e3, fun G4 σ4 d1 d2 d3 => ?_⟩
      have st4 : Step true G G4 := st1.trans d3
      cases hq : q.1 with
      | nx => rw [hq] at e; exact ⟨G4, rfl, d2, st4, by rw [d1]; exact e⟩
      | ct => rw [hq] at e; exact ⟨G4, rfl, d2, st4, by rw [d1]; exact e⟩
      | bk =>
        rw [hq] at e
        cases e
        exact k G4 σ4 d1 d2 st4
      | rt r =>
        rw [hq] at e
        cases e
        exact fun v gv m n => k G4 σ4 d1 d2 st4 v gv m (n.step st1)
    · rename_i hp
      show if p.1 = true then _ else _
      rw [if_neg hp]
      cases e
      exact k G1 σ' a1 a2 st1
end

/-! ### comprehensions -/
def wipeS (S : SS) (own : List Nat) : SS := (own.foldl (fun τ i => τ.set i none) S.1, S.2)
def lcGo (own : List Nat) (g : DG) (tt : DT) (te : DE) : List T → List T → SS → Option (List T × SS)
  | [], acc, S => some (acc, S)
  | t :: ts, acc, S => (g t S).bind fun S1 => (tt S1).bind fun p => if p.1 = true then (te p.2).bind fun q => if acc.length < sizeLine then lcGo own g tt te ts (acc ++ [q.1]) (wipeS q.2 own) else none
      else lcGo own g tt te ts acc (wipeS p.2 own)
def dLc (own : List Nat) (d : DI) (g : DG) (tt : DT) (te : DE) : DE := fun S => (d S).bind fun p => (lcGo own g tt te p.1 [] (wipeS p.2 own)).bind fun q => some (.lst .ow q.1, q.2)
def tYesD : DT := fun S => some (true, S)
section
variable {K : PySem.W.Frag} {ca : Str → Addr} {σ : L2.St} {G : Gh}
/-- a slot that bears nothing may hold anything -/
theorem Good.any (g : Good K ca σ G) {i : Nat} {x : Option V} (h : ∀ t, G.τ[i]? ≠ some (some t)) : Good K ca (σ.set i x) G := by
  refine { g with len := (by rw [List.length_set]; exact g.len), sl := fun j t e => ?_ }
  obtain ⟨v, a, r⟩ := g.sl j t e
  refine ⟨v, ?_, r⟩
  rw [List.getElem?_set_ne (fun z => h t (by rw [z]; exact e))]
  exact a
/-- slots forgotten: in the trees, then in the values -/
theorem Good.wipes : ∀ (vs : List Nat) {G : Gh} {σ : L2.St}, Good K ca σ G → ∃ G', G'.H = G.H ∧ G'.S = wipeS G.S vs ∧ Good K ca σ G' ∧ Step true G G' ∧ (∀ v t g, Tmp G v t g → Tmp G' v t g) ∧ ∀ i ∈ vs, ∀ t, G'.τ[i]? ≠ some (some t)
  | [], G, σ, g => ⟨G, rfl, rfl, g, Step.refl _, fun _ _ _ m => m, fun _ m => absurd m (by simp)⟩
  | i :: vs, G, σ, g => by
    obtain ⟨g1, s1⟩ := g.drop i
    obtain ⟨G', a1, a2, a3, a4, a5, a6⟩ := Good.wipes vs g1
    refine ⟨G', a1, a2, a3, s1.trans a4, fun v t gg m => a5 v t gg (m.put fun _ _ => by simp), fun j m t => ?_⟩
    rcases List.mem_cons.mp m with e | m
    · subst e
      by_cases h : j ∈ vs
      · exact a6 j h t
      · have q : G'.τ = vs.foldl (fun τ i => τ.set i none) (G.τ.set j none) := congrArg Prod.fst a2
        have keep : ∀ (ws : List Nat) (τ : List (Option T)), (∀ t, τ[j]? ≠ some (some t)) → ∀ t, (ws.foldl (fun τ i => τ.set i none) τ)[j]? ≠ some (some t) := by
          intro ws
          induction ws with
          | nil => intro τ h; exact h
          | cons w ws ih =>
            intro τ h
            refine ih (τ.set w none) fun t e => ?_
            rcases setAt e with ⟨_, z, _⟩ | ⟨_, z⟩
            · cases z
            · exact h t z
        rw [q]
        refine keep vs _ (fun t e => ?_) t
        rcases setAt e with ⟨_, z, _⟩ | ⟨z, _⟩
        · cases z
        · exact z rfl
    · exact a6 j m t
theorem Good.wiped {vs : List Nat} (g : Good K ca σ G) (h : ∀ i ∈ vs, ∀ t, G.τ[i]? ≠ some (some t)) : Good K ca (wipe σ vs) G := by
  induction vs with
  | nil => exact g
  | cons v vs ih =>
    show Good K ca ((wipe σ vs).set v none) G
    exact (ih fun i m => h i (List.mem_cons_of_mem _ m)).any (h v (by simp))
theorem wipe_off {σ : L2.St} {i : Nat} : ∀ {vs : List Nat}, i ∉ vs → (wipe σ vs)[i]? = σ[i]? := fun h => L2.wipe_out h
/-- back to the values ahead of the wiping -/
theorem Good.unwipe {vs : List Nat} (g : Good K ca (wipe σ vs) G) (h : ∀ i ∈ vs, ∀ t, G.τ[i]? ≠ some (some t)) : Good K ca σ G := by
  refine { g with len := (by rw [g.len, wipe_length]), sl := fun j t e => ?_ }
  obtain ⟨v, a, r⟩ := g.sl j t e
  refine ⟨v, ?_, r⟩
  rw [wipe_off fun m => h j m t e] at a
  exact a
theorem wipe_idem {σ : L2.St} {own : List Nat} : ∀ ws : List Nat, (∀ i ∈ ws, i ∈ own) → wipe (wipe σ own) ws = wipe σ own
  | [], _ => rfl
  | w :: ws, h => by
    show (wipe (wipe σ own) ws).set w none = wipe σ own
    rw [wipe_idem ws fun i m => h i (List.mem_cons_of_mem _ m)]
    refine List.ext_getElem? fun j => ?_
    by_cases ej : w = j
    · subst ej
      by_cases lj : w < (wipe σ own).length
      · rw [List.getElem?_set_self lj]
        cases q : (wipe σ own)[w]? with
        | none => exact absurd (List.getElem?_eq_none_iff.mp q) (by omega)
        | some o =>
          cases o with
          | none => rfl
          | some v => exact absurd (h w (by simp)) (wipe_some q).2
      · rw [List.getElem?_eq_none (by simpa using lj), List.getElem?_eq_none (by simpa using lj)]
    · rw [List.getElem?_set_ne ej]
/-- the object at an address that nobody here holds, written -/
def Gh.setH (G : Gh) (p : Addr) (o : HO) : Gh := { G with H := upd G.H p o }
theorem Good.setH (g : Good K ca σ G) {p : Addr} {o : HO} (h1 : ∀ k, p ∉ G.fp k) (h2 : p ∉ G.ad) (h3 : G.P p = none) : Good K ca σ (G.setH p o) := by
  have ex : ∀ gg : List Addr, p ∉ gg → Ex G.toHc (G.setH p o).toHc gg := fun gg n => ⟨rfl, rfl, Same.refl _, Same.refl _, fun a m u e => by
    show upd G.H p o a = _
    rw [upd_ne fun z => n (by rw [← z]; exact m)]; exact e, ⟨[], by show G.ad = _; simp⟩⟩
  refine { g with ph := g.ph.upd h3, sl := fun i t e => ?_, ob := fun n b e => ?_ }
  · obtain ⟨v, a, r⟩ := g.sl i t e
    exact ⟨v, a, Rep.ex _ _ _ (ex _ (h1 _)) r⟩
  · obtain ⟨q, a, r⟩ := g.ob n b e
    refine ⟨q, a, r.ex (ex _ fun m => ?_)⟩
    rcases List.mem_cons.mp m with z | m
    · subst z; exact h2 (List.mem_of_getElem? a)
    · exact h1 _ m
theorem Step.setH {ef : Bool} {G0 G : Gh} {p : Addr} {o : HO} (s : Step ef G0 G) (hp : G0.H p = none) (hl : ef = true) : Step true G0 (G.setH p o) := { s with
  fr := fun a u e h1 h2 => by
    show upd G.H p o a = _
    rw [upd_ne fun z => by rw [z, hp] at e; cases e]
    exact s.fr a u e h1 h2
  dom := fun a e => by
    show upd G.H p o a ≠ none
    by_cases z : a = p
    · rw [z]; exact absurd hp (z ▸ e)
    · rw [upd_ne z]; exact s.dom a e
  q := fun e => by cases e }
end
section
variable {X : Cx} {ca : Str → Addr} {ef et ee : Bool} {pos : Pos}
abbrev TsX (ca : Str → Addr) (X : Cx) (es : List Expr) (ef : Bool) (d : DT) : Prop := PTs X es (liftT X.K ca ef d)
theorem tsx_nil : TsX ca X [] false tYesD := ⟨fun pins s σ H Q I w => pts_nil.run pins s σ H Q I (by
  obtain ⟨G, rfl, g, b, S', e1, k⟩ := w
  cases e1
  exact k G rfl g (Step.refl _))⟩
theorem tsx_one {c : Expr} {d : DT} (h : TX ca X c ef d) : TsX ca X [c] ef d := pts_one h
theorem lc_core {K : PySem.W.Frag} {own : List Nat} {dg : DG} {is : List Nat} {dt : DT} {de : DE} (hsub : ∀ i ∈ is, i ∈ own) {σ : L2.St} {Q : VK} {G1 : Gh} {J : It} {ts : List T} {z : List T × SS} (a2 : Good K ca σ G1) (wk : Walks K ca J ts G1)
    (h4 : lcGo own dg dt de ts [] (wipeS G1.S own) = some z) (k : ∀ G' v g, G'.S = z.2 → Good K ca σ G' → Step true G1 G' → Tmp G' v (.lst .ow z.1) g → New G1 g → Q v G'.H) :
    tLc (fun _ H R => R J H) (liftG K ca is dg) (liftT K ca et dt) (liftE K ca ee de) own σ G1.H Q := by
  intro D hD
  -- the own slots forgotten
  obtain ⟨Gw, w1, w2, w3, w4, w5, w6⟩ := Good.wipes own a2
  have hDw : Gw.H D = none := by rw [w1]; exact hD
  -- the invariant
  refine ⟨fun i m H' => ∃ (G' : Gh) (acc : List T) (vs : List V) (ga : List Addr), G'.H = H' ∧ Good K ca (wipe σ own) G' ∧ (∀ i ∈ own, ∀ t, G'.τ[i]? ≠ some (some t)) ∧ Step true G1 G' ∧ H' D = some (.lst vs) ∧ Tmp G' (.ref D) (.lst .ow acc) (D :: ga) ∧ Reps G'.toHc acc vs ga ∧ New G1 ga ∧ m = ts.length - i ∧ i ≤ ts.length ∧ lcGo own dg dt de (ts.drop i) acc G'.S = some z, ⟨ts.length, ?_⟩, ?_⟩
  · obtain ⟨g2, s2⟩ := w3.newH (o := .lst []) hDw
    have r0 : Reps Gw.toHc [] [] [] := ⟨rfl, rfl⟩
    refine ⟨Gw.newH D (.lst []), [], [], [], by show upd Gw.H D _ = _; rw [w1], (g2.wiped (vs := own) w6), w6, w4.trans s2, upd_same, w3.newL hDw r0 List.nodup_nil (fun _ m => absurd m (by simp)), ⟨rfl, rfl⟩, New.nil, by simp, Nat.zero_le _, ?_⟩
    show lcGo own dg dt de (ts.drop 0) [] Gw.S = some z
    rw [w2, List.drop_zero]
    exact h4
  · rintro i m H' ⟨G', acc, vs, ga, rfl, gg, gw, st, hDl, tm, rs, nw, rfl, hi, e⟩
    obtain ⟨wk1, wk2⟩ := wk G' (wipe σ own) gg st
    by_cases hlt : i < ts.length
    · right
      have ht : ts[i]? = some ts[i] := List.getElem?_eq_getElem hlt
      obtain ⟨go, yl⟩ := wk1 i _ ht
      rw [List.drop_eq_getElem_cons hlt] at e
      obtain ⟨S1, e2, e⟩ := Option.bind_eq_some_iff.mp (show (dg ts[i] G'.S).bind _ = some z from e)
      obtain ⟨q, e3, e⟩ := Option.bind_eq_some_iff.mp e
      refine ⟨go, fun H'' => ∃ (G' : Gh) (acc : List T) (vs : List V) (ga : List Addr), G'.H = H'' ∧ Good K ca (wipe σ own) G' ∧ (∀ i ∈ own, ∀ t, G'.τ[i]? ≠ some (some t)) ∧ Step true G1 G' ∧ H'' D = some (.lst vs) ∧ Tmp G' (.ref D) (.lst .ow acc) (D :: ga) ∧ Reps G'.toHc acc vs ga ∧ New G1 ga ∧ lcGo own dg dt de (ts.drop (i + 1)) acc G'.S = some z,
        fun H'' ⟨G'', acc', vs', ga', b1, b2, b3, b4, b5, b6, b7, b8, b9⟩ => ⟨ts.length - (i + 1), by omega, G'', acc', vs', ga', b1, b2, b3, b4, b5, b6, b7, b8, rfl, hlt, b9⟩, fun x H'' y => ?_⟩
      obtain ⟨G2, rfl, b1, b2, b3, b4⟩ := yl x H'' y
      refine ⟨G2, ts[i], [], rfl, b2, b4, S1, by rw [b1]; exact e2, fun G3 σ3 c1 c2 c3 c4 c5 => ⟨?_, ?_⟩⟩
      · rw [c5 own hsub]
        exact wipe_idem own fun _ m => m
      · have st2 : Step true G1 G2 := st.trans b3
        have st3 : Step true G1 G3 := c3 G1 true st2 New.nil
        have tm3 : Tmp G3 (.ref D) (.lst .ow acc) (D :: ga) := c4 _ _ _ (tm.step b3) fun _ _ => by simp
        have wσ : wipe σ3 own = wipe σ own := by
          rw [c5 own hsub]
          exact wipe_idem own fun _ m => m
        -- a turn's end: the own slots forgotten again
        have fin : ∀ (G4 : Gh) (acc' : List T) (vs' : List V) (ga' : List Addr), Good K ca σ3 G4 → Step true G1 G4 → G4.H D = some (.lst vs') → Tmp G4 (.ref D) (.lst .ow acc') (D :: ga') → Reps G4.toHc acc' vs' ga' → New G1 ga' → lcGo own dg dt de (ts.drop (i + 1)) acc' (wipeS G4.S own) = some z →
            ∃ (G' : Gh) (acc : List T) (vs : List V) (ga : List Addr), G'.H = G4.H ∧ Good K ca (wipe σ own) G' ∧ (∀ i ∈ own, ∀ t, G'.τ[i]? ≠ some (some t)) ∧ Step true G1 G' ∧ G4.H D = some (.lst vs) ∧ Tmp G' (.ref D) (.lst .ow acc) (D :: ga) ∧ Reps G'.toHc acc vs ga ∧ New G1 ga ∧ lcGo own dg dt de (ts.drop (i + 1)) acc G'.S = some z := by
          intro G4 acc' vs' ga' d1 d2 d3 d4 d5 d6 d7
          obtain ⟨G5, x1, x2, x3, x4, x5, x6⟩ := Good.wipes own d1
          have t5 := x5 _ _ _ d4
          refine ⟨G5, acc', vs', ga', x1, wσ ▸ (x3.wiped x6), x6, d2.trans x4, d3, t5, ?_, d6, by rw [x2]; exact d7⟩
          obtain ⟨pp, vv, gv, u1, u2, u3, u4⟩ := t5.rep
          cases u1
          have u5 : G5.H D = some (.lst vs') := by rw [x1]; exact d3
          have u2 : G5.H D = some (.lst vv) := u2
          rw [u5] at u2
          cases u2
          have u6 : ga' = gv := (List.cons.inj u4).2
          rw [u6]
          exact u3
        refine ⟨G3, rfl, c2, q.1, q.2, by rw [c1]; exact e3, fun G4 d1 d2 d3 => ?_⟩
        have tm4 : Tmp G4 (.ref D) (.lst .ow acc) (D :: ga) := tm3.step d3
        have st4 : Step true G1 G4 := st3.trans d3
        have at4 : ∀ {GG : Gh} {ac : List T} {gg : List Addr}, Tmp GG (.ref D) (.lst .ow ac) (D :: gg) → ∃ vv, GG.H D = some (.lst vv) ∧ Reps GG.toHc ac vv gg := fun {GG ac gg} t => by
          obtain ⟨pp, vv, gv, u1, u2, u3, u4⟩ := t.rep
          cases u1
          have u6 : gg = gv := (List.cons.inj u4).2
          exact ⟨vv, u2, by rw [u6]; exact u3⟩
        split at e
        · rename_i hq
          show if q.1 = true then _ else _
          rw [if_pos hq]
          obtain ⟨y, e5, e⟩ := Option.bind_eq_some_iff.mp e
          split at e
          · rename_i hlen
            refine ⟨G4, rfl, d2, y.1, y.2, by rw [d1]; exact e5, fun G5 v gv f1 f2 f3 f4 f5 => ?_⟩
            have tm5 := tm4.step f3
            have st5 : Step true G1 G5 := st4.trans f3
            obtain ⟨vv, u2, u3⟩ := at4 tm5
            refine ⟨vv, u2, by rw [u3.len]; exact hlen, ?_⟩
            have oD := tm5.out D (by simp)
            have ndD := List.nodup_cons.mp tm5.nd
            have ap := tm4.apart f5
            have DnV : D ∉ gv := ap D (by simp)
            have gaV : ∀ a ∈ ga, a ∉ gv := fun a m => ap a (List.mem_cons_of_mem _ m)
            have g6 := f2.setH (o := .lst (vv ++ [v])) oD.1 oD.2.1 oD.2.2
            have ex : ∀ gg : List Addr, D ∉ gg → Ex G5.toHc (G5.setH D (.lst (vv ++ [v]))).toHc gg := fun gg n => ⟨rfl, rfl, Same.refl _, Same.refl _, fun a m u e => by
              show upd G5.H D _ a = _
              rw [upd_ne fun z => n (by rw [← z]; exact m)]; exact e, ⟨[], by show G5.ad = _; simp⟩⟩
            have r6 : Reps (G5.setH D (.lst (vv ++ [v]))).toHc (acc ++ [y.1]) (vv ++ [v]) (ga ++ gv) := by
              refine (Reps.ex _ _ _ (ex ga ndD.1) u3).append ?_
              exact ⟨v, [], gv, [], rfl, by simp, Rep.ex _ _ _ (ex gv DnV) f4.rep, rfl, rfl⟩
            refine fin (G5.setH D (.lst (vv ++ [v]))) (acc ++ [y.1]) (vv ++ [v]) (ga ++ gv) g6 (st5.setH hD rfl) upd_same ⟨⟨D, _, _, rfl, upd_same, r6, rfl⟩, ?_, ?_⟩ r6 ?_ ?_
            · refine List.nodup_cons.mpr ⟨fun m => ?_, List.nodup_append.mpr ⟨ndD.2, f4.nd, fun a m b m' q => gaV a m (q ▸ m')⟩⟩
              rcases List.mem_append.mp m with m | m
              · exact ndD.1 m
              · exact DnV m
            · intro a m
              rcases List.mem_cons.mp m with e | m
              · rw [e]; exact oD
              · rcases List.mem_append.mp m with m | m
                · exact tm5.out a (List.mem_cons_of_mem _ m)
                · exact f4.out a m
            · intro a m
              rcases List.mem_append.mp m with m | m
              · exact nw a m
              · exact (f5.step st4) a m
            · show lcGo own dg dt de (ts.drop (i + 1)) (acc ++ [y.1]) (wipeS G5.S own) = some z
              rw [f1]; exact e
          · cases e
        · rename_i hq
          show if q.1 = true then _ else _
          rw [if_neg hq]
          obtain ⟨vv, u2, u3⟩ := at4 tm4
          exact fin G4 acc vv ga d2 st4 u2 tm4 u3 nw (by rw [d1]; exact e)
    · left
      have e0 : i = ts.length := by omega
      subst e0
      rw [List.drop_length] at e
      cases e
      exact ⟨wk2, k G' (.ref D) (D :: ga) rfl (gg.unwipe gw) st tm (New.cons hD nw)⟩
theorem lc_of {K : PySem.W.Frag} {own : List Nat} {d : DI} {dg : DG} {is : List Nat} {dt : DT} {de : DE} (hsub : ∀ i ∈ is, i ∈ own) {σ : L2.St} {H : Hp} {Q : VK} (w : liftE K ca true (dLc own d dg dt de) σ H Q) :
    tLc (liftI K ca ef d) (liftG K ca is dg) (liftT K ca et dt) (liftE K ca ee de) own σ H Q := by
  obtain ⟨G, rfl, g, r, S', e1, k⟩ := w
  obtain ⟨p, h3, e1⟩ := Option.bind_eq_some_iff.mp e1
  obtain ⟨z, h4, e1⟩ := Option.bind_eq_some_iff.mp e1
  cases e1
  exact ⟨G, rfl, g, p.1, p.2, h3, fun G1 J a1 a2 a3 wk => lc_core hsub a2 wk (by rw [a1]; exact h4) fun G' v g' b1 b2 b3 b4 b5 => k G' v g' b1 b2 (a3.loud.trans b3) b4 (b5.step a3)⟩
theorem ex_lc {elt tg iter : Expr} {ifs : List Expr} {scope : Scope} {own : List (Str × Nat)} {d : DI} {dg : DG} {is : List Nat} {dt : DT} {de : DE} (hsub : ∀ i ∈ is, i ∈ own.map (·.2)) (hc : X.calm = true) (hN : X.N.Nodup) (hi : IX ca X tg iter ef d) (ok : BlkOk X.N X.env.scope scope own)
    (hg : ∀ (s : Shared) (H : Hp) (C : Addr) (cl : List (Str × Addr)) (fp : List Addr), GX ca (X.blk s H scope (compEnvC scope cl C X.env) fp) tg is dg) (ht : ∀ (s : Shared) (H : Hp) (C : Addr) (cl : List (Str × Addr)) (fp : List Addr), TsX ca (X.blk s H scope (compEnvC scope cl C X.env) fp) ifs et dt)
    (he : ∀ (s : Shared) (H : Hp) (C : Addr) (cl : List (Str × Addr)) (fp : List Addr), EX ca (X.blk s H scope (compEnvC scope cl C X.env) fp) elt ee de) (hs : ∀ x, foldedSetIterable iter X.env x = pure x := by intro _; rfl) :
    EX ca X (.ListComp elt [⟨tg, iter, ifs, 0⟩] scope pos) true (dLc (own.map (·.2)) d dg dt de) :=
  PE.imp (pe_lc hc hN hi ok hg ht he hs) fun σ H Q w => lc_of hsub w
/-- name = [..], the name a local -/
theorem sx_setLc {i : Nat} {y : Str} {py : Pos} {elt tg iter : Expr} {ifs : List Expr} {scope : Scope} {own : List (Str × Nat)} {spos : Pos} {d : DI} {dg : DG} {is : List Nat} {dt : DT} {de : DE} (hsub : ∀ i ∈ is, i ∈ own.map (·.2)) (hc : X.calm = true) (hN : X.N.Nodup) (hy : X.N[i]? = some y) (hyl : X.env.scope.names.lookup y = some .local)
    (hsw : swapsWith (.ListComp elt [⟨tg, iter, ifs, 0⟩] scope pos) (some (.Name y py)) spos.line X.env = pure true) (hi : IX ca X tg iter ef d) (ok : BlkOk X.N X.env.scope scope own)
    (hg : ∀ (s : Shared) (H : Hp) (C : Addr) (cl : List (Str × Addr)) (fp : List Addr), GX ca (X.blk s H scope (compEnvC scope cl C X.env) fp) tg is dg) (ht : ∀ (s : Shared) (H : Hp) (C : Addr) (cl : List (Str × Addr)) (fp : List Addr), TsX ca (X.blk s H scope (compEnvC scope cl C X.env) fp) ifs et dt)
    (he : ∀ (s : Shared) (H : Hp) (C : Addr) (cl : List (Str × Addr)) (fp : List Addr), EX ca (X.blk s H scope (compEnvC scope cl C X.env) fp) elt ee de) (hs : ∀ x, foldedSetIterable iter X.env x = pure x := by intro _; rfl) :
    SX ca X (.Assign [.Name y py] (.ListComp elt [⟨tg, iter, ifs, 0⟩] scope pos) spos) (sAsg (dLc (own.map (·.2)) d dg dt de) (gNm i)) :=
  PS.imp (ps_setLc hc hN hy hyl hsw hi ok hg ht he hs) fun D σ H w => by
    obtain ⟨G, rfl, g, f, S', e1, k⟩ := w
    obtain ⟨p, h3, e1⟩ := Option.bind_eq_some_iff.mp e1
    obtain ⟨S2, h4, e1⟩ := Option.bind_eq_some_iff.mp e1
    cases e1
    refine lc_of (et := et) (ee := ee) hsub ⟨G, rfl, g, p.1, p.2, h3, fun G1 v gv a1 a2 a3 a4 a5 => ?_⟩
    unfold gNm at h4
    split at h4
    · rename_i hl
      cases h4
      have hl : i < σ.length := by
        have e2 : G1.τ.length = p.2.1.length := by rw [← a1]
        rw [← a2.len, e2]; exact hl
      obtain ⟨g2, s2⟩ := a2.store hl a4
      refine k (G1.put i (some p.1) gv) _ ?_ g2 (s2 G true a3 a5)
      show (G1.τ.set i (some p.1), G1.O) = setS p.2 i (some p.1)
      rw [← a1] <;> rfl
    · cases h4
end
end TL

set_option Elab.async false
set_option linter.all false
set_option maxRecDepth 100000
/-! TL8: what loops walk: lists, tuples, texts, ranges, reversed, enumerate, zip. -/
namespace TL
open PySem PySem.Spec L2

section
variable {K : PySem.W.Frag} {ca : Str → Addr} {G : Gh}
theorem tmp_item {G' : Gh} {ts : List T} {vs : List V} {gs : List Addr} (r : Reps G'.toHc ts vs gs) (n : noOws ts = true) {i : Nat} {t : T} (h : ts[i]? = some t) : ∃ v, vs[i]? = some v ∧ Tmp G' v t [] := by
  obtain ⟨v, gt, e1, e2, _⟩ := r.get h
  have e3 := Rep.noOw _ _ _ (noOws_mem n (List.mem_of_getElem? h)) e2
  rw [e3] at e2
  exact ⟨v, e1, .bare e2⟩
theorem walks_list {p : Addr} {m : Mk} {ts : List T} {g : List Addr} (hk : G.K = K) (t : Tmp G (.ref p) (.lst m ts) g) (n : noOws ts = true) : Walks K ca (Itl K p) ts G := by
  intro G' σ gd st
  have t' := t.step st
  obtain ⟨q, vs, gs, e, sq, r, _, _⟩ := Rep.lstL gd.fp gd.ph t'.rep
  cases e
  have hK : G'.K = K := gd.k
  rw [hK] at sq
  refine ⟨fun i u h => ?_, vs, sq, by rw [r.len]; exact Nat.le_refl _⟩
  obtain ⟨v, e1, tm⟩ := tmp_item r n h
  refine ⟨⟨vs, v, sq, e1⟩, fun x H'' y => ?_⟩
  obtain ⟨rfl, y2⟩ := y
  have e2 := y2 vs sq
  rw [e1] at e2
  cases e2
  exact ⟨G', rfl, rfl, gd, Step.refl _, tm⟩
theorem walks_tup {p : Addr} {ts : List T} {g : List Addr} (hk : G.K = K) (t : Tmp G (.ref p) (.tup ts) g) (n : noOws ts = true) : Walks K ca (Itt K p) ts G := by
  intro G' σ gd st
  have t' := t.step st
  obtain ⟨q, vs, e, sq, r⟩ := Rep.tupT gd.fp gd.ph t'.rep
  cases e
  have hK : G'.K = K := gd.k
  rw [hK] at sq
  refine ⟨fun i u h => ?_, vs, sq, by rw [r.len]; exact Nat.le_refl _⟩
  obtain ⟨v, e1, tm⟩ := tmp_item r n h
  refine ⟨⟨vs, v, sq, e1⟩, fun x H'' y => ?_⟩
  obtain ⟨rfl, y2⟩ := y
  have e2 := y2 vs sq
  rw [e1] at e2
  cases e2
  exact ⟨G', rfl, rfl, gd, Step.refl _, tm⟩
def signsOf (z : Str) : List T := z.cps.toList.map fun c => .str ⟨#[c]⟩
theorem walks_str {z : Str} : Walks K ca (Its z) (signsOf z) G := by
  intro G' σ gd st
  refine ⟨fun i u h => ?_, by show z.cps.size ≤ _; simp [signsOf]⟩
  unfold signsOf at h
  rw [List.getElem?_map] at h
  cases q : z.cps.toList[i]? with
  | none => rw [q] at h; cases h
  | some c =>
    rw [q] at h
    cases h
    have hi : i < z.cps.size := by
      have := (List.getElem?_eq_some_iff.mp q).1
      simpa using this
    refine ⟨hi, fun x H'' y => ?_⟩
    obtain ⟨rfl, c', e1, rfl⟩ := y
    have : c' = c := by
      have e2 : z.cps.toList[i]? = some c' := by simpa using e1
      rw [q] at e2; cases e2; rfl
    subst this
    exact ⟨G', rfl, rfl, gd, Step.refl _, .bare ⟨rfl, rfl⟩⟩
def rangeT (lo c : Int) (n : Nat) : List T := (List.range n).map fun (i : Nat) => .int (lo + (i : Int) * c)
theorem walks_int {J : It} {lo c : Int} {n : Nat} (h1 : ∀ i H, i < n → J.go i H) (h2 : ∀ i H x H', J.yld i H x H' → H' = H ∧ x = .int (lo + (i : Int) * c)) (h3 : ∀ H, J.stop n H) : Walks K ca J (rangeT lo c n) G := by
  intro G' σ gd st
  refine ⟨fun i u h => ?_, by rw [show (rangeT lo c n).length = n by simp [rangeT]]; exact h3 _⟩
  unfold rangeT at h
  rw [List.getElem?_map] at h
  cases q : (List.range n)[i]? with
  | none => rw [q] at h; cases h
  | some j =>
    rw [q] at h
    cases h
    obtain ⟨hl, hj⟩ := List.getElem?_eq_some_iff.mp q
    rw [List.getElem_range] at hj
    subst hj
    refine ⟨h1 i _ (by simpa using hl), fun x H'' y => ?_⟩
    obtain ⟨rfl, rfl⟩ := h2 _ _ _ _ y
    exact ⟨G', rfl, rfl, gd, Step.refl _, .bare ⟨rfl, rfl⟩⟩
end
section
variable {X : Cx} {ca : Str → Addr} {tg : Expr} {ef : Bool} {p pos : Pos}
/-- a list, a tuple, a text -/
theorem pi_seq {l : Expr} {tl : TE} (hl : PE X l tl) : PI X tg l (fun σ H R => tl σ H fun x H1 => (∃ a xs, x = .ref a ∧ SqL X.K H1 a xs ∧ R (Itl X.K a) H1) ∨ (∃ a xs, x = .ref a ∧ SqT X.K H1 a xs ∧ R (Itt X.K a) H1) ∨ ∃ z, x = .str z ∧ R (Its z) H1) := by
  refine ⟨fun pins s σ H R I h => ?_⟩
  refine thn (hl.run pins s σ H _ I h) fun v s1 ⟨x, H1, I1, r1, q1⟩ => ?_
  rcases q1 with ⟨a, xs, rfl, hq, q⟩ | ⟨a, xs, rfl, hq, q⟩ | ⟨z, rfl, q⟩
  · cases r1
    obtain ⟨its, rv, p, hz⟩ := I1.list hq
    refine wpAny_pyIter_list p.isList ?_
    refine ⟨s1.heap.objs.size, [s1.heap.objs.size], _, _, H1, rfl, I1.kept (t' := s1.toks) fun b o e => Heap.get?_push_of_some _ e, turn_list a _, ⟨_, Heap.get?_push_size _ rfl, rfl, rfl⟩, fun b hb => ?_, q⟩
    have e : b = s1.heap.objs.size := by simpa using hb
    subst e
    exact I1.fpOk (Nat.le_refl _) (I1.hok.fresh (Nat.le_refl _))
  · cases r1
    obtain ⟨its, rv, p, hz⟩ := I1.tuple hq
    refine wpAny_pyIter_tuple (show s1.heap.IsTuple a its.toArray from p) ?_
    refine ⟨s1.heap.objs.size, [s1.heap.objs.size], _, _, H1, rfl, I1.kept (t' := s1.toks) fun b o e => Heap.get?_push_of_some _ e, turn_tuple a _, ⟨_, Heap.get?_push_size _ rfl, rfl, rfl⟩, fun b hb => ?_, q⟩
    have e : b = s1.heap.objs.size := by simpa using hb
    subst e
    exact I1.fpOk (Nat.le_refl _) (I1.hok.fresh (Nat.le_refl _))
  · obtain ⟨t, rfl⟩ := r1
    cases ha : z.cps.all (· < 128)
    · exact wpAny_pyIter_wide ha (pi_one (tk := s1.toks) I1 _ (turn_str _ z t "str_iterator" (.inr rfl)) ⟨_, Heap.get?_push_size _ rfl, rfl, rfl⟩ q)
    · exact wpAny_pyIter_ascii ha (pi_one (tk := s1.toks) I1 _ (turn_str _ z t "str_ascii_iterator" (.inl rfl)) ⟨_, Heap.get?_push_size _ rfl, rfl, rfl⟩ q)
def itemsOf : T → Option (List T)
  | .lst _ xs => if noOws xs then some xs else none
  | .tup xs => if noOws xs then some xs else none
  | .str z => some (signsOf z)
  | _ => none
def iSeq (d : DE) : DI := fun S => (d S).bind fun p => (itemsOf p.1).bind fun ts => some (ts, p.2)
theorem ix_seq' {l : Expr} {d : DE} (h : EX ca X l ef d) : IX ca X tg l ef (iSeq d) := PI.imp (pi_seq h) fun σ H R w => by
  obtain ⟨G, rfl, g, ts, S', e1, k⟩ := w
  obtain ⟨q, h1, e1⟩ := Option.bind_eq_some_iff.mp e1
  obtain ⟨us, h2, e1⟩ := Option.bind_eq_some_iff.mp e1
  cases e1
  refine ⟨G, rfl, g, q.1, q.2, h1, fun G1 v gv a1 a2 a3 a4 a5 => ?_⟩
  have hK : G1.K = X.K := a2.k
  unfold itemsOf at h2
  split at h2
  · rename_i m xs hq
    split at h2
    · rename_i n
      cases h2
      rw [hq] at a4
      obtain ⟨p', vs, gs, rfl, sq, _, _, _⟩ := Rep.lstL a2.fp a2.ph a4.rep
      exact .inl ⟨p', vs, rfl, hK ▸ sq, k G1 _ a1 a2 a3 (walks_list hK a4 n)⟩
    · cases h2
  · rename_i xs hq
    split at h2
    · rename_i n
      cases h2
      rw [hq] at a4
      obtain ⟨p', vs, rfl, sq, _⟩ := Rep.tupT a2.fp a2.ph a4.rep
      exact .inr (.inl ⟨p', vs, rfl, hK ▸ sq, k G1 _ a1 a2 a3 (walks_tup hK a4 n)⟩)
    · cases h2
  · rename_i z hq
    cases h2
    rw [hq] at a4
    obtain ⟨rfl, _⟩ := a4.rep
    exact .inr (.inr ⟨z, rfl, k G1 _ a1 a2 a3 walks_str⟩)
  · cases h2
/-! ranges -/
def okR (j : Int) : Bool := decide (-(2 ^ 62) ≤ j ∧ j < 2 ^ 62)
def iR1 (a : DA) : DI := fun S => (a S).bind fun p => (temps p.1).bind fun ts => match ts with
  | [.int j] => if okR j then some (rangeT 0 1 j.toNat, p.2) else none
  | _ => none
def iR2 (a : DA) : DI := fun S => (a S).bind fun p => (temps p.1).bind fun ts => match ts with
  | [.int i, .int j] => if okR i && okR j then some (rangeT i 1 (j - i).toNat, p.2) else none
  | _ => none
/-- downwards, by ones -/
def iR3 (a : DA) : DI := fun S => (a S).bind fun p => (temps p.1).bind fun ts => match ts with
  | [.int i, .int j, .int (-1)] => if okR i && okR j then some (rangeT i (-1) (i - j).toNat, p.2) else none
  | _ => none
theorem ix_r1 {a : Expr} {d : DA} (hm : X.mg "range" = none) (h : AX ca X [a] ef d) (hg : Gl X "range" := by rfl) (hs : starEach [a] X.env = [(false, eval a X.env)] := by rfl) : IX ca X tg (.Call (.Name "range" p) [a] [] pos) ef (iR1 d) := PI.imp (pi_range1 hg hm h hs) fun σ H R w => by
  obtain ⟨G, rfl, g, ts, S', e1, k⟩ := w
  obtain ⟨q, h1, e1⟩ := Option.bind_eq_some_iff.mp e1
  obtain ⟨us, h2, e1⟩ := Option.bind_eq_some_iff.mp e1
  split at e1
  · split at e1
    · rename_i j hj
      cases e1
      refine ⟨G, rfl, g, q.1, q.2, h1, fun G1 vs gv a1 a2 a3 a4 a5 => ?_⟩
      obtain ⟨r, _, _⟩ := a4.reps h2
      obtain ⟨v, r', ga, gb, rfl, _, ⟨rfl, _⟩, ⟨rfl, _⟩⟩ := r
      have b := of_decide_eq_true hj
      exact ⟨j, rfl, b.1, b.2, k G1 _ a1 a2 a3 (walks_int (fun i H h => h) (fun i H x H' y => ⟨y.1, by rw [y.2, Int.mul_one]⟩) fun H => Nat.le_refl _)⟩
    · cases e1
  · cases e1
theorem ix_r2 {a b : Expr} {d : DA} (hm : X.mg "range" = none) (h : AX ca X [a, b] ef d) (hg : Gl X "range" := by rfl) (hs : starEach [a, b] X.env = [(false, eval a X.env), (false, eval b X.env)] := by rfl) (hs2 : starEach [b] X.env = [(false, eval b X.env)] := by rfl) : IX ca X tg (.Call (.Name "range" p) [a, b] [] pos) ef (iR2 d) := PI.imp (pi_range2 hg hm h hs hs2) fun σ H R w => by
  obtain ⟨G, rfl, g, ts, S', e1, k⟩ := w
  obtain ⟨q, h1, e1⟩ := Option.bind_eq_some_iff.mp e1
  obtain ⟨us, h2, e1⟩ := Option.bind_eq_some_iff.mp e1
  split at e1
  · split at e1
    · rename_i i j hj
      cases e1
      refine ⟨G, rfl, g, q.1, q.2, h1, fun G1 vs gv a1 a2 a3 a4 a5 => ?_⟩
      obtain ⟨r, _, _⟩ := a4.reps h2
      obtain ⟨v, r', ga, gb, rfl, _, ⟨rfl, _⟩, v2, r2, gc, gd, rfl, _, ⟨rfl, _⟩, ⟨rfl, _⟩⟩ := r
      have b := Bool.and_eq_true_iff.mp hj
      have b1 := of_decide_eq_true b.1
      have b2 := of_decide_eq_true b.2
      exact ⟨i, j, rfl, ⟨b1.1, b1.2, b2.1, b2.2⟩, k G1 _ a1 a2 a3 (walks_int (fun i H h => h) (fun i H x H' y => ⟨y.1, by rw [y.2, Int.mul_one]⟩) fun H => Nat.le_refl _)⟩
    · cases e1
  · cases e1
theorem ix_r3 {a b c : Expr} {d : DA} (hm : X.mg "range" = none) (h : AX ca X [a, b, c] ef d) (hg : Gl X "range" := by rfl) (hs : starEach [a, b, c] X.env = (false, eval a X.env) :: starEach [b, c] X.env := by rfl) (hpl : (backTo pos (starEach [b, c] X.env)).any (·.1) = false := by rfl) : IX ca X tg (.Call (.Name "range" p) [a, b, c] [] pos) ef (iR3 d) := PI.imp (pi_range3 hg hm h hs hpl) fun σ H R w => by
  obtain ⟨G, rfl, g, ts, S', e1, k⟩ := w
  obtain ⟨q, h1, e1⟩ := Option.bind_eq_some_iff.mp e1
  obtain ⟨us, h2, e1⟩ := Option.bind_eq_some_iff.mp e1
  split at e1
  · split at e1
    · rename_i i j hj
      cases e1
      refine ⟨G, rfl, g, q.1, q.2, h1, fun G1 vs gv a1 a2 a3 a4 a5 => ?_⟩
      obtain ⟨r, _, _⟩ := a4.reps h2
      obtain ⟨v, r', ga, gb, rfl, _, ⟨rfl, _⟩, v2, r2, gc, gd, rfl, _, ⟨rfl, _⟩, v3, r3, ge, gf, rfl, _, ⟨rfl, _⟩, ⟨rfl, _⟩⟩ := r
      have b := Bool.and_eq_true_iff.mp hj
      have b1 := of_decide_eq_true b.1
      have b2 := of_decide_eq_true b.2
      exact ⟨i, j, -1, _, rfl, RgC.neg b1.1 b1.2 b2.1 b2.2, k G1 _ a1 a2 a3 (walks_int (fun i H h => h) (fun i H x H' y => ⟨y.1, y.2⟩) fun H => Nat.le_refl _)⟩
    · cases e1
  · cases e1
/-! reversed -/
def iRv (a : DA) : DI := fun S => (a S).bind fun p => (temps p.1).bind fun ts => match ts with
  | [.lst _ xs] => if noOws xs then some (xs.reverse, p.2) else none
  | _ => none
theorem ix_rev {a : Expr} {d : DA} (hm : X.mg "reversed" = none) (h : AX ca X [a] ef d) (hg : Gl X "reversed" := by rfl) (hs : starEach [a] X.env = [(false, eval a X.env)] := by rfl) : IX ca X tg (.Call (.Name "reversed" p) [a] [] pos) ef (iRv d) := PI.imp (pi_reversed hg hm h hs) fun σ H R w => by
  obtain ⟨G, rfl, g, ts, S', e1, k⟩ := w
  obtain ⟨q, h1, e1⟩ := Option.bind_eq_some_iff.mp e1
  obtain ⟨us, h2, e1⟩ := Option.bind_eq_some_iff.mp e1
  split at e1
  · split at e1
    · rename_i m xs n
      cases e1
      refine ⟨G, rfl, g, q.1, q.2, h1, fun G1 vs gv a1 a2 a3 a4 a5 => ?_⟩
      obtain ⟨r, nd, out⟩ := a4.reps h2
      obtain ⟨v, r', ga, gb, rfl, rfl, rl, ⟨rfl, rfl⟩⟩ := r
      have t : Tmp G1 v (.lst m xs) ga := ⟨rl, (List.append_nil ga ▸ nd), fun a h => out a (by simpa using h)⟩
      have hK : G1.K = X.K := a2.k
      obtain ⟨p', ws, gs, rfl, sq, rr, _, _⟩ := Rep.lstL a2.fp a2.ph rl
      refine ⟨p', ws, rfl, hK ▸ sq, k G1 _ a1 a2 a3 ?_⟩
      intro G' σ' gd st
      have t' := t.step st
      obtain ⟨q', vs', gs', e, sq', r', _, _⟩ := Rep.lstL gd.fp gd.ph t'.rep
      cases e
      have hK' : G'.K = X.K := gd.k
      rw [hK'] at sq'
      have len : ws.length = xs.length := rr.len
      refine ⟨fun i u h => ?_, by show ws.length ≤ _; rw [List.length_reverse, len]; exact Nat.le_refl _⟩
      have hi : i < xs.length := by
        have := (List.getElem?_eq_some_iff.mp h).1
        simpa using this
      rw [List.getElem?_reverse hi] at h
      obtain ⟨v, e1, tm⟩ := tmp_item r' n h
      refine ⟨⟨by rw [len]; exact hi, vs', v, sq', by rw [len]; exact e1⟩, fun x H'' y => ?_⟩
      obtain ⟨rfl, y2⟩ := y
      have e2 := y2 vs' sq'
      rw [len, e1] at e2
      cases e2
      exact ⟨G', rfl, rfl, gd, Step.refl _, tm⟩
    · cases e1
  · cases e1
/-! enumerate -/
def enumT : Nat → List T → List T
  | _, [] => []
  | i, t :: ts => .tup [.int (i : Nat), t] :: enumT (i + 1) ts
theorem enumT_len : ∀ (i : Nat) (ts : List T), (enumT i ts).length = ts.length
  | _, [] => rfl
  | i, t :: ts => by show (enumT (i + 1) ts).length + 1 = _; rw [enumT_len]; rfl
theorem enumT_get : ∀ (k : Nat) (ts : List T) (i : Nat), (enumT k ts)[i]? = ts[i]?.map fun t => .tup [.int ((k + i : Nat) : Int), t]
  | _, [], i => by simp [enumT]
  | k, t :: ts, 0 => by simp [enumT]
  | k, t :: ts, i + 1 => by
    show (enumT (k + 1) ts)[i]? = _
    rw [enumT_get (k + 1) ts i]
    simp only [List.getElem?_cons_succ]
    rw [show k + 1 + i = k + (i + 1) by omega]
def iEn (a : DA) : DI := fun S => (a S).bind fun p => (temps p.1).bind fun ts => match ts with
  | [.lst _ xs] => if noOws xs then some (enumT 0 xs, p.2) else none
  | _ => none
theorem ix_enum {a : Expr} {elts : List Expr} {kk : Nat} {tpos : Pos} {d : DA} (hm : X.mg "enumerate" = none) (h : AX ca X [a] ef d) (hg : Gl X "enumerate" := by rfl) (hs : starEach [a] X.env = [(false, eval a X.env)] := by rfl) : IX ca X (.Tuple elts kk tpos) (.Call (.Name "enumerate" p) [a] [] pos) ef (iEn d) := PI.imp (pi_enum hg hm h hs) fun σ H R w => by
  obtain ⟨G, rfl, g, ts, S', e1, k⟩ := w
  obtain ⟨q, h1, e1⟩ := Option.bind_eq_some_iff.mp e1
  obtain ⟨us, h2, e1⟩ := Option.bind_eq_some_iff.mp e1
  split at e1
  · split at e1
    · rename_i m xs n
      cases e1
      refine ⟨G, rfl, g, q.1, q.2, h1, fun G1 vs gv a1 a2 a3 a4 a5 => ?_⟩
      obtain ⟨r, nd, out⟩ := a4.reps h2
      obtain ⟨v, r', ga, gb, rfl, rfl, rl, ⟨rfl, rfl⟩⟩ := r
      have t : Tmp G1 v (.lst m xs) ga := ⟨rl, (List.append_nil ga ▸ nd), fun a h => out a (by simpa using h)⟩
      have hK : G1.K = X.K := a2.k
      obtain ⟨p', ws, gs, rfl, sq, rr, _, _⟩ := Rep.lstL a2.fp a2.ph rl
      refine ⟨p', ws, rfl, hK ▸ sq, k G1 _ a1 a2 a3 ?_⟩
      intro G' σ' gd st
      have t' := t.step st
      obtain ⟨q', vs', gs', e, sq', r', _, _⟩ := Rep.lstL gd.fp gd.ph t'.rep
      cases e
      have hK' : G'.K = X.K := gd.k
      rw [hK'] at sq'
      refine ⟨fun i u h => ?_, vs', sq', by rw [enumT_len, r'.len]; exact Nat.le_refl _⟩
      rw [enumT_get] at h
      cases hq : xs[i]? with
      | none => rw [hq] at h; cases h
      | some x0 =>
        rw [hq] at h
        cases h
        obtain ⟨v, e1, tm⟩ := tmp_item r' n hq
        refine ⟨⟨vs', v, sq', e1⟩, fun x H'' y => ?_⟩
        obtain ⟨Ta, x1, rfl, hT, rfl, y2⟩ := y
        have e2 := y2 vs' sq'
        rw [e1] at e2
        cases e2
        obtain ⟨g2, s2⟩ := gd.newF (o := .tup [.int (i : Nat), v]) hT
        refine ⟨G'.newF Ta (.tup [.int (i : Nat), v]), rfl, rfl, g2, s2, ?_⟩
        have rr2 : Reps G'.toHc [.int ((0 + i : Nat) : Int), x0] [.int (i : Nat), v] [] := ⟨_, [v], [], [], rfl, rfl, ⟨by rw [Nat.zero_add], rfl⟩, v, [], [], [], rfl, rfl, tm.rep, rfl, rfl⟩
        exact gd.newT hT rr2 List.nodup_nil fun _ m => absurd m (by simp)
    · cases e1
  · cases e1
/-! zip, of two lists, of two tuples -/
def zipT : List T → List T → List T
  | x :: xs, y :: ys => .tup [x, y] :: zipT xs ys
  | _, _ => []
theorem zipT_get : ∀ (xs ys : List T) (i : Nat) (t : T), (zipT xs ys)[i]? = some t → ∃ x y, xs[i]? = some x ∧ ys[i]? = some y ∧ t = .tup [x, y]
  | [], _, _, _, h => by simp [zipT] at h
  | _ :: _, [], _, _, h => by simp [zipT] at h
  | x :: xs, y :: ys, 0, t, h => by simp [zipT] at h; exact ⟨x, y, rfl, rfl, h.symm⟩
  | x :: xs, y :: ys, i + 1, t, h => by
    have h : (zipT xs ys)[i]? = some t := h
    simpa using zipT_get xs ys i t h
theorem zipT_len : ∀ (xs ys : List T), (zipT xs ys).length = min xs.length ys.length
  | [], _ => by simp [zipT]
  | _ :: _, [] => by simp [zipT]
  | x :: xs, y :: ys => by show (zipT xs ys).length + 1 = _; rw [zipT_len]; simp [Nat.succ_min_succ]
def zipOf : T → T → Option (List T)
  | .lst _ xs, .lst _ ys => if noOws xs && noOws ys then some (zipT xs ys) else none
  | .tup xs, .tup ys => if noOws xs && noOws ys then some (zipT xs ys) else none
  | _, _ => none
def iZp (a : DA) : DI := fun S => (a S).bind fun p => (temps p.1).bind fun ts => match ts with
  | [x, y] => (zipOf x y).bind fun us => some (us, p.2)
  | _ => none
theorem ix_zip {a b : Expr} {elts : List Expr} {kk : Nat} {tpos : Pos} {d : DA} (hm : X.mg "zip" = none) (h : AX ca X [a, b] ef d) (hg : Gl X "zip" := by rfl)
    (hs : starEach [a, b] X.env = (false, eval a X.env) :: starEach [b] X.env := by rfl) (hpl : (backTo pos (starEach [b] X.env)).any (·.1) = false := by rfl) : IX ca X (.Tuple elts kk tpos) (.Call (.Name "zip" p) [a, b] [] pos) ef (iZp d) := PI.imp (RZ.pi_zipA hg hm h hs hpl) fun σ H R w => by
  obtain ⟨G, rfl, g, ts, S', e1, k⟩ := w
  obtain ⟨q, h1, e1⟩ := Option.bind_eq_some_iff.mp e1
  obtain ⟨us, h2, e1⟩ := Option.bind_eq_some_iff.mp e1
  split at e1
  · rename_i x y
    obtain ⟨zs, h3, e1⟩ := Option.bind_eq_some_iff.mp e1
    cases e1
    refine ⟨G, rfl, g, q.1, q.2, h1, fun G1 vs gv a1 a2 a3 a4 a5 => ?_⟩
    obtain ⟨r, nd, out⟩ := a4.reps h2
    obtain ⟨v, r', ga, gb, rfl, rfl, rx, w, r2, gc, gd, rfl, rfl, ry, ⟨rfl, rfl⟩⟩ := r
    have hK : G1.K = X.K := a2.k
    have nda := List.nodup_append.mp nd
    have tx : Tmp G1 v x ga := ⟨rx, nda.1, fun a h => out a (by simp [h])⟩
    have ty : Tmp G1 w y gc := ⟨ry, (by simpa using nda.2.1), fun a h => out a (by simp [h])⟩
    have pair : ∀ {G' : Gh} {σ' : L2.St} {u1 u2 : V} {t1 t2 : T} {Ta : Addr}, Good X.K ca σ' G' → G'.H Ta = none → Tmp G' u1 t1 [] → Tmp G' u2 t2 [] → ∃ G'', G''.H = upd G'.H Ta (.tup [u1, u2]) ∧ G''.S = G'.S ∧ Good X.K ca σ' G'' ∧ Step false G' G'' ∧ Tmp G'' (.ref Ta) (.tup [t1, t2]) [] := by
      intro G' σ' u1 u2 t1 t2 Ta gd hT m1 m2
      obtain ⟨g2, s2⟩ := gd.newF (o := .tup [u1, u2]) hT
      have rr2 : Reps G'.toHc [t1, t2] [u1, u2] [] := ⟨_, [u2], [], [], rfl, rfl, m1.rep, u2, [], [], [], rfl, rfl, m2.rep, rfl, rfl⟩
      exact ⟨G'.newF Ta (.tup [u1, u2]), rfl, rfl, g2, s2, gd.newT hT rr2 List.nodup_nil fun _ m => absurd m (by simp)⟩
    unfold zipOf at h3
    split at h3
    · rename_i m1 xs m2 ys
      split at h3
      · rename_i n
        have n := Bool.and_eq_true_iff.mp n
        cases h3
        obtain ⟨p1, w1, _, rfl, sq1, rr1, _, _⟩ := Rep.lstL a2.fp a2.ph rx
        obtain ⟨p2, w2, _, rfl, sq2, rr2, _, _⟩ := Rep.lstL a2.fp a2.ph ry
        refine ⟨p1, p2, w1, w2, rfl, .inl ⟨hK ▸ sq1, hK ▸ sq2, k G1 _ a1 a2 a3 ?_⟩⟩
        intro G' σ' gd st
        obtain ⟨_, v1, _, e1, s1, r1, _, _⟩ := Rep.lstL gd.fp gd.ph (tx.step st).rep
        cases e1
        obtain ⟨_, v2, _, e2, s2, r2, _, _⟩ := Rep.lstL gd.fp gd.ph (ty.step st).rep
        cases e2
        have hK' : G'.K = X.K := gd.k
        rw [hK'] at s1 s2
        refine ⟨fun i u h => ?_, v1, v2, s1, s2, ?_⟩
        · obtain ⟨x0, y0, h1, h2, rfl⟩ := zipT_get _ _ _ _ h
          obtain ⟨u1, e1, t1⟩ := tmp_item r1 n.1 h1
          obtain ⟨u2, e2, t2⟩ := tmp_item r2 n.2 h2
          refine ⟨⟨v1, v2, u1, u2, s1, s2, e1, e2⟩, fun x H'' y => ?_⟩
          obtain ⟨Ta, x1, x2, rfl, hT, rfl, y1, y2⟩ := y
          have q1 := y1 v1 s1
          have q2 := y2 v2 s2
          rw [e1] at q1
          rw [e2] at q2
          cases q1
          cases q2
          exact pair gd hT t1 t2
        · rw [zipT_len, r1.len, r2.len]
          omega
      · cases h3
    · rename_i xs ys
      split at h3
      · rename_i n
        have n := Bool.and_eq_true_iff.mp n
        cases h3
        obtain ⟨p1, w1, rfl, sq1, rr1⟩ := Rep.tupT a2.fp a2.ph rx
        obtain ⟨p2, w2, rfl, sq2, rr2⟩ := Rep.tupT a2.fp a2.ph ry
        refine ⟨p1, p2, w1, w2, rfl, .inr ⟨hK ▸ sq1, hK ▸ sq2, k G1 _ a1 a2 a3 ?_⟩⟩
        intro G' σ' gd st
        obtain ⟨_, v1, e1, s1, r1⟩ := Rep.tupT gd.fp gd.ph (tx.step st).rep
        cases e1
        obtain ⟨_, v2, e2, s2, r2⟩ := Rep.tupT gd.fp gd.ph (ty.step st).rep
        cases e2
        have hK' : G'.K = X.K := gd.k
        rw [hK'] at s1 s2
        refine ⟨fun i u h => ?_, v1, v2, s1, s2, ?_⟩
        · obtain ⟨x0, y0, h1, h2, rfl⟩ := zipT_get _ _ _ _ h
          obtain ⟨u1, e1, t1⟩ := tmp_item r1 n.1 h1
          obtain ⟨u2, e2, t2⟩ := tmp_item r2 n.2 h2
          refine ⟨⟨v1, v2, u1, u2, s1, s2, e1, e2⟩, fun x H'' y => ?_⟩
          obtain ⟨Ta, x1, x2, rfl, hT, rfl, y1, y2⟩ := y
          have q1 := y1 v1 s1
          have q2 := y2 v2 s2
          rw [e1] at q1
          rw [e2] at q2
          cases q1
          cases q2
          exact pair gd hT t1 t2
        · rw [zipT_len, r1.len, r2.len]
          omega
      · cases h3
    · cases h3
  · cases e1
end
end TL

set_option Elab.async false
set_option linter.all false
set_option maxRecDepth 100000
/-! TL9: a def by its mirror; calls. -/
namespace TL
open PySem PySem.Spec L2

abbrev DF := List T → List Ob → Option (T × List Ob)
/-- a def of n parameters does what d says -/
def spT (K : PySem.W.Frag) (ca : Str → Addr) (n : Nat) (d : DF) : Sp := fun vs H Q _ => vs.length = n ∧ ∃ G : Gh, G.H = H ∧ Good K ca (vs.map some) G ∧ ∃ ts r O', G.τ = ts.map some ∧ d ts G.O = some (r, O') ∧ r.noBr = true ∧
  ∀ G' σ' v g, Good K ca σ' G' → Step true G G' → Tmp G' v r g → New G g → G'.O = O' → Q v G'.H
/-- a body's mirror as a def's: N slots -/
def dFn (N : Nat) (b : DS) : DF := fun ts O => (b (ts.map some ++ List.replicate (N - ts.length) none, O)).bind fun q => match q.1 with
  | .rt r => if r.noBr then some (r, q.2.2) else none
  | .nx => some (.non, q.2.2)
  | _ => none
section
variable {P : Program} {w : World} {K : PySem.W.Frag} {mg : Str → Option Value} {base : Heap} {ca : Str → Addr}
theorem Good.ext {σ : L2.St} {G : Gh} (g : Good K ca σ G) (m : Nat) : Good K ca (σ ++ List.replicate m none) { G with τ := G.τ ++ List.replicate m none } := by
  have at_ : ∀ (i : Nat) (t : T), (G.τ ++ List.replicate m none)[i]? = some (some t) → G.τ[i]? = some (some t) := fun i t e => by
    by_cases h : i < G.τ.length
    · rw [List.getElem?_append_left h] at e; exact e
    · rw [List.getElem?_append_right (by omega)] at e
      have := List.getElem?_replicate (n := m) (a := (none : Option T)) (i := i - G.τ.length)
      rw [this] at e
      split at e <;> cases e
  refine { g with len := (by show (G.τ ++ _).length = _; rw [List.length_append, List.length_append, g.len, List.length_replicate, List.length_replicate]), sl := fun i t e => ?_, sn := fun i e => ?_ }
  · have e2 := at_ i t e
    obtain ⟨v, a, r⟩ := g.sl i t e2
    have hl : i < σ.length := (List.getElem?_eq_some_iff.mp a).1
    exact ⟨v, by rw [List.getElem?_append_left hl]; exact a, r⟩
  · refine g.sn i fun t q => e t ?_
    have hl : i < G.τ.length := (List.getElem?_eq_some_iff.mp q).1
    show (G.τ ++ _)[i]? = _
    rw [List.getElem?_append_left hl]
    exact q
theorem fn_ok {x qual : Str} {st : Stmt} {f : Addr} {fd : FuncData} {N ps : List Str} {k : Nat} {b : DS} (F : L2.Fun K x qual st f fd) (S : FnScope N ps (defScope st)) (hN : ps.length ≤ N.length)
    (hb : ∀ (cdv : Value) (A : Around) (outer : List Env) (s : Shared) (H : Hp) (E : XK), Room k (A.deeper (PyProof.Rows.envOfC qual (defScope st) s.heap.objs.size f cdv)) → BX ca (cxOf CX0 P w K mg base N qual (defScope st) f cdv A outer s H E).nox (defBody st) b) :
    FnOk P w K mg base CX0 (k + 1) f fd ps (spT K ca ps.length (dFn N.length b)) := by
  refine F.ok S (fun vs H Q E h => h.1) (fun cdv A outer s H vs Q E hr h => ⟨liftS K ca b, hb cdv A outer s H E hr, ?_⟩)
  obtain ⟨hl, G, rfl, g, ts, r, O', hτ, hd, hbr, kk⟩ := h
  have ht : ts.length = ps.length := by
    have := g.len
    rw [hτ, List.length_map, List.length_map] at this
    omega
  unfold dFn at hd
  obtain ⟨q, e1, hd⟩ := Option.bind_eq_some_iff.mp hd
  refine ⟨{ G with τ := G.τ ++ List.replicate (N.length - ps.length) none }, rfl, ?_, q.1, q.2, ?_, fun G' σ' a1 a2 a3 => ?_⟩
  · have e : L2.start N vs = vs.map some ++ List.replicate (N.length - ps.length) none := by unfold L2.start; rw [hl]
    rw [e]
    exact g.ext _
  · show b (G.τ ++ _, G.O) = _
    rw [hτ, ← ht]
    exact e1
  · have st : Step true G G' := { a3 with q := fun e => by cases e }
    have hO : G'.O = q.2.2 := by rw [← a1]
    cases hq : q.1 with
    | nx =>
      rw [hq] at hd
      cases hd
      exact kk G' σ' .non [] a2 st (.bare ⟨rfl, rfl⟩) New.nil hO
    | rt t =>
      rw [hq] at hd
      intro v gv m n
      have hd : (if t.noBr then some (t, q.2.2) else none) = some (r, O') := hd
      split at hd
      · cases hd
        exact kk G' σ' v gv a2 st m n hO
      · cases hd
    | bk => rw [hq] at hd; cases hd
    | ct => rw [hq] at hd; cases hd
end

/-! ### a call -/
def resAll (S : SS) : List Arg → Option (List T)
  | [] => some []
  | .tmp t :: as => (resAll S as).bind fun ts => some (t :: ts)
  | .bor i :: as => (slot S i).bind fun t => (resAll S as).bind fun ts => some (t.brw :: ts)
def dCall (d : DF) (a : DA) : DE := fun S => (a S).bind fun p => (resAll p.2 p.1).bind fun ts => (d ts p.2.2).bind fun q => if q.1.noBr then some (q.1, (p.2.1, q.2)) else none
def borOf (G : Gh) : List Arg → List Addr
  | [] => []
  | .tmp _ :: as => borOf G as
  | .bor i :: as => G.fp (.s i) ++ borOf G as
theorem borOf_mem {G : Gh} {x : Addr} : ∀ {as : List Arg}, x ∈ borOf G as → ∃ i, x ∈ G.fp (.s i)
  | [], m => absurd m (by simp [borOf])
  | .tmp _ :: as, m => borOf_mem (as := as) m
  | .bor i :: as, m => by
    rcases List.mem_append.mp (show x ∈ G.fp (.s i) ++ borOf G as from m) with m | m
    · exact ⟨i, m⟩
    · exact borOf_mem m
/-- the arguments, by places: what the callee holds -/
theorem args_in {K : PySem.W.Frag} {ca : Str → Addr} {G c' : Gh} {σ : L2.St} (gd : Good K ca σ G) : ∀ {as : List Arg} {ts : List T} {vs : List V} {g : List Addr}, resAll G.S as = some ts → ArgsAt G σ as vs g → Ex G.toHc c'.toHc g → Lend G.toHc c'.toHc (borOf G as) →
    ∃ gs : List (List Addr), gs.length = as.length ∧ ts.length = as.length ∧ vs.length = as.length ∧ (∀ (j : Nat) (t : T), ts[j]? = some t → ∃ v, vs[j]? = some v ∧ Rep c'.toHc t v (gs.getD j [])) ∧ (∀ j, (gs.getD j []).Nodup ∧ ∀ x ∈ gs.getD j [], x ∈ g ∧ (∀ k, x ∉ G.fp k) ∧ x ∉ G.ad ∧ G.P x = none) ∧ ∀ j j' x, x ∈ gs.getD j [] → x ∈ gs.getD j' [] → j = j'
  | [], ts, vs, g, e, ⟨h1, h2⟩, _, _ => by
    cases e
    subst h1
    exact ⟨[], rfl, rfl, rfl, fun j t h => by simp at h, fun j => ⟨by simp, fun x m => by simp at m⟩, fun j j' x m => by simp at m⟩
  | .tmp t :: as, ts, vs, g, e, ⟨v, r, ga, gb, e1, e2, h, hr, d⟩, ex, le => by
    obtain ⟨us, e3, e4⟩ := Option.bind_eq_some_iff.mp (show (resAll G.S as).bind (fun ts => some (t :: ts)) = some ts from e)
    cases e4
    have h : Tmp G v t ga := h
    obtain ⟨gs, l1, l2, l3, a1, a2, a3⟩ := args_in gd e3 hr (ex.mono fun x m => by rw [e2]; exact List.mem_append_right _ m) le
    subst e1 e2
    refine ⟨ga :: gs, by simp [l1], by simp [l2], by simp [l3], fun j u hj => ?_, fun j => ?_, fun j j' x m m' => ?_⟩
    · cases j with
      | zero =>
        simp at hj
        subst hj
        exact ⟨v, rfl, Rep.ex _ _ _ (ex.mono fun x m => List.mem_append_left _ m) h.rep⟩
      | succ j => simpa using a1 j u (by simpa using hj)
    · cases j with
      | zero => exact ⟨h.nd, fun x m => ⟨List.mem_append_left _ m, h.out x m⟩⟩
      | succ j =>
        obtain ⟨q1, q2⟩ := a2 j
        exact ⟨by simpa using q1, fun x m => let z := q2 x (by simpa using m); ⟨List.mem_append_right _ z.1, z.2⟩⟩
    · cases j with
      | zero => cases j' with
        | zero => rfl
        | succ j' => exact absurd ((a2 j').2 x (by simpa using m')).1 (d x m)
      | succ j => cases j' with
        | zero => exact absurd ((a2 j).2 x (by simpa using m)).1 (d x m')
        | succ j' => rw [a3 j j' x (by simpa using m) (by simpa using m')]
  | .bor i :: as, ts, vs, g, e, ⟨v, r, ga, gb, e1, e2, h, hr, d⟩, ex, le => by
    obtain ⟨t, e0, e⟩ := Option.bind_eq_some_iff.mp (show (slot G.S i).bind (fun t => (resAll G.S as).bind fun ts => some (t.brw :: ts)) = some ts from e)
    obtain ⟨us, e3, e4⟩ := Option.bind_eq_some_iff.mp e
    cases e4
    have h : σ[i]? = some (some v) ∧ ga = [] := h
    obtain ⟨gs, l1, l2, l3, a1, a2, a3⟩ := args_in gd e3 hr (ex.mono fun x m => by rw [e2]; exact List.mem_append_right _ m) (le.mono fun x m => List.mem_append_right _ m)
    obtain ⟨h1, h2⟩ := h
    subst e1 e2 h2
    obtain ⟨v', q1, q2⟩ := gd.sl i t (slot_some e0)
    rw [h1] at q1
    cases q1
    refine ⟨[] :: gs, by simp [l1], by simp [l2], by simp [l3], fun j u hj => ?_, fun j => ?_, fun j j' x m m' => ?_⟩
    · cases j with
      | zero =>
        simp at hj
        subst hj
        exact ⟨v, rfl, Rep.brw t v _ (le.mono fun x m => List.mem_append_left _ m) q2⟩
      | succ j => simpa using a1 j u (by simpa using hj)
    · cases j with
      | zero => exact ⟨List.nodup_nil, fun x m => absurd m (by simp)⟩
      | succ j =>
        obtain ⟨q1, q2⟩ := a2 j
        exact ⟨by simpa using q1, fun x m => let z := q2 x (by simpa using m); ⟨z.1, z.2⟩⟩
    · cases j with
      | zero => exact absurd m (by simp)
      | succ j => cases j' with
        | zero => exact absurd m' (by simp)
        | succ j' => rw [a3 j j' x (by simpa using m) (by simpa using m')]
theorem RepO.exF {c c' : Hc} {b : Ob} {p : Addr} {g : List Addr} (e : ExF c c' (p :: g)) (hc : c'.ca = c.ca) (r : RepO c b p g) : RepO c' b p g := by
  have e2 : ExF c c' g := e.mono fun _ m => List.mem_cons_of_mem _ m
  cases b with
  | lst xs => obtain ⟨vs, a, d, q⟩ := r; exact ⟨vs, e.h p (by simp) _ a, Reps.exF _ _ _ q e2 d, q⟩
  | dic xs => obtain ⟨vs, a, d, q⟩ := r; exact ⟨vs, e.h p (by simp) _ a, RepK.exF _ _ _ q e2 d, q⟩
  | ins C fs =>
    obtain ⟨dx, vs, a, d, q⟩ := r
    exact ⟨dx, vs, by rw [hc]; exact e.h p (by simp) _ a, RepK.exF _ _ _ q e2 d, q⟩
section
variable {X : Cx} {ca : Str → Addr} {ef : Bool} {pos p : Pos}
/-- the callee's run, from the caller's side -/
theorem call_core {K : PySem.W.Frag} {n : Nat} {d : DF} {as : List Arg} {E : XK} {σ : L2.St} {Q : VK} {G G2 : Gh} {ef : Bool} {vs : List V} {gv : List Addr} {ts : List T} {rr : T × List Ob} (g : Good K ca σ G) (a2 : Good K ca σ G2) (a3 : Step ef G G2) (a4 : ArgsAt G2 σ as vs gv) (a5 : New G gv)
    (h2 : resAll G2.S as = some ts) (h3 : d ts G2.O = some rr) (hbr : rr.1.noBr = true) (hn : as.length = n) (k : ∀ G' v g, G'.S = (G2.τ, rr.2) → Good K ca σ G' → Step true G G' → Tmp G' v rr.1 g → New G g → Q v G'.H) : spT K ca n d vs G2.H Q E := by
  -- the callee's ghost
  let L := borOf G2 as
  have LN : ∀ x ∈ L, G2.P x = none := fun x m => by
    obtain ⟨i, m⟩ := borOf_mem m
    exact a2.pn _ x m
  have hex : ∀ gg, Ex G2.toHc { G2.toHc with P := plus G2.P G2.H L } gg := fun gg => ⟨rfl, rfl, Same.refl _, plus_sameN LN, fun _ _ _ e => e, ⟨[], by simp⟩⟩
  have hle : Lend G2.toHc { G2.toHc with P := plus G2.P G2.H L } L := ⟨rfl, Same.refl _, plus_sameN LN, fun x m o e => by show plus G2.P G2.H L x = _; rw [plus_in m]; exact e, fun _ _ e => e⟩
  obtain ⟨gs, l1, l2, l3, b1, b2, b3⟩ := args_in (c' := { G2 with P := plus G2.P G2.H L }) a2 h2 a4 (hex gv) hle
  let Gc : Gh := { G2 with P := plus G2.P G2.H L, fp := fun kk => match kk with | .s j => gs.getD j [] | .o m => G2.fp (.o m), τ := ts.map some }
  have cs : ∀ j, Gc.fp (.s j) = gs.getD j [] := fun _ => rfl
  have co : ∀ m, Gc.fp (.o m) = G2.fp (.o m) := fun _ => rfl
  have nL : ∀ {x}, (∀ i, x ∉ G2.fp (.s i)) → x ∉ L := fun h m => by
    obtain ⟨i, m⟩ := borOf_mem m
    exact h i m
  have gc : Good K ca (vs.map some) Gc := by
    refine { k := a2.k, c := a2.c, len := (by show (ts.map some).length = (vs.map some).length; simp [l2, l3]), fp := a2.fp.trans (plus_sameN LN), ph := plus_leL a2.ph, nd := fun kk => ?_, dj := fun kk kk' x m m' => ?_, pn := fun kk x m => ?_, adn := a2.adn, adp := fun x m => ?_, ado := fun x m kk q => ?_, sl := fun j t e => ?_, sn := fun j e => ?_, ob := fun m b e => ?_, on := fun m e => a2.on m e, ln := a2.ln }
    · cases kk with
      | s j => exact (b2 j).1
      | o m => exact a2.nd _
    · cases kk with
      | s j => cases kk' with
        | s j' => rw [b3 j j' x m m']
        | o m2 => exact absurd m' (((b2 j).2 x m).2.1 _)
      | o m1 => cases kk' with
        | s j' => exact absurd m (((b2 j').2 x m').2.1 _)
        | o m2 => exact a2.dj _ _ x m m'
    · cases kk with
      | s j =>
        obtain ⟨_, q1, _, q3⟩ := (b2 j).2 x m
        show plus G2.P G2.H L x = none
        rw [plus_out (nL fun i => q1 _)]
        exact q3
      | o m1 =>
        have m : x ∈ G2.fp (.o m1) := m
        show plus G2.P G2.H L x = none
        rw [plus_out (nL fun i z => by cases a2.dj _ _ x m z)]
        exact a2.pn _ x m
    · show plus G2.P G2.H L x = none
      rw [plus_out (nL fun i => a2.ado x m _)]
      exact a2.adp x m
    · cases kk with
      | s j => exact ((b2 j).2 x q).2.2.1 m
      | o m1 => exact a2.ado x m _ q
    · have e : (ts.map some)[j]? = some (some t) := e
      rw [List.getElem?_map] at e
      cases q : ts[j]? with
      | none => rw [q] at e; cases e
      | some u =>
        rw [q] at e
        cases e
        obtain ⟨v, q1, q2⟩ := b1 j t q
        exact ⟨v, by rw [List.getElem?_map, q1]; rfl, q2⟩
    · show gs.getD j [] = []
      have hj : ts.length ≤ j := by
        by_cases h : j < ts.length
        · exact absurd (show (ts.map some)[j]? = some (some ts[j]) by rw [List.getElem?_map, List.getElem?_eq_getElem h]; rfl) (e _)
        · omega
      rw [List.getD_eq_getElem?_getD, List.getElem?_eq_none (by rw [l1, ← l2]; exact hj)]
      rfl
    · obtain ⟨p', q1, q2⟩ := a2.ob m b e
      exact ⟨p', q1, q2.ex (hex _)⟩
  have s1 : Step true G Gc := by
    have a3 := a3.loud
    refine { a3 with p := a3.p.trans (plus_sameN LN), pnew := fun x o e => ?_, gnew := fun kk x m => ?_, q := fun e => by cases e }
    · by_cases m : x ∈ L
      · obtain ⟨i, m⟩ := borOf_mem m
        rcases a3.gnew _ x m with z | z
        · exact .inr (.inr z)
        · exact .inr (.inl z)
      · have e : plus G2.P G2.H L x = some o := e
        rw [plus_out m] at e
        exact a3.pnew x o e
    · cases kk with
      | s j => exact (a5 x ((b2 j).2 x m).1).symm
      | o m1 => exact a3.gnew _ x m
  refine ⟨by rw [l3]; exact hn, Gc, rfl, gc, ts, rr.1, rr.2, rfl, h3, hbr, fun G' σ' v gr g' st tm nw hO => ?_⟩
  -- back in the caller
  have sg : Step true G G' := s1.trans st
  have FP : Same G'.F G'.P := g'.fp
  have p2 : Same G2.P G'.P := (plus_sameN LN).trans st.p
  let P3 : Hp := fun x => match G'.F x with | some o => some o | none => G2.P x
  have p3F : ∀ {x o}, G'.F x = some o → P3 x = some o := fun {x o} e => by show (match G'.F x with | some o => some o | none => G2.P x) = _; rw [e]
  have p3N : ∀ {x}, G'.F x = none → P3 x = G2.P x := fun {x} e => by show (match G'.F x with | some o => some o | none => G2.P x) = _; rw [e]
  have p3le : ∀ {x o}, P3 x = some o → G'.P x = some o := fun {x o} e => by
    cases q : G'.F x with
    | some u => rw [p3F q] at e; cases e; exact FP _ _ q
    | none => rw [p3N q] at e; exact p2 _ _ e
  have p3ge : Same G2.P P3 := fun x o e => by
    cases q : G'.F x with
    | some u =>
      rw [p3F q]
      have q1 := FP _ _ q
      rw [p2 _ _ e] at q1
      exact q1.symm
    | none => rw [p3N q]; exact e
  have p3none : ∀ {x}, G'.P x = none → P3 x = none := fun {x} e => by
    cases q : P3 x with
    | none => rfl
    | some o => rw [p3le q] at e; cases e
  -- the caller's own nodes are none of the callee's
  have mine : ∀ {i x}, x ∈ G2.fp (.s i) → (∀ kk, x ∉ Gc.fp kk) ∧ G2.H x ≠ none ∧ x ∉ G2.ad := fun {i x} m => by
    refine ⟨fun kk q => ?_, a2.fpH m, fun q => a2.ado x q _ m⟩
    cases kk with
    | s j => exact ((b2 j).2 x q).2.1 _ m
    | o m1 => cases a2.dj _ _ x m q
  let G3 : Gh := { G' with P := P3, fp := fun kk => match kk with | .s i => G2.fp (.s i) | .o m => G'.fp (.o m), τ := G2.τ, O := rr.2 }
  have hO' : G'.O = rr.2 := hO
  have exF3 : ∀ gg, ExF G'.toHc G3.toHc gg := fun gg => ⟨rfl, Same.refl _, fun _ _ _ e => e, fun _ _ e => e⟩
  have g3 : Good K ca σ G3 := by
    refine { k := g'.k, c := g'.c, len := a2.len, fp := fun x o e => p3F e, ph := fun x o e => g'.ph _ _ (p3le e), nd := fun kk => ?_, dj := fun kk kk' x m m' => ?_, pn := fun kk x m => ?_, adn := g'.adn, adp := fun x m => p3none (g'.adp x m), ado := fun x m kk q => ?_, sl := fun i t e => ?_, sn := fun i e => a2.sn i e, ob := fun m b e => ?_, on := fun m e => ?_, ln := by show G'.ad.length = rr.2.length; rw [← hO']; exact g'.ln }
    · cases kk with
      | s i => exact a2.nd _
      | o m => exact g'.nd _
    · have cross : ∀ {i m1}, x ∈ G2.fp (.s i) → x ∈ G'.fp (.o m1) → False := fun {i m1} h h' => by
        obtain ⟨z1, z2, _⟩ := mine h
        rcases st.gnew _ x h' with ⟨kk, q⟩ | q
        · exact z1 kk q
        · exact z2 q
      cases kk with
      | s i => cases kk' with
        | s i' => exact a2.dj _ _ x m m'
        | o m1 => exact (cross m m').elim
      | o m1 => cases kk' with
        | s i' => exact (cross m' m).elim
        | o m2 => exact g'.dj _ _ x m m'
    · cases kk with
      | s i =>
        have m : x ∈ G2.fp (.s i) := m
        obtain ⟨z1, z2, _⟩ := mine m
        have hp := a2.pn _ x m
        have hF : G'.F x = none := by
          cases q : G'.F x with
          | none => rfl
          | some o =>
            rcases st.fnew x o q with h | h | ⟨kk, h⟩
            · rw [a2.fp _ _ h] at hp; cases hp
            · exact absurd h z2
            · exact absurd h (z1 kk)
        show P3 x = none
        rw [p3N hF]; exact hp
      | o m1 => exact p3none (g'.pn (.o m1) x m)
    · cases kk with
      | s i =>
        have q : x ∈ G2.fp (.s i) := q
        obtain ⟨z1, z2, z3⟩ := mine q
        rcases st.anew x m with h | h | ⟨kk, h⟩
        · exact z3 h
        · exact z2 h
        · exact z1 kk h
      | o m1 => exact g'.ado x m _ q
    · obtain ⟨v', q1, q2⟩ := a2.sl i t e
      refine ⟨v', q1, Rep.ex (c := G2.toHc) _ _ _ ⟨st.k, st.c, st.f, p3ge, fun x m o e => ?_, st.ad⟩ q2⟩
      obtain ⟨z1, z2, z3⟩ := mine m
      exact st.fr x o e z1 z3
    · obtain ⟨p', q1, q2⟩ := g'.ob m b (by rw [hO']; exact e)
      exact ⟨p', q1, q2.exF (exF3 _) rfl⟩
    · exact g'.on m (by rw [hO']; exact e)
  have s3 : Step true G G3 := by
    refine { sg with p := a3.p.trans p3ge, pnew := fun x o e => ?_, gnew := fun kk x m => ?_, q := fun e => by cases e }
    · cases q : G'.F x with
      | some u => exact (sg.fnew x u q).imp (fun z => by
          have e : P3 x = some o := e
          rw [p3F q] at e; cases e; exact g.fp _ _ z) id
      | none =>
        have e : P3 x = some o := e
        rw [p3N q] at e
        exact a3.pnew x o e
    · cases kk with
      | s i => exact a3.gnew _ x m
      | o m1 => exact sg.gnew _ x m
  refine k G3 v gr rfl g3 s3 ⟨Rep.exF _ _ _ hbr (exF3 _) tm.rep, tm.nd, fun x m => ?_⟩ (nw.step s1)
  obtain ⟨z1, z2, z3⟩ := tm.out x m
  refine ⟨fun kk q => ?_, z2, p3none z3⟩
  cases kk with
  | s i =>
    have q : x ∈ G2.fp (.s i) := q
    obtain ⟨y1, y2, _⟩ := mine q
    rcases nw x m with h | ⟨kk, h⟩
    · exact y2 h
    · exact y1 kk h
  | o m1 => exact z1 _ q
theorem call_of {K : PySem.W.Frag} {n : Nat} {d : DF} {da : DA} {E : XK} {σ : L2.St} {H : Hp} {Q : VK} (w : liftE K ca true (dCall d da) σ H Q) (hn : ∀ S as S', da S = some (as, S') → as.length = n) :
    liftA K ca ef da σ H fun vs H1 => spT K ca n d vs H1 Q E := by
  obtain ⟨G, rfl, g, z, S', e1, k⟩ := w
  obtain ⟨q0, h1, e1⟩ := Option.bind_eq_some_iff.mp e1
  obtain ⟨ts, h2, e1⟩ := Option.bind_eq_some_iff.mp e1
  obtain ⟨rr, h3, e1⟩ := Option.bind_eq_some_iff.mp e1
  split at e1
  case isFalse => cases e1
  rename_i hbr
  cases e1
  refine ⟨G, rfl, g, q0.1, q0.2, h1, fun G2 vs gv a1 a2 a3 a4 a5 => call_core g a2 a3 a4 a5 (by rw [a1]; exact h2) (by rw [show G2.O = q0.2.2 by rw [← a1]]; exact h3) hbr (hn _ _ _ h1) fun G' v g' b1 b2 b3 b4 b5 => k G' v g' ?_ b2 b3 b4 b5⟩
  rw [b1]
  show (G2.τ, rr.2) = (q0.2.1, rr.2)
  rw [← a1]
theorem aCons_len {a : DO} {r : DA} {n : Nat} (h : ∀ S as S', r S = some (as, S') → as.length = n) : ∀ S as S', aCons a r S = some (as, S') → as.length = n + 1 := fun S as S' e => by
  obtain ⟨p, h3, e⟩ := Option.bind_eq_some_iff.mp e
  obtain ⟨q, h4, e⟩ := Option.bind_eq_some_iff.mp e
  cases e
  rw [List.length_cons, h _ _ _ h4]
theorem aNil_len : ∀ S as S', aNil S = some (as, S') → as.length = 0 := fun S as S' e => by cases e; rfl
/-- a def of the module, found by its name -/
structure Callee (P : Program) (w : World) (K : PySem.W.Frag) (mg : Str → Option Value) (base : Heap) (ca : Str → Addr) (x : Str) (ps : List Str) (k : Nat) (d : DF) : Prop where
  ex : ∃ f fd, mg x = some (.ref f) ∧ PySem.W.keepIn K (.ref f) = true ∧ Binds K fd ps [] ∧ FnOk P w K mg base CX0 k f fd ps (spT K ca ps.length d)
theorem ex_call {x : Str} {ps : List Str} {kl : Nat} {d : DF} {e : Expr} {es : List Expr} {da : DA} (C : Callee X.prog X.w X.K X.mg X.base ca x ps kl d) (hr : Room kl X.A) (ha : AX ca X (e :: es) ef da) (hn : ∀ S as S', da S = some (as, S') → as.length = ps.length) (hg : Gl X x := by rfl)
    (hdb : (x == ("__debug__" : Str)) = false := by decide) (he : starEach (e :: es) X.env = (false, eval e X.env) :: starEach es X.env := by rfl) (hpl : (backTo pos (starEach es X.env)).any (·.1) = false := by rfl) :
    EX ca X (.Call (.Name x p) (e :: es) [] pos) true (dCall d da) := by
  obtain ⟨f, fd, hm, hk, hb, F⟩ := C.ex
  refine PE.imp (pe_call F hr hg hm hk hb .nil pass0 ha hdb he hpl) fun σ H Q w => ?_
  have z := call_of (ef := ef) (E := E0) w hn
  show liftA X.K ca ef da σ H fun vs H1 => spT X.K ca ps.length d (vs ++ []) H1 Q E0
  simpa only [List.append_nil] using z
end
end TL

set_option Elab.async false
set_option linter.all false
set_option maxRecDepth 100000
/-! TL10: lists that slots or handles hold, changed. -/
namespace TL
open PySem PySem.Spec L2

def getL (S : SS) (i : Nat) : Option (List T) := match slot S i with
  | some (.lst .ow xs) => some xs
  | some (.hnd n) => (match S.2[n]? with
    | some (.lst xs) => some xs
    | _ => none)
  | _ => none
def putL (S : SS) (i : Nat) (xs : List T) : Option SS := match slot S i with
  | some (.hnd n) => if noBrs xs then some (S.1, S.2.set n (.lst xs)) else none
  | _ => some (setS S i (some (.lst .ow xs)))
section
variable {K : PySem.W.Frag} {ca : Str → Addr} {σ : L2.St} {G : Gh}
theorem ex_upd {c : Gh} {p : Addr} {o : HO} {gg : List Addr} {fp : Own → List Addr} {τ : List (Option T)} {O : List Ob} (n : p ∉ gg) : Ex c.toHc { c with H := upd c.H p o, fp := fp, τ := τ, O := O : Gh }.toHc gg := ⟨rfl, rfl, Same.refl _, Same.refl _, fun a m u e => by
  show upd c.H p o a = _
  rw [upd_ne fun z => n (by rw [← z]; exact m)]; exact e, ⟨[], by simp⟩⟩
theorem Good.mutL (g : Good K ca σ G) {i : Nat} {xs : List T} (h : getL G.S i = some xs) : ∃ p vs gs, σ[i]? = some (some (.ref p)) ∧ G.H p = some (.lst vs) ∧ Reps G.toHc xs vs gs ∧ gs.Nodup ∧ (∀ a ∈ gs, ∃ k, a ∈ G.fp k) ∧ ((∃ k, p ∈ G.fp k) ∨ p ∈ G.ad) ∧
    ∀ xs' vs' gs' S', putL G.S i xs' = some S' → Reps G.toHc xs' vs' gs' → gs'.Nodup → (∀ a ∈ gs', a ∈ gs ∨ ((∀ k, a ∉ G.fp k) ∧ a ∉ G.ad ∧ G.P a = none)) →
      ∃ G', G'.H = upd G.H p (.lst vs') ∧ G'.S = S' ∧ Good K ca σ G' ∧ (∀ G0 ef, Step ef G0 G → New G0 gs' → Step true G0 G') ∧ ∀ v t g2, Tmp G v t g2 → (∀ a ∈ g2, a ∉ gs') → Tmp G' v t g2 := by
  unfold getL at h
  split at h
  · rename_i ys hs
    cases h
    have hs := slot_some hs
    obtain ⟨v, e1, p, vs, gs, rfl, e2, r, e3⟩ := g.sl i _ hs
    have li : i < G.τ.length := (List.getElem?_eq_some_iff.mp hs).1
    have nd := g.nd (.s i)
    rw [e3] at nd
    have nd2 := List.nodup_cons.mp nd
    have pin : p ∈ G.fp (.s i) := by rw [e3]; simp
    have gin : ∀ a ∈ gs, a ∈ G.fp (.s i) := fun a m => by rw [e3]; exact List.mem_cons_of_mem _ m
    refine ⟨p, vs, gs, e1, e2, r, nd2.2, fun a m => ⟨_, gin a m⟩, .inl ⟨_, pin⟩, fun xs' vs' gs' S' hp r' nd' out' => ?_⟩
    have pn' : p ∉ gs' := fun m => by
      rcases out' p m with z | z
      · exact nd2.1 z
      · exact z.1 _ pin
    have hp : some (setS G.S i (some (.lst .ow xs'))) = some S' := by
      unfold putL at hp
      rw [show slot G.S i = some (.lst .ow xs) by unfold slot; rw [show G.S.1[i]? = _ from hs]; rfl] at hp
      exact hp
    cases hp
    let G' : Gh := { G with H := upd G.H p (.lst vs'), fp := fun k => if k = .s i then p :: gs' else G.fp k, τ := G.τ.set i (some (.lst .ow xs')), O := G.O }
    have fs : G'.fp (.s i) = p :: gs' := if_pos rfl
    have fn : ∀ {k}, k ≠ .s i → G'.fp k = G.fp k := fun e => if_neg e
    have sub : ∀ k a, a ∈ G'.fp k → (a ∈ G.fp k) ∨ (k = .s i ∧ a ∈ gs' ∧ (∀ k, a ∉ G.fp k) ∧ a ∉ G.ad ∧ G.P a = none) := fun k a m => by
      by_cases e : k = .s i
      · subst e
        rw [fs] at m
        rcases List.mem_cons.mp m with z | m
        · rw [z]; exact .inl pin
        · rcases out' a m with z | z
          · exact .inl (gin a z)
          · exact .inr ⟨rfl, m, z⟩
      · rw [fn e] at m; exact .inl m
    have ne_p : ∀ {k}, k ≠ .s i → p ∉ G.fp k := fun e m => e (g.dj _ _ p m pin)
    have good : Good K ca σ G' := by
      refine { k := g.k, c := g.c, len := (List.length_set ..).trans g.len, fp := g.fp, ph := g.ph.upd (g.pn _ p pin), nd := fun k => ?_, dj := fun k k' a m m' => ?_, pn := fun k a m => ?_, adn := g.adn, adp := g.adp, ado := fun a m k q => ?_, sl := fun j u e => ?_, sn := fun j e => ?_, ob := fun n b e => ?_, on := fun n e => ?_, ln := g.ln }
      · by_cases e : k = .s i
        · subst e; rw [fs]; exact List.nodup_cons.mpr ⟨pn', nd'⟩
        · rw [fn e]; exact g.nd k
      · rcases sub k a m with z | ⟨z, _, y, _⟩ <;> rcases sub k' a m' with z' | ⟨z', _, y', _⟩
        · exact g.dj _ _ a z z'
        · exact absurd z (y' _)
        · exact absurd z' (y _)
        · rw [z, z']
      · rcases sub k a m with z | ⟨_, _, _, _, y⟩
        · exact g.pn _ a z
        · exact y
      · rcases sub k a q with z | ⟨_, _, _, y, _⟩
        · exact g.ado a m _ z
        · exact y m
      · rcases setAt (show (G.τ.set i (some (.lst .ow xs')))[j]? = some (some u) from e) with ⟨ej, q, _⟩ | ⟨ne, q⟩
        · subst ej
          cases q
          refine ⟨.ref p, e1, ?_⟩
          rw [fs]
          exact ⟨p, vs', gs', rfl, upd_same, Reps.ex _ _ _ (ex_upd pn') r', rfl⟩
        · obtain ⟨v', a', r2⟩ := g.sl j u q
          have nej : Own.s j ≠ .s i := by intro z; cases z; exact ne rfl
          exact ⟨v', a', by rw [fn nej]; exact Rep.ex _ _ _ (ex_upd (ne_p nej)) r2⟩
      · by_cases ej : j = i
        · subst ej
          exact absurd (show (G.τ.set j (some (.lst .ow xs')))[j]? = some (some (.lst .ow xs')) by rw [List.getElem?_set_self li]) (e _)
        · rw [fn (by intro z; cases z; exact ej rfl)]
          refine g.sn j fun u q => e u ?_
          show (G.τ.set i _)[j]? = _
          rw [List.getElem?_set_ne (Ne.symm ej)]
          exact q
      · obtain ⟨q, a', r2⟩ := g.ob n b e
        rw [fn (by intro z; cases z)]
        refine ⟨q, a', r2.ex (ex_upd fun m => ?_)⟩
        rcases List.mem_cons.mp m with z | m
        · subst z; exact g.ado p (List.mem_of_getElem? a') _ pin
        · exact ne_p (by intro z; cases z) m
      · rw [fn (by intro z; cases z)]; exact g.on n e
    refine ⟨G', rfl, rfl, good, fun G0 ef s n => { s with fr := fun a u e h1 h2 => ?_, dom := fun a e => ?_, gnew := fun k a m => ?_, q := fun e => by cases e }, fun v t g2 m ap => ⟨Rep.ex _ _ _ (ex_upd fun z => (m.out p z).1 _ pin) m.rep, m.nd, fun a q => ?_⟩⟩
    · show upd G.H p _ a = _
      rw [upd_ne fun z => by
        subst z
        rcases s.gnew _ a pin with ⟨k', y⟩ | y
        · exact h1 _ y
        · rw [e] at y; cases y]
      exact s.fr a u e h1 h2
    · show upd G.H p _ a ≠ none
      by_cases z : a = p
      · rw [z, upd_same]; simp
      · rw [upd_ne z]; exact s.dom a e
    · rcases sub k a m with z | ⟨_, z, _⟩
      · exact s.gnew _ a z
      · exact (n a z).symm
    · obtain ⟨o1, o2, o3⟩ := m.out a q
      refine ⟨fun k z => ?_, o2, o3⟩
      rcases sub k a z with y | ⟨_, y, _⟩
      · exact o1 _ y
      · exact ap a q y
  · rename_i n hs
    split at h
    · rename_i ys hx
      cases h
      have hs' := slot_some hs
      obtain ⟨v, e1, p, rfl, e2, e3⟩ := g.sl i _ hs'
      obtain ⟨q, e4, vs, e5, r, nb⟩ := g.ob n (.lst xs) hx
      have e2 : G.ad[n]? = some p := e2
      rw [e2] at e4
      cases e4
      have ln : n < G.O.length := (List.getElem?_eq_some_iff.mp (show G.O[n]? = _ from hx)).1
      have pad : p ∈ G.ad := List.mem_of_getElem? e2
      refine ⟨p, vs, G.fp (.o n), e1, e5, r, g.nd _, fun a m => ⟨_, m⟩, .inr pad, fun xs' vs' gs' S' hp r' nd' out' => ?_⟩
      have pn' : p ∉ gs' := fun m => by
        rcases out' p m with z | z
        · exact g.ado p pad _ z
        · exact z.2.1 pad
      unfold putL at hp
      rw [hs] at hp
      have hp : (if noBrs xs' then some (G.τ, G.O.set n (.lst xs')) else none) = some S' := hp
      split at hp
      case isFalse => cases hp
      rename_i nb'
      cases hp
      let G' : Gh := { G with H := upd G.H p (.lst vs'), fp := fun k => if k = .o n then gs' else G.fp k, τ := G.τ, O := G.O.set n (.lst xs') }
      have fs : G'.fp (.o n) = gs' := if_pos rfl
      have fn : ∀ {k}, k ≠ .o n → G'.fp k = G.fp k := fun e => if_neg e
      have sub : ∀ k a, a ∈ G'.fp k → (a ∈ G.fp k) ∨ (k = .o n ∧ a ∈ gs' ∧ (∀ k, a ∉ G.fp k) ∧ a ∉ G.ad ∧ G.P a = none) := fun k a m => by
        by_cases e : k = .o n
        · subst e
          rw [fs] at m
          rcases out' a m with z | z
          · exact .inl z
          · exact .inr ⟨rfl, m, z⟩
        · rw [fn e] at m; exact .inl m
      have ne_p : ∀ {k}, p ∉ G.fp k := fun {k} m => g.ado p pad k m
      have good : Good K ca σ G' := by
        refine { k := g.k, c := g.c, len := g.len, fp := g.fp, ph := g.ph.upd (g.adp p pad), nd := fun k => ?_, dj := fun k k' a m m' => ?_, pn := fun k a m => ?_, adn := g.adn, adp := g.adp, ado := fun a m k q => ?_, sl := fun j u e => ?_, sn := fun j e => ?_, ob := fun m b e => ?_, on := fun m e => ?_, ln := by show G.ad.length = (G.O.set n _).length; rw [List.length_set]; exact g.ln }
        · by_cases e : k = .o n
          · subst e; rw [fs]; exact nd'
          · rw [fn e]; exact g.nd k
        · rcases sub k a m with z | ⟨z, _, y, _⟩ <;> rcases sub k' a m' with z' | ⟨z', _, y', _⟩
          · exact g.dj _ _ a z z'
          · exact absurd z (y' _)
          · exact absurd z' (y _)
          · rw [z, z']
        · rcases sub k a m with z | ⟨_, _, _, _, y⟩
          · exact g.pn _ a z
          · exact y
        · rcases sub k a q with z | ⟨_, _, _, y, _⟩
          · exact g.ado a m _ z
          · exact y m
        · obtain ⟨v', a', r2⟩ := g.sl j u e
          exact ⟨v', a', by rw [fn (by intro z; cases z)]; exact Rep.ex _ _ _ (ex_upd ne_p) r2⟩
        · rw [fn (by intro z; cases z)]; exact g.sn j e
        · rcases setAt (show (G.O.set n (.lst xs'))[m]? = some b from e) with ⟨ej, q, _⟩ | ⟨ne, q⟩
          · subst ej
            cases q
            refine ⟨p, e2, ?_⟩
            rw [fs]
            exact ⟨vs', upd_same, Reps.ex _ _ _ (ex_upd pn') r', nb'⟩
          · obtain ⟨q', a', r2⟩ := g.ob m b q
            rw [fn (by intro z; cases z; exact ne rfl)]
            refine ⟨q', a', r2.ex (ex_upd fun mm => ?_)⟩
            rcases List.mem_cons.mp mm with z | mm
            · subst z
              obtain ⟨l1, h1⟩ := List.getElem?_eq_some_iff.mp a'
              obtain ⟨l2, h2⟩ := List.getElem?_eq_some_iff.mp e2
              exact ne ((List.getElem_inj g.adn).mp (h2.trans h1.symm))
            · exact ne_p mm
        · by_cases ej : m = n
          · subst ej
            have e : (G.O.set m (.lst xs'))[m]? = none := e
            rw [List.getElem?_set_self ln] at e
            cases e
          · rw [fn (by intro z; cases z; exact ej rfl)]
            refine g.on m ?_
            have e : (G.O.set n (.lst xs'))[m]? = none := e
            rw [List.getElem?_set_ne (Ne.symm ej)] at e
            exact e
      refine ⟨G', rfl, rfl, good, fun G0 ef s n => { s with fr := fun a u e h1 h2 => ?_, dom := fun a e => ?_, gnew := fun k a m => ?_, q := fun e => by cases e }, fun v t g2 m ap => ⟨Rep.ex _ _ _ (ex_upd fun z => (m.out p z).2.1 pad) m.rep, m.nd, fun a q => ?_⟩⟩
      · show upd G.H p _ a = _
        rw [upd_ne fun z => by
          subst z
          rcases s.anew _ pad with y | y | ⟨k', y⟩
          · exact h2 y
          · rw [e] at y; cases y
          · exact h1 _ y]
        exact s.fr a u e h1 h2
      · show upd G.H p _ a ≠ none
        by_cases z : a = p
        · rw [z, upd_same]; simp
        · rw [upd_ne z]; exact s.dom a e
      · rcases sub k a m with z | ⟨_, z, _⟩
        · exact s.gnew _ a z
        · exact (n a z).symm
      · obtain ⟨o1, o2, o3⟩ := m.out a q
        refine ⟨fun k z => ?_, o2, o3⟩
        rcases sub k a z with y | ⟨_, y, _⟩
        · exact o1 _ y
        · exact ap a q y
    · cases h
  · cases h
theorem getL_ty {i : Nat} {xs : List T} (g : Good K ca σ G) (h : getL G.S i = some xs) : ∃ p, σ[i]? = some (some (.ref p)) ∧ tyV K "list" (.ref p) G.H := by
  obtain ⟨p, vs, gs, e1, e2, _⟩ := g.mutL h
  exact ⟨p, e1, .inl ⟨rfl, vs, SqL.of e2⟩⟩
/-- a child put in another's place -/
theorem Reps.set {c : Hc} : ∀ {ts : List T} {vs : List V} {g : List Addr} {j : Nat} {t : T} {v : V} {gt : List Addr}, Reps c ts vs g → g.Nodup → Rep c t v gt → gt.Nodup → (∀ a ∈ gt, a ∉ g) → ∃ g', Reps c (ts.set j t) (vs.set j v) g' ∧ g'.Nodup ∧ ∀ a ∈ g', a ∈ g ∨ a ∈ gt
  | [], _, _, j, _, _, _, ⟨a, b⟩, _, _, _, _ => by
    subst a b
    exact ⟨[], ⟨rfl, rfl⟩, List.nodup_nil, fun _ m => absurd m (by simp)⟩
  | u :: ts, _, _, 0, t, v, gt, ⟨w, r, ga, gb, a, b, d, q⟩, nd, rt, ndt, ap => by
    subst a b
    have n2 := List.nodup_append.mp nd
    refine ⟨gt ++ gb, ⟨v, r, gt, gb, rfl, rfl, rt, q⟩, List.nodup_append.mpr ⟨ndt, n2.2.1, fun x m y m' e => ap x m (by rw [e]; exact List.mem_append_right _ m')⟩, fun x m => ?_⟩
    rcases List.mem_append.mp m with m | m
    · exact .inr m
    · exact .inl (List.mem_append_right _ m)
  | u :: ts, _, _, j + 1, t, v, gt, ⟨w, r, ga, gb, a, b, d, q⟩, nd, rt, ndt, ap => by
    subst a b
    have n2 := List.nodup_append.mp nd
    obtain ⟨g', r', nd', sub⟩ := Reps.set (j := j) q n2.2.1 rt ndt fun x m z => ap x m (List.mem_append_right _ z)
    refine ⟨ga ++ g', ⟨w, r.set j v, ga, g', rfl, rfl, d, r'⟩, List.nodup_append.mpr ⟨n2.1, nd', fun x m y m' e => ?_⟩, fun x m => ?_⟩
    · subst e
      rcases sub x m' with z | z
      · exact n2.2.2 x m x z rfl
      · exact ap x z (List.mem_append_left _ m)
    · rcases List.mem_append.mp m with m | m
      · exact .inl (List.mem_append_left _ m)
      · rcases sub x m with z | z
        · exact .inl (List.mem_append_right _ z)
        · exact .inr z
end
/-! ### mirrors -/
def dApp (i : Nat) (d : DE) : DE := fun S => (getL S i).bind fun _ => (d S).bind fun p => (getL p.2 i).bind fun xs => if xs.length < sizeLine then (putL p.2 i (xs ++ [p.1])).bind fun S' => some (.non, S') else none
/-- extend by a list whose items have no nodes -/
def dExt (i : Nat) (a : DO) : DE := fun S => (getL S i).bind fun _ => (a S).bind fun p => (p.1.res p.2).bind fun y => (getL p.2 i).bind fun xs => match y with
  | .lst m ys => if (m ≠ .sc ∧ noOws ys = true) ∧ xs.length + ys.length ≤ sizeLine then (putL p.2 i (xs ++ ys)).bind fun S' => some (.non, S') else none
  | _ => none
def dPopL (i : Nat) : DE := fun S => (getL S i).bind fun xs => (xs[xs.length - 1]?).bind fun t => if t.noOw then (putL S i xs.dropLast).bind fun S' => some (t, S') else none
def dRev (i : Nat) : DE := fun S => (getL S i).bind fun xs => if noOws xs then (putL S i xs.reverse).bind fun S' => some (.non, S') else none
/-- x[k] = .., the list in slot i -/
def gIx (i : Nat) (d : DE) : DG := fun t S => (getL S i).bind fun _ => (d S).bind fun p => (getL p.2 i).bind fun xs => match p.1 with
  | .int k => (ixN xs.length k).bind fun j => putL p.2 i (xs.set j t)
  | _ => none
section
variable {X : Cx} {ca : Str → Addr} {e o : Expr} {es : List Expr} {ef : Bool} {apos cpos pos : Pos}
theorem ex_app {i : Nat} {d : DE} (ho : PE X o (tVar i)) (h : EX ca X e ef d) (hbase : attributeBase o "append" X.env (eval o X.env) = eval o X.env := by rfl)
    (hfew : ((backTo cpos (starEach [e] X.env)).all (fun x => !x.1) && (backToKw cpos (keywordEach [] X.env)).all (fun x => x.1.isSome)
      && decide (([e] : List Expr).length + ([] : List Keyword).length + (if ([] : List Keyword).isEmpty then 0 else 1) < 30)) = true := by rfl)
    (hline : (apos.endLine == cpos.line) = true := by rfl) (hs : starEach [e] X.env = (false, eval e X.env) :: starEach [] X.env := by rfl) (hplain : (backTo cpos (starEach [] X.env)).any (·.1) = false := by rfl) : EX ca X (.Call (.Attribute o "append" apos) [e] [] cpos) true (dApp i d) :=
  PE.imp (pe_bm PySem.F.plainAttrs_list PySem.F.slot_list_append PySem.F.type_list_append mt_append ho (pa_cons h pa_nil hs) hbase hfew hline hs hplain) fun σ H Q w => by
    obtain ⟨G, rfl, g, r, S', e1, k⟩ := w
    obtain ⟨x0, h0, e1⟩ := Option.bind_eq_some_iff.mp e1
    obtain ⟨p, h1, e1⟩ := Option.bind_eq_some_iff.mp e1
    obtain ⟨xs, h2, e1⟩ := Option.bind_eq_some_iff.mp e1
    split at e1
    case isFalse => cases e1
    rename_i hl
    obtain ⟨S2, h3, e1⟩ := Option.bind_eq_some_iff.mp e1
    cases e1
    obtain ⟨q, hq, ty⟩ := getL_ty g h0
    refine ⟨_, hq, ty, G, rfl, g, p.1, p.2, h1, fun G1 v gv a1 a2 a3 a4 a5 => ?_⟩
    obtain ⟨q', vs, gs, e2, e3, rr, nd, ow, _, mk⟩ := a2.mutL (by rw [a1]; exact h2)
    rw [hq] at e2
    cases e2
    have apart : ∀ a ∈ gs, a ∉ gv := fun a m z => by
      obtain ⟨kk, y⟩ := ow a m
      exact (a4.out a z).1 kk y
    have rn : Reps G1.toHc (xs ++ [p.1]) (vs ++ [v]) (gs ++ gv) := rr.append ⟨v, [], gv, [], rfl, by simp, a4.rep, rfl, rfl⟩
    obtain ⟨G', b1, b2, b3, b4, _⟩ := mk (xs ++ [p.1]) (vs ++ [v]) (gs ++ gv) _ (by rw [a1]; exact h3) rn (List.nodup_append.mpr ⟨nd, a4.nd, fun a m b m' z => apart a m (by rw [z]; exact m')⟩) fun a m => (List.mem_append.mp m).imp id fun z => a4.out a z
    refine ⟨q, vs, v, rfl, rfl, e3, by rw [rr.len]; exact hl, ?_⟩
    rw [← b1]
    refine k G' .non [] b2 b3 (b4 G ef a3 fun a m => ?_) (.bare ⟨rfl, rfl⟩) New.nil
    rcases List.mem_append.mp m with m | m
    · obtain ⟨kk, y⟩ := ow a m
      exact (a3.gnew kk a y).symm
    · exact a5 a m
theorem ex_ext {i : Nat} {d : DO} (ho : PE X o (tVar i)) (h : OX ca X e ef d) (hbase : attributeBase o "extend" X.env (eval o X.env) = eval o X.env := by rfl)
    (hfew : ((backTo cpos (starEach [e] X.env)).all (fun x => !x.1) && (backToKw cpos (keywordEach [] X.env)).all (fun x => x.1.isSome)
      && decide (([e] : List Expr).length + ([] : List Keyword).length + (if ([] : List Keyword).isEmpty then 0 else 1) < 30)) = true := by rfl)
    (hline : (apos.endLine == cpos.line) = true := by rfl) (hs : starEach [e] X.env = (false, eval e X.env) :: starEach [] X.env := by rfl) (hplain : (backTo cpos (starEach [] X.env)).any (·.1) = false := by rfl) : EX ca X (.Call (.Attribute o "extend" apos) [e] [] cpos) true (dExt i d) :=
  PE.imp (pe_bm PySem.F.plainAttrs_list PySem.F.slot_list_extend PySem.F.type_list_extend mt_extend ho (pa_cons h pa_nil hs) hbase hfew hline hs hplain) fun σ H Q w => by
    obtain ⟨G, rfl, g, r, S', e1, k⟩ := w
    obtain ⟨x0, h0, e1⟩ := Option.bind_eq_some_iff.mp e1
    obtain ⟨p, h1, e1⟩ := Option.bind_eq_some_iff.mp e1
    obtain ⟨y, h2, e1⟩ := Option.bind_eq_some_iff.mp e1
    obtain ⟨xs, h3, e1⟩ := Option.bind_eq_some_iff.mp e1
    obtain ⟨q, hq, ty⟩ := getL_ty g h0
    refine ⟨_, hq, ty, G, rfl, g, p.1, p.2, h1, fun G1 v gv a1 a2 a3 a4 a5 => ?_⟩
    obtain ⟨gy, ry⟩ := a4.rep a2 (by rw [a1]; exact h2)
    obtain ⟨m, ys, rfl⟩ : ∃ m ys, y = .lst m ys := by
      cases y with
      | lst m ys => exact ⟨m, ys, rfl⟩
      | _ => cases e1
    have e1 : (if (m ≠ .sc ∧ noOws ys = true) ∧ xs.length + ys.length ≤ sizeLine then (putL p.2 i (xs ++ ys)).bind fun S' => some (T.non, S') else none) = some (r, S') := e1
    split at e1
    case isFalse => cases e1
    rename_i hl
    obtain ⟨S2, h4, e1⟩ := Option.bind_eq_some_iff.mp e1
    cases e1
    obtain ⟨b, ws, gw, rfl, _, rw', tr, _⟩ := Rep.lstL a2.fp a2.ph ry
    obtain ⟨q', vs, gs, e2, e3, rr, nd, ow, _, mk⟩ := a2.mutL (by rw [a1]; exact h3)
    rw [hq] at e2
    cases e2
    have rn : Reps G1.toHc (xs ++ ys) (vs ++ ws) (gs ++ []) := rr.append (rw'.bare hl.1.2)
    rw [List.append_nil] at rn
    obtain ⟨G', b1, b2, b3, b4, _⟩ := mk (xs ++ ys) (vs ++ ws) gs _ (by rw [a1]; exact h4) rn nd fun a m => .inl m
    refine ⟨q, b, vs, ws, rfl, rfl, e3, tr hl.1.1, by rw [rr.len, rw'.len]; exact hl.2, ?_⟩
    rw [← b1]
    refine k G' .non [] b2 b3 (b4 G ef a3 fun a m => ?_) (.bare ⟨rfl, rfl⟩) New.nil
    obtain ⟨kk, y⟩ := ow a m
    exact (a3.gnew kk a y).symm
theorem ex_popL {i : Nat} (ho : PE X o (tVar i)) (hbase : attributeBase o "pop" X.env (eval o X.env) = eval o X.env := by rfl) (hline : (apos.endLine == cpos.line) = true := by rfl) : EX ca X (.Call (.Attribute o "pop" apos) [] [] cpos) true (dPopL i) :=
  PE.imp (pe_bm0 PySem.F.plainAttrs_list PySem.F.slot_list_pop PySem.F.type_list_pop mt_pop ho hbase hline) fun σ H Q w => by
    obtain ⟨G, rfl, g, r, S', e1, k⟩ := w
    obtain ⟨xs, h0, e1⟩ := Option.bind_eq_some_iff.mp e1
    obtain ⟨t, h1, e1⟩ := Option.bind_eq_some_iff.mp e1
    split at e1
    case isFalse => cases e1
    rename_i no
    obtain ⟨S2, h3, e1⟩ := Option.bind_eq_some_iff.mp e1
    cases e1
    obtain ⟨q, hq, ty⟩ := getL_ty g h0
    obtain ⟨q', vs, gs, e2, e3, rr, nd, ow, _, mk⟩ := g.mutL h0
    rw [hq] at e2
    cases e2
    obtain ⟨v, gt, e4, e5, _⟩ := rr.get h1
    have e6 := Rep.noOw _ _ _ no e5
    subst e6
    -- what is left
    have cut : ∀ {ts : List T} {ws : List V} {gg : List Addr}, Reps G.toHc ts ws gg → gg.Nodup → ∃ g', Reps G.toHc ts.dropLast ws.dropLast g' ∧ g'.Nodup ∧ ∀ a ∈ g', a ∈ gg := by
      intro ts
      induction ts with
      | nil => intro ws gg r _; obtain ⟨rfl, rfl⟩ := r; exact ⟨[], ⟨rfl, rfl⟩, List.nodup_nil, fun _ m => m⟩
      | cons u ts ih =>
        intro ws gg r nd
        obtain ⟨w, r', ga, gb, rfl, rfl, ru, rs⟩ := r
        cases ts with
        | nil => obtain ⟨rfl, rfl⟩ := rs; exact ⟨[], ⟨rfl, rfl⟩, List.nodup_nil, fun _ m => absurd m (by simp)⟩
        | cons u2 ts =>
          have n2 := List.nodup_append.mp nd
          obtain ⟨g', h1, h2, h3⟩ := ih rs n2.2.1
          have e : (w :: r').dropLast = w :: r'.dropLast := by
            have := rs.len
            cases r' with
            | nil => simp at this
            | cons a b => rfl
          refine ⟨ga ++ g', ⟨w, r'.dropLast, ga, g', e, rfl, ru, h1⟩, List.nodup_append.mpr ⟨n2.1, h2, fun x m y m' z => n2.2.2 x m y (h3 y m') z⟩, fun a m => ?_⟩
          rcases List.mem_append.mp m with m | m
          · exact List.mem_append_left _ m
          · exact List.mem_append_right _ (h3 a m)
    obtain ⟨g', c1, c2, c3⟩ := cut rr nd
    obtain ⟨G', b1, b2, b3, b4, b5⟩ := mk xs.dropLast vs.dropLast g' _ h3 c1 c2 fun a m => .inl (c3 a m)
    refine ⟨_, hq, ty, q, vs, v, rfl, rfl, e3, by rw [rr.len]; exact e4, ?_⟩
    rw [← b1]
    exact k G' v [] b2 b3 (b4 G false (Step.refl _) fun a m => .inr (ow a (c3 a m))) (b5 v r [] (.bare e5) fun _ m => absurd m (by simp)) New.nil
theorem ex_revL {i : Nat} (ho : PE X o (tVar i)) (hbase : attributeBase o "reverse" X.env (eval o X.env) = eval o X.env := by rfl) (hline : (apos.endLine == cpos.line) = true := by rfl) : EX ca X (.Call (.Attribute o "reverse" apos) [] [] cpos) true (dRev i) :=
  PE.imp (pe_bm0 PySem.F.plainAttrs_list PySem.F.slot_list_reverse PySem.F.type_list_reverse mt_reverse ho hbase hline) fun σ H Q w => by
    obtain ⟨G, rfl, g, r, S', e1, k⟩ := w
    obtain ⟨xs, h0, e1⟩ := Option.bind_eq_some_iff.mp e1
    split at e1
    case isFalse => cases e1
    rename_i no
    obtain ⟨S2, h3, e1⟩ := Option.bind_eq_some_iff.mp e1
    cases e1
    obtain ⟨q, hq, ty⟩ := getL_ty g h0
    obtain ⟨q', vs, gs, e2, e3, rr, nd, ow, _, mk⟩ := g.mutL h0
    rw [hq] at e2
    cases e2
    have rb := rr.bare no
    have r2 : Reps G.toHc xs.reverse vs.reverse [] := rb.sub no (by rw [List.length_reverse, List.length_reverse, rb.len]) fun j u w a b => by
      have hj : j < xs.length := by simpa using (List.getElem?_eq_some_iff.mp a).1
      rw [List.getElem?_reverse hj] at a
      rw [List.getElem?_reverse (by rw [rb.len]; exact hj), rb.len] at b
      exact ⟨_, a, b⟩
    obtain ⟨G', b1, b2, b3, b4, b5⟩ := mk xs.reverse vs.reverse [] _ h3 r2 List.nodup_nil fun a m => absurd m (by simp)
    refine ⟨_, hq, ty, q, vs, rfl, rfl, e3, ?_⟩
    rw [← b1]
    exact k G' .non [] b2 b3 (b4 G false (Step.refl _) New.nil) (.bare ⟨rfl, rfl⟩) New.nil
theorem gx_ix {i : Nat} {ix : Expr} {d : DE} (ho : PE X o (tVar i)) (h : EX ca X ix ef d) (ha : ∀ v, assign (.Subscript o ix pos) X.env v = (do
      let ov ← holding [v] (eval o X.env)
      let iv ← holding [v, ov] (eval ix X.env)
      standAt pos
      holding [v, ov, iv] (setItem ov iv v)
      release [v, ov, iv] []) := by intro _; rfl) : GX ca X (.Subscript o ix pos) [] (gIx i d) :=
  PG.imp (pg_sub ho h set_list ha) fun v σ H Q w => by
    obtain ⟨G, t, gt, rfl, g, m, S', e1, k⟩ := w
    obtain ⟨x0, h0, e1⟩ := Option.bind_eq_some_iff.mp e1
    obtain ⟨p, h1, e1⟩ := Option.bind_eq_some_iff.mp e1
    obtain ⟨xs, h2, e1⟩ := Option.bind_eq_some_iff.mp e1
    split at e1
    case h_2 => cases e1
    rename_i kk hk
    obtain ⟨j, h3, h4⟩ := Option.bind_eq_some_iff.mp e1
    obtain ⟨q, hq, ty⟩ := getL_ty g h0
    refine ⟨_, hq, G, rfl, g, p.1, p.2, h1, fun G1 u gu a1 a2 a3 a4 a5 => ?_⟩
    have ru := a4.rep
    rw [hk] at ru
    obtain ⟨rfl, _⟩ := ru
    obtain ⟨q', vs, gs, e2, e3, rr, nd, ow, _, mk⟩ := a2.mutL (by rw [a1]; exact h2)
    rw [hq] at e2
    cases e2
    have m1 := m.step a3
    have ap : ∀ a ∈ gt, a ∉ gs := fun a z y => by
      obtain ⟨k2, y⟩ := ow a y
      exact (m1.out a z).1 k2 y
    obtain ⟨g', r', nd', sub⟩ := Reps.set (j := j) rr nd m1.rep m1.nd ap
    obtain ⟨G', b1, b2, b3, b4, b5⟩ := mk (xs.set j t) (vs.set j v) g' _ (by rw [a1]; exact h4) r' nd' fun a z => (sub a z).imp id fun y => m1.out a y
    refine ⟨q, vs, kk, j, rfl, rfl, e3, by rw [rr.len]; exact h3, ?_⟩
    rw [← b1]
    refine k G' σ b2 b3 (fun G0 ef' s n => b4 G0 true (s.trans a3).loud fun a z => ?_) (fun v2 t2 g2 m2 ap2 => b5 v2 t2 g2 (m2.step a3) fun a z y => ?_) fun _ _ => rfl
    · rcases sub a z with y | y
      · obtain ⟨k2, y⟩ := ow a y
        rcases a3.gnew k2 a y with ⟨k3, w⟩ | w
        · exact (s.gnew k3 a w).symm
        · left
          cases q2 : G0.H a with
          | none => rfl
          | some o => exact absurd w (s.dom a (by rw [q2]; simp))
      · exact n a y
    · rcases sub a y with w | w
      · obtain ⟨k2, w⟩ := ow a w
        exact ((m2.step a3).out a z).1 k2 w
      · exact ap2 a z w
end
end TL

set_option Elab.async false
set_option linter.all false
set_option maxRecDepth 100000
/-! TL11: built-in functions, isinstance, == and in. -/
namespace TL
open PySem PySem.Spec L2

/-- the arguments looked at -/
def lookAll (S : SS) : List Arg → Option (List T)
  | [] => some []
  | a :: as => (a.res S).bind fun t => (lookAll S as).bind fun ts => some (t :: ts)
def dB (f : List T → Option T) (a : DA) : DE := fun S => (a S).bind fun p => (lookAll p.2 p.1).bind fun ts => (f ts).bind fun z => some (z, p.2)
/-- values looked at as trees -/
inductive LookAt (c : Hc) : List T → List V → Prop
  | nil : LookAt c [] []
  | cons {t : T} {v : V} {g : List Addr} {ts : List T} {vs : List V} : Rep c t v g → LookAt c ts vs → LookAt c (t :: ts) (v :: vs)
section
variable {X : Cx} {ca : Str → Addr} {ef : Bool} {p pos : Pos}
theorem look_of {K : PySem.W.Frag} {σ : L2.St} {G : Gh} (gd : Good K ca σ G) : ∀ {as : List Arg} {ts : List T} {vs : List V} {g : List Addr}, lookAll G.S as = some ts → ArgsAt G σ as vs g → LookAt G.toHc ts vs
  | [], ts, vs, g, e, ⟨h1, h2⟩ => by cases e; rw [h1]; exact .nil
  | a :: as, ts, vs, g, e, ⟨v, r, ga, gb, e1, e2, h, hr, d⟩ => by
    obtain ⟨t, e3, e⟩ := Option.bind_eq_some_iff.mp (show (a.res G.S).bind (fun t => (lookAll G.S as).bind fun ts => some (t :: ts)) = some ts from e)
    obtain ⟨us, e4, e⟩ := Option.bind_eq_some_iff.mp e
    cases e
    obtain ⟨gt, rt⟩ := h.rep gd e3
    rw [e1]
    exact .cons rt (look_of gd e4 hr)
def OpN (X : Cx) (ca : Str → Addr) (r : List V → Hp → VK → Prop) (f : List T → Option T) : Prop := ∀ (σ : L2.St) (G : Gh) (ts : List T) (z : T) (vs : List V) (Q : VK), Good X.K ca σ G → LookAt G.toHc ts vs → f ts = some z →
  (∀ G' u g, G'.S = G.S → Good X.K ca σ G' → Step false G G' → Tmp G' u z g → New G g → Q u G'.H) → r vs G.H Q
theorem nary_of {r : List V → Hp → VK → Prop} {f : List T → Option T} {da : DA} (o : OpN X ca r f) {σ : L2.St} {H : Hp} {Q : VK} (w : liftE X.K ca ef (dB f da) σ H Q) : liftA X.K ca ef da σ H fun vs H1 => r vs H1 Q := by
  obtain ⟨G, rfl, g, z, S', e1, k⟩ := w
  obtain ⟨q, h1, e1⟩ := Option.bind_eq_some_iff.mp e1
  obtain ⟨ts, h2, e1⟩ := Option.bind_eq_some_iff.mp e1
  obtain ⟨z', h3, e1⟩ := Option.bind_eq_some_iff.mp e1
  cases e1
  refine ⟨G, rfl, g, q.1, q.2, h1, fun G1 vs gv a1 a2 a3 a4 a5 => ?_⟩
  exact o σ G1 ts z vs Q a2 (look_of a2 (by rw [a1]; exact h2) a4) h3 fun G' u gu c1 c2 c3 c4 c5 => k G' u gu (c1.trans a1) c2 ((a3.trans c3).weak fun e => by rw [e]; rfl) c4 (c5.step a3)
theorem ex_callB {id : String} {x : Str} {r : List V → Hp → VK → Prop} {f : List T → Option T} {e : Expr} {es : List Expr} {da : DA} (hc : CallR X (.builtin id) r) (o : OpN X ca r f) (hm : X.mg x = none) (ha : AX ca X (e :: es) ef da) (hg : Gl X x := by rfl) (hv : bootBuiltins x = some (.builtin id) := by decide +kernel)
    (hn : x ≠ "__name__" := by decide) (hdb : (x == ("__debug__" : Str)) = false := by decide)
    (he : starEach (e :: es) X.env = (false, eval e X.env) :: starEach es X.env := by rfl) (hpl : (backTo pos (starEach es X.env)).any (·.1) = false := by rfl) : EX ca X (.Call (.Name x p) (e :: es) [] pos) ef (dB f da) :=
  PE.imp (pe_callB hc hg hm hv ha hn hdb he hpl) fun σ H Q w => nary_of o w
theorem ex_callTy {Ty : String} {x : Str} {r : List V → Hp → VK → Prop} {f : List T → Option T} {e : Expr} {es : List Expr} {da : DA} (hc : CallR X (.type Ty) r) (o : OpN X ca r f) (hm : X.mg x = none) (ha : AX ca X (e :: es) ef da) (hg : Gl X x := by rfl) (hv : bootBuiltins x = some (.type Ty) := by decide +kernel)
    (hn : x ≠ "__name__" := by decide) (hdb : (x == ("__debug__" : Str)) = false := by decide)
    (he : starEach (e :: es) X.env = (false, eval e X.env) :: starEach es X.env := by rfl) (hpl : (backTo pos (starEach es X.env)).any (·.1) = false := by rfl) : EX ca X (.Call (.Name x p) (e :: es) [] pos) ef (dB f da) :=
  PE.imp (pe_callTy hc hg hm hv ha hn hdb he hpl) fun σ H Q w => nary_of o w
theorem CallR.or {f : Value} {r r' : List V → Hp → VK → Prop} (h : CallR X f r) (h' : CallR X f r') : CallR X f fun vs H Q => r vs H Q ∨ r' vs H Q := by
  intro pins s σ H xs us Q I rv w
  rcases w with w | w
  · exact h pins s σ H xs us Q I rv w
  · exact h' pins s σ H xs us Q I rv w
theorem look1 {c : Hc} {t : T} {vs : List V} (l : LookAt c [t] vs) : ∃ v g, vs = [v] ∧ Rep c t v g := by
  cases l with
  | cons r l => cases l; exact ⟨_, _, rfl, r⟩
theorem look2 {c : Hc} {t u : T} {vs : List V} (l : LookAt c [t, u] vs) : ∃ v w g g', vs = [v, w] ∧ Rep c t v g ∧ Rep c u w g' := by
  cases l with
  | cons r l => cases l with
    | cons r' l => cases l; exact ⟨_, _, _, _, rfl, r, r'⟩
/-! lists of ints, of bools, of texts -/
def intsT : List T → Option (List Int)
  | [] => some []
  | .int i :: ts => (intsT ts).bind fun is => some (i :: is)
  | _ :: _ => none
def blsT : List T → Option (List Bool)
  | [] => some []
  | .bl i :: ts => (blsT ts).bind fun is => some (i :: is)
  | _ :: _ => none
def strsT : List T → Option (List Str)
  | [] => some []
  | .str i :: ts => (strsT ts).bind fun is => some (i :: is)
  | _ :: _ => none
theorem ints_vs {c : Hc} : ∀ {ts : List T} {is : List Int} {vs : List V} {g : List Addr}, intsT ts = some is → Reps c ts vs g → vs = is.map V.int
  | [], _, _, _, e, ⟨a, _⟩ => by cases e; exact a
  | t :: ts, is, _, _, e, ⟨v, r, ga, gb, a, _, d, q⟩ => by
    cases t with
    | int i =>
      obtain ⟨js, h, e⟩ := Option.bind_eq_some_iff.mp (show (intsT ts).bind (fun is => some (i :: is)) = some is from e)
      cases e
      rw [a, ints_vs h q, d.1]
      rfl
    | _ => cases e
theorem bls_vs {c : Hc} : ∀ {ts : List T} {is : List Bool} {vs : List V} {g : List Addr}, blsT ts = some is → Reps c ts vs g → vs = is.map V.bl
  | [], _, _, _, e, ⟨a, _⟩ => by cases e; exact a
  | t :: ts, is, _, _, e, ⟨v, r, ga, gb, a, _, d, q⟩ => by
    cases t with
    | bl i =>
      obtain ⟨js, h, e⟩ := Option.bind_eq_some_iff.mp (show (blsT ts).bind (fun is => some (i :: is)) = some is from e)
      cases e
      rw [a, bls_vs h q, d.1]
      rfl
    | _ => cases e
theorem strs_vs {c : Hc} : ∀ {ts : List T} {is : List Str} {vs : List V} {g : List Addr}, strsT ts = some is → Reps c ts vs g → vs = is.map V.str
  | [], _, _, _, e, ⟨a, _⟩ => by cases e; exact a
  | t :: ts, is, _, _, e, ⟨v, r, ga, gb, a, _, d, q⟩ => by
    cases t with
    | str i =>
      obtain ⟨js, h, e⟩ := Option.bind_eq_some_iff.mp (show (strsT ts).bind (fun is => some (i :: is)) = some is from e)
      cases e
      rw [a, strs_vs h q, d.1]
      rfl
    | _ => cases e
/-! len -/
def fLen : List T → Option T
  | [.lst _ xs] => some (.int xs.length)
  | [.tup xs] => some (.int xs.length)
  | [.dic m xs] => (match m with | .sc => none | _ => some (.int xs.length))
  | [.str z] => if z.length ≤ sizeLine then some (.int z.length) else none
  | _ => none
theorem RepK.len {c : Hc} : ∀ {ts : List (Key × T)} {vs : List (Key × V)} {g : List Addr}, RepK c ts vs g → vs.length = ts.length
  | [], _, _, ⟨a, _⟩ => by rw [a]; rfl
  | (k, t) :: ts, _, _, ⟨v, r, ga, gb, a, _, _, q⟩ => by rw [a, List.length_cons, List.length_cons, RepK.len q]
theorem Rep.dicD {c : Hc} {m : Mk} {ts : List (Key × T)} {v : V} {g : List Addr} (fp : Same c.F c.P) (ph : SameL c.P c.H) (r : Rep c (.dic m ts) v g) : ∃ p vs gs, v = .ref p ∧ Rd c.H p (.dK vs) ∧ RepK c ts vs gs ∧ ∀ a ∈ gs, a ∈ g := by
  cases m with
  | sc => exact (show False from r).elim
  | fz => obtain ⟨p, vs, a, b, d, q⟩ := r; exact ⟨p, vs, [], a, ph.dic (fp _ _ b), d, fun _ m => absurd m (by simp)⟩
  | br => obtain ⟨p, vs, a, b, d, q⟩ := r; exact ⟨p, vs, [], a, ph.dic b, d, fun _ m => absurd m (by simp)⟩
  | ow => obtain ⟨p, vs, gs, a, b, d, q⟩ := r; exact ⟨p, vs, gs, a, .inl b, d, fun _ m => by rw [q]; exact List.mem_cons_of_mem _ m⟩
theorem call_lenAny : CallR X (.builtin "len") fun vs H Q => (∃ x n, vs = [x] ∧ LenV X.K x H n ∧ Q (.int n) H) ∨ ∃ d kvs, vs = [.ref d] ∧ Rd H d (.dK kvs) ∧ Q (.int kvs.length) H := CallR.or call_len fun pins s σ H vs us Q I r h => by
  obtain ⟨d, kvs, rfl, hd, q⟩ := h
  cases r with
  | cons r rr =>
    cases rr
    cases r
    exact d_len I hd fun t s' I' => ⟨.int kvs.length, H, I', ⟨t, rfl⟩, q⟩
theorem on_len : OpN X ca (fun vs H Q => (∃ x n, vs = [x] ∧ LenV X.K x H n ∧ Q (.int n) H) ∨ ∃ d kvs, vs = [.ref d] ∧ Rd H d (.dK kvs) ∧ Q (.int kvs.length) H) fLen := by
  intro σ G ts z vs Q g l e k
  have hK : G.K = X.K := g.k
  unfold fLen at e
  split at e
  · cases e
    obtain ⟨v, gg, rfl, r⟩ := look1 l
    obtain ⟨q, ws, gs, rfl, sq, rr, _, _⟩ := Rep.lstL g.fp g.ph r
    refine .inl ⟨_, _, rfl, .inl ⟨ws, hK ▸ sq, rfl⟩, ?_⟩
    rw [rr.len]
    exact fin0 g k ⟨rfl, rfl⟩
  · cases e
    obtain ⟨v, gg, rfl, r⟩ := look1 l
    obtain ⟨q, ws, rfl, sq, rr⟩ := Rep.tupT g.fp g.ph r
    refine .inl ⟨_, _, rfl, .inr ⟨ws, hK ▸ sq, rfl⟩, ?_⟩
    rw [rr.len]
    exact fin0 g k ⟨rfl, rfl⟩
  · split at e
    · cases e
    · cases e
      obtain ⟨v, gg, rfl, r⟩ := look1 l
      obtain ⟨q, ws, gs, rfl, hd, rr, _⟩ := Rep.dicD g.fp g.ph r
      refine .inr ⟨q, ws, rfl, hd, ?_⟩
      rw [rr.len]
      exact fin0 g k ⟨rfl, rfl⟩
  · split at e
    · rename_i hz
      cases e
      obtain ⟨v, gg, rfl, r⟩ := look1 l
      obtain ⟨rfl, _⟩ := r
      exact .inl ⟨_, _, rfl, ⟨hz, rfl⟩, fin0 g k ⟨rfl, rfl⟩⟩
    · cases e
  · cases e
/-! sum, any, all, max, min -/
def fSum : List T → Option T
  | [.lst _ xs] => (intsT xs).bind fun is => some (.int is.sum)
  | _ => none
theorem on_sum : OpN X ca (rSum X.K) fSum := by
  intro σ G ts z vs Q g l e k
  have hK : G.K = X.K := g.k
  unfold fSum at e
  split at e
  · obtain ⟨is, h, e⟩ := Option.bind_eq_some_iff.mp e
    cases e
    obtain ⟨v, gg, rfl, r⟩ := look1 l
    obtain ⟨q, ws, gs, rfl, sq, rr, _, _⟩ := Rep.lstL g.fp g.ph r
    rw [ints_vs h rr, hK] at sq
    exact ⟨q, is, rfl, sq, fin0 g k ⟨rfl, rfl⟩⟩
  · cases e
def fAny : List T → Option T
  | [.lst _ xs] => (blsT xs).bind fun is => some (.bl (is.any id))
  | _ => none
def fAll : List T → Option T
  | [.lst _ xs] => (blsT xs).bind fun is => some (.bl (is.all id))
  | _ => none
theorem on_any : OpN X ca (rAny X.K) fAny := by
  intro σ G ts z vs Q g l e k
  have hK : G.K = X.K := g.k
  unfold fAny at e
  split at e
  · obtain ⟨is, h, e⟩ := Option.bind_eq_some_iff.mp e
    cases e
    obtain ⟨v, gg, rfl, r⟩ := look1 l
    obtain ⟨q, ws, gs, rfl, sq, rr, _, _⟩ := Rep.lstL g.fp g.ph r
    rw [bls_vs h rr, hK] at sq
    exact ⟨q, is, rfl, sq, fin0 g k ⟨rfl, rfl⟩⟩
  · cases e
theorem on_all : OpN X ca (rAll X.K) fAll := by
  intro σ G ts z vs Q g l e k
  have hK : G.K = X.K := g.k
  unfold fAll at e
  split at e
  · obtain ⟨is, h, e⟩ := Option.bind_eq_some_iff.mp e
    cases e
    obtain ⟨v, gg, rfl, r⟩ := look1 l
    obtain ⟨q, ws, gs, rfl, sq, rr, _, _⟩ := Rep.lstL g.fp g.ph r
    rw [bls_vs h rr, hK] at sq
    exact ⟨q, is, rfl, sq, fin0 g k ⟨rfl, rfl⟩⟩
  · cases e
def maxL : List Int → Int
  | [] => 0
  | [i] => i
  | i :: is => max i (maxL is)
def minL : List Int → Int
  | [] => 0
  | [i] => i
  | i :: is => min i (minL is)
theorem maxL_ge : ∀ {is : List Int} {i : Int}, i ∈ is → i ≤ maxL is
  | [j], i, m => by simp at m; rw [m]; exact Int.le_refl _
  | j :: j2 :: is, i, m => by
    show i ≤ max j (maxL (j2 :: is))
    rcases List.mem_cons.mp m with e | m
    · rw [e]; omega
    · have := maxL_ge m; omega
theorem maxL_mem : ∀ {is : List Int}, is ≠ [] → maxL is ∈ is
  | [j], _ => by simp [maxL]
  | j :: j2 :: is, _ => by
    show max j (maxL (j2 :: is)) ∈ _
    have h := maxL_mem (is := j2 :: is) (by simp)
    by_cases q : maxL (j2 :: is) ≤ j
    · rw [Int.max_eq_left q]; simp
    · rw [Int.max_eq_right (by omega)]; exact List.mem_cons_of_mem _ h
theorem minL_le : ∀ {is : List Int} {i : Int}, i ∈ is → minL is ≤ i
  | [j], i, m => by simp at m; rw [m]; exact Int.le_refl _
  | j :: j2 :: is, i, m => by
    show min j (minL (j2 :: is)) ≤ i
    rcases List.mem_cons.mp m with e | m
    · rw [e]; omega
    · have := minL_le m; omega
theorem minL_mem : ∀ {is : List Int}, is ≠ [] → minL is ∈ is
  | [j], _ => by simp [minL]
  | j :: j2 :: is, _ => by
    show min j (minL (j2 :: is)) ∈ _
    have h := minL_mem (is := j2 :: is) (by simp)
    by_cases q : j ≤ minL (j2 :: is)
    · rw [Int.min_eq_left q]; simp
    · rw [Int.min_eq_right (by omega)]; exact List.mem_cons_of_mem _ h
def fMax : List T → Option T
  | [.lst _ xs] => (intsT xs).bind fun is => if is.isEmpty then none else some (.int (maxL is))
  | [.int i, .int j] => some (.int (max i j))
  | _ => none
def fMin : List T → Option T
  | [.lst _ xs] => (intsT xs).bind fun is => if is.isEmpty then none else some (.int (minL is))
  | [.int i, .int j] => some (.int (min i j))
  | _ => none
theorem on_max : OpN X ca (fun vs H Q => rMax X.K vs H Q ∨ ∃ i j, vs = [.int i, .int j] ∧ Q (.int (if j > i then j else i)) H) fMax := by
  intro σ G ts z vs Q g l e k
  have hK : G.K = X.K := g.k
  unfold fMax at e
  split at e
  · obtain ⟨is, h, e⟩ := Option.bind_eq_some_iff.mp e
    split at e
    · cases e
    · rename_i hne
      cases e
      obtain ⟨v, gg, rfl, r⟩ := look1 l
      obtain ⟨q, ws, gs, rfl, sq, rr, _, _⟩ := Rep.lstL g.fp g.ph r
      rw [ints_vs h rr, hK] at sq
      have hn : is ≠ [] := by intro q; rw [q] at hne; exact hne rfl
      refine .inl ⟨q, is, rfl, sq, List.length_pos_iff.mpr hn, fun m hm hy => ?_⟩
      have : m = maxL is := Int.le_antisymm (maxL_ge hm) (hy _ (maxL_mem hn))
      rw [this]
      exact fin0 g k ⟨rfl, rfl⟩
  · rename_i i j
    cases e
    obtain ⟨v, w, gg, g', rfl, r, r'⟩ := look2 l
    obtain ⟨rfl, _⟩ := r
    obtain ⟨rfl, _⟩ := r'
    refine .inr ⟨i, j, rfl, ?_⟩
    have : (if j > i then j else i) = max i j := by split <;> omega
    rw [this]
    exact fin0 g k ⟨rfl, rfl⟩
  · cases e
theorem on_min : OpN X ca (fun vs H Q => rMin X.K vs H Q ∨ ∃ i j, vs = [.int i, .int j] ∧ Q (.int (if j < i then j else i)) H) fMin := by
  intro σ G ts z vs Q g l e k
  have hK : G.K = X.K := g.k
  unfold fMin at e
  split at e
  · obtain ⟨is, h, e⟩ := Option.bind_eq_some_iff.mp e
    split at e
    · cases e
    · rename_i hne
      cases e
      obtain ⟨v, gg, rfl, r⟩ := look1 l
      obtain ⟨q, ws, gs, rfl, sq, rr, _, _⟩ := Rep.lstL g.fp g.ph r
      rw [ints_vs h rr, hK] at sq
      have hn : is ≠ [] := by intro q; rw [q] at hne; exact hne rfl
      refine .inl ⟨q, is, rfl, sq, List.length_pos_iff.mpr hn, fun m hm hy => ?_⟩
      have : m = minL is := Int.le_antisymm (hy _ (minL_mem hn)) (minL_le hm)
      rw [this]
      exact fin0 g k ⟨rfl, rfl⟩
  · rename_i i j
    cases e
    obtain ⟨v, w, gg, g', rfl, r, r'⟩ := look2 l
    obtain ⟨rfl, _⟩ := r
    obtain ⟨rfl, _⟩ := r'
    refine .inr ⟨i, j, rfl, ?_⟩
    have : (if j < i then j else i) = min i j := by split <;> omega
    rw [this]
    exact fin0 g k ⟨rfl, rfl⟩
  · cases e
/-! list, tuple -/
def fList : List T → Option T
  | [.lst _ xs] => if noOws xs then some (.lst .ow xs) else none
  | [.tup xs] => if noOws xs then some (.lst .ow xs) else none
  | _ => none
theorem on_list : OpN X ca (fun xs H Q => ∃ p ys, xs = [.ref p] ∧ (SqL X.K H p ys ∨ SqT X.K H p ys) ∧ ∀ l, H l = none → Q (.ref l) (upd H l (.lst ys))) fList := by
  intro σ G ts z vs Q g l e k
  have hK : G.K = X.K := g.k
  unfold fList at e
  split at e
  · split at e
    · rename_i n
      cases e
      obtain ⟨v, gg, rfl, r⟩ := look1 l
      obtain ⟨q, ws, gs, rfl, sq, rr, _, _⟩ := Rep.lstL g.fp g.ph r
      exact ⟨q, ws, rfl, .inl (hK ▸ sq), finL g k (rr.bare n)⟩
    · cases e
  · split at e
    · rename_i n
      cases e
      obtain ⟨v, gg, rfl, r⟩ := look1 l
      obtain ⟨q, ws, rfl, sq, rr⟩ := Rep.tupT g.fp g.ph r
      exact ⟨q, ws, rfl, .inr (hK ▸ sq), finL g k (rr.bare n)⟩
    · cases e
  · cases e
def fTuple : List T → Option T
  | [.lst _ xs] => if noOws xs then some (.tup xs) else none
  | _ => none
theorem on_tuple : OpN X ca (fun xs H Q => ∃ p ys, xs = [.ref p] ∧ ((SqL X.K H p ys ∧ ∀ l, H l = none → Q (.ref l) (upd H l (.tup ys))) ∨ (SqT X.K H p ys ∧ Q (.ref p) H))) fTuple := by
  intro σ G ts z vs Q g l e k
  have hK : G.K = X.K := g.k
  unfold fTuple at e
  split at e
  · split at e
    · rename_i n
      cases e
      obtain ⟨v, gg, rfl, r⟩ := look1 l
      obtain ⟨q, ws, gs, rfl, sq, rr, _, _⟩ := Rep.lstL g.fp g.ph r
      exact ⟨q, ws, rfl, .inl ⟨hK ▸ sq, finT g k (rr.bare n)⟩⟩
    · cases e
  · cases e
/-! abs, int, str -/
def fAbs : List T → Option T
  | [.int i] => some (.int i.natAbs)
  | _ => none
theorem on_abs : OpN X ca (fun xs H Q => ∃ i, xs = [.int i] ∧ Q (.int (if i < 0 then -i else i)) H) fAbs := by
  intro σ G ts z vs Q g l e k
  unfold fAbs at e
  split at e
  · rename_i i
    cases e
    obtain ⟨v, gg, rfl, r⟩ := look1 l
    obtain ⟨rfl, _⟩ := r
    refine ⟨i, rfl, ?_⟩
    have : (if i < 0 then -i else i) = i.natAbs := by split <;> omega
    rw [this]
    exact fin0 g k ⟨rfl, rfl⟩
  · cases e
def fInt : List T → Option T
  | [.int i] => some (.int i)
  | [.bl b] => some (.int (if b then 1 else 0))
  | [.str a] => if a.length ≤ 640 then (PySem.intText? a).bind fun n => some (.int n) else none
  | _ => none
theorem on_int : OpN X ca (fun xs H Q => ((∃ i, xs = [.int i] ∧ Q (.int i) H) ∨ ∃ k, xs = [.bl k] ∧ Q (.int (if k then 1 else 0)) H) ∨ ∃ a n, xs = [.str a] ∧ PySem.intText? a = some n ∧ a.length ≤ 640 ∧ Q (.int n) H) fInt := by
  intro σ G ts z vs Q g l e k
  unfold fInt at e
  split at e
  · cases e
    obtain ⟨v, gg, rfl, r⟩ := look1 l
    obtain ⟨rfl, _⟩ := r
    exact .inl (.inl ⟨_, rfl, fin0 g k ⟨rfl, rfl⟩⟩)
  · cases e
    obtain ⟨v, gg, rfl, r⟩ := look1 l
    obtain ⟨rfl, _⟩ := r
    exact .inl (.inr ⟨_, rfl, fin0 g k ⟨rfl, rfl⟩⟩)
  · split at e
    · rename_i hl
      obtain ⟨n, hn, e⟩ := Option.bind_eq_some_iff.mp e
      cases e
      obtain ⟨v, gg, rfl, r⟩ := look1 l
      obtain ⟨rfl, _⟩ := r
      exact .inr ⟨_, n, rfl, hn, hl, fin0 g k ⟨rfl, rfl⟩⟩
    · cases e
  · cases e
def fStr : List T → Option T
  | [.int i] => if i.natAbs.log2 < 1920 then some (.str (toString i)) else none
  | _ => none
theorem on_str : OpN X ca (fun xs H Q => ∃ i, xs = [.int i] ∧ i.natAbs.log2 < 1920 ∧ Q (.str (toString i)) H) fStr := by
  intro σ G ts z vs Q g l e k
  unfold fStr at e
  split at e
  · split at e
    · rename_i hl
      cases e
      obtain ⟨v, gg, rfl, r⟩ := look1 l
      obtain ⟨rfl, _⟩ := r
      exact ⟨_, rfl, hl, fin0 g k ⟨rfl, rfl⟩⟩
    · cases e
  · cases e
/-! isinstance -/
def tyName : T → Option String
  | .non => some "NoneType"
  | .bl _ => some "bool"
  | .int _ => some "int"
  | .str _ => some "str"
  | .tup _ => some "tuple"
  | .lst _ _ => some "list"
  | .dic _ _ => some "dict"
  | .hnd _ => none
theorem Rep.ty {c : Hc} {t : T} {v : V} {g : List Addr} {n : String} (fp : Same c.F c.P) (ph : SameL c.P c.H) (r : Rep c t v g) (h : tyName t = some n) : TyX c.K c.H v (.type n) := by
  cases t with
  | non => cases h; obtain ⟨rfl, _⟩ := r; exact .base .non
  | bl b => cases h; obtain ⟨rfl, _⟩ := r; exact .base (.bl _)
  | int i => cases h; obtain ⟨rfl, _⟩ := r; exact .base (.int _)
  | str x => cases h; obtain ⟨rfl, _⟩ := r; exact .base (.str _)
  | hnd n => cases h
  | tup xs =>
    cases h
    obtain ⟨p, vs, rfl, sq, _⟩ := Rep.tupT fp ph r
    rcases sq with (sq | ⟨o, sq⟩) | ⟨o, its, k, e, hc, _⟩
    · exact .base (.tup sq)
    · exact .fTuple sq
    · exact .kTuple e hc
  | lst m xs =>
    cases h
    obtain ⟨p, vs, gs, rfl, sq, _⟩ := Rep.lstL fp ph r
    rcases sq with (sq | ⟨o, sq⟩) | ⟨o, its, k, e, hc, _⟩
    · exact .base (.lst sq)
    · exact .base (.frz sq)
    · exact .kList e hc
  | dic m xs =>
    cases h
    obtain ⟨p, vs, gs, rfl, hd, _⟩ := Rep.dicD fp ph r
    rcases hd with hd | ⟨o, hd⟩
    · exact .base (.dK hd)
    · exact .fDict hd
def tyIs (n b : String) : Bool := (n == b) || (n == "bool" && b == "int")
def fIsi (b : String) (t : T) : Option T := (tyName t).bind fun n => some (.bl (tyIs n b))
def fIsi2 (b c : String) (t : T) : Option T := (tyName t).bind fun n => some (.bl (tyIs n b || tyIs n c))
def isiOk (b : String) : Bool := (["NoneType", "bool", "int", "str", "tuple", "list", "dict"] : List String).all fun n => kitB n b == some (tyIs n b)
theorem kit_of' {K : PySem.W.Frag} {t : T} {n b : String} (h : tyName t = some n) (ok : isiOk b = true) : PySem.W.kitOne K (.type n) (.type b) = some (tyIs n b) := by
  refine kit_ty ?_
  have m : n ∈ (["NoneType", "bool", "int", "str", "tuple", "list", "dict"] : List String) := by
    cases t <;> cases h <;> simp
  exact eq_of_beq (List.all_eq_true.mp ok n m)
theorem ex_isi {e : Expr} {b : String} {x : Str} {p2 : Pos} {d : DO} (hm : X.mg "isinstance" = none) (hmx : X.mg x = none) (h : OX ca X e ef d) (ok : isiOk b = true := by decide +kernel) (hg : Gl X "isinstance" := by rfl) (hgx : Gl X x := by rfl)
    (hv : bootBuiltins x = some (.type b) := by decide +kernel) (hn : x ≠ "__name__" := by decide) (hd : (x == ("__debug__" : Str)) = false := by decide)
    (hs : starEach [e, .Name x p2] X.env = (false, eval e X.env) :: starEach [.Name x p2] X.env := by rfl) (hs2 : starEach [.Name x p2] X.env = (false, eval (.Name x p2) X.env) :: starEach [] X.env := by rfl) (hpl : (backTo pos (starEach [.Name x p2] X.env)).any (·.1) = false := by rfl) :
    EX ca X (.Call (.Name "isinstance" p) [e, .Name x p2] [] pos) ef (d1 (fIsi b) d) := by
  have hx : PE X (.Name x p2) (tC (.ty b)) := pe_bltn (v := .ty b) (u := .type b) hgx hmx hv rfl hn hd
  refine PE.imp (pe_callB call_isi hg hm (by decide +kernel) (pa_cons h (pa_cons hx pa_nil hs2) hs) (by decide) (by decide) hs hpl) fun σ H Q w => ?_
  refine un_of (r := fun v H Q => rIsi X.K [v, .ty b] H Q) (fun σ G y z v gx Q g ry e k => ?_) w
  obtain ⟨n, h1, e⟩ := Option.bind_eq_some_iff.mp e
  cases e
  have hK : G.K = X.K := g.k
  exact ⟨v, .ty b, .type n, .type b, tyIs n b, rfl, .ty b, hK ▸ ry.ty g.fp g.ph h1, kit_of' h1 ok, fin0 g k ⟨rfl, rfl⟩⟩
theorem ex_isi2 {e : Expr} {b c : String} {x y : Str} {p2 p3 p4 : Pos} {kk : Nat} {d : DO} (hm : X.mg "isinstance" = none) (hmx : X.mg x = none) (hmy : X.mg y = none) (h : OX ca X e ef d) (okb : isiOk b = true := by decide +kernel) (okc : isiOk c = true := by decide +kernel) (hg : Gl X "isinstance" := by rfl) (hgx : Gl X x := by rfl) (hgy : Gl X y := by rfl)
    (hv : bootBuiltins x = some (.type b) := by decide +kernel) (hvy : bootBuiltins y = some (.type c) := by decide +kernel) (hn : x ≠ "__name__" := by decide) (hd : (x == ("__debug__" : Str)) = false := by decide) (hn2 : y ≠ "__name__" := by decide) (hd2 : (y == ("__debug__" : Str)) = false := by decide)
    (hs : starEach [e, .Tuple [.Name x p2, .Name y p3] kk p4] X.env = (false, eval e X.env) :: starEach [.Tuple [.Name x p2, .Name y p3] kk p4] X.env := by rfl) (hs2 : starEach [.Tuple [.Name x p2, .Name y p3] kk p4] X.env = (false, eval (.Tuple [.Name x p2, .Name y p3] kk p4) X.env) :: starEach [] X.env := by rfl)
    (hs3 : starEach [.Name x p2, .Name y p3] X.env = (false, eval (.Name x p2) X.env) :: starEach [.Name y p3] X.env := by rfl) (hs4 : starEach [.Name y p3] X.env = (false, eval (.Name y p3) X.env) :: starEach [] X.env := by rfl) (hpl : (backTo pos (starEach [.Tuple [.Name x p2, .Name y p3] kk p4] X.env)).any (·.1) = false := by rfl) :
    EX ca X (.Call (.Name "isinstance" p) [e, .Tuple [.Name x p2, .Name y p3] kk p4] [] pos) ef (d1 (fIsi2 b c) d) := by
  have hx : PE X (.Name x p2) (tC (.ty b)) := pe_bltn (v := .ty b) (u := .type b) hgx hmx hv rfl hn hd
  have hy : PE X (.Name y p3) (tC (.ty c)) := pe_bltn (v := .ty c) (u := .type c) hgy hmy hvy rfl hn2 hd2
  have ht : PE X (.Tuple [.Name x p2, .Name y p3] kk p4) (tTup (tCons (tC (.ty b)) (tCons (tC (.ty c)) tNil))) := pe_tup (pa_cons hx (pa_cons hy pa_nil hs4) hs3)
  refine PE.imp (pe_callB call_isiT hg hm (by decide +kernel) (pa_cons h (pa_cons ht pa_nil hs2) hs) (by decide) (by decide) hs hpl) fun σ H Q w => ?_
  refine un_of (r := fun v H Q => 2 ≤ sizeLine ∧ ∀ q, H q = none → rIsiT X.K [v, .ref q] (upd H q (.tup [.ty b, .ty c])) Q) (fun σ G y z v gx Q g ry e k => ?_) w
  obtain ⟨n, h1, e⟩ := Option.bind_eq_some_iff.mp e
  cases e
  refine ⟨by decide, fun q hq => ?_⟩
  obtain ⟨g2, s2⟩ := g.newF (o := .tup [.ty b, .ty c]) hq
  have hK : (G.newF q (.tup [.ty b, .ty c])).K = X.K := g2.k
  have ry2 : Rep (G.newF q (.tup [.ty b, .ty c])).toHc y v gx := Rep.ex (c := G.toHc) _ _ _ ⟨s2.k, s2.c, s2.f, s2.p, fun a _ o e => (s2.q rfl).2.2.1 a o e, s2.ad⟩ ry
  have ty := ry2.ty g2.fp g2.ph h1
  rw [hK] at ty
  refine ⟨v, q, [.ty b, .ty c], .type n, [.type b, .type c], tyIs n b || tyIs n c, rfl, upd_same, .cons (.ty b) (.cons (.ty c) .nil), ty, ?_, ?_⟩
  · refine kitAny_cons (kit_of' h1 okb) (fun hb => ?_) fun hb => by rw [hb]; rfl
    rw [hb, Bool.false_or]
    exact kitAny_cons (kit_of' h1 okc) (fun hc => by rw [hc]; exact kitAny_nil) fun hc => hc
  · exact k (G.newF q (.tup [.ty b, .ty c])) (.bl _) [] rfl g2 s2 (.bare ⟨rfl, rfl⟩) New.nil
/-! == of data -/
mutual
def T.toP : T → Option PyData
  | .non => some .none
  | .bl b => some (.bool b)
  | .int i => some (.int i)
  | .str x => some (.str x)
  | .tup xs => (toPs xs).bind fun ds => some (.tuple ds)
  | .lst _ xs => (toPs xs).bind fun ds => some (.list ds)
  | .dic _ _ => none
  | .hnd _ => none
def toPs : List T → Option (List PyData)
  | [] => some []
  | t :: ts => t.toP.bind fun d => (toPs ts).bind fun ds => some (d :: ds)
end
mutual
theorem Rep.dp {c : Hc} (fp : Same c.F c.P) (ph : SameL c.P c.H) : ∀ (t : T) (v : V) (g : List Addr) (d : PyData), t.toP = some d → Rep c t v g → Dp c.K c.H v d
  | .non, _, _, _, e, ⟨a, _⟩ => by cases e; rw [a]; exact .non
  | .bl _, _, _, _, e, ⟨a, _⟩ => by cases e; rw [a]; exact .bl _
  | .int _, _, _, _, e, ⟨a, _⟩ => by cases e; rw [a]; exact .int _
  | .str _, _, _, _, e, ⟨a, _⟩ => by cases e; rw [a]; exact .str _
  | .tup xs, v, g, d, e, r => by
    obtain ⟨ds, h, e⟩ := Option.bind_eq_some_iff.mp (show (toPs xs).bind (fun ds => some (.tuple ds)) = some d from e)
    cases e
    obtain ⟨p, vs, rfl, sq, rr⟩ := Rep.tupT fp ph r
    exact .tup sq (Reps.dp fp ph xs vs g ds h rr)
  | .lst m xs, v, g, d, e, r => by
    obtain ⟨ds, h, e⟩ := Option.bind_eq_some_iff.mp (show (toPs xs).bind (fun ds => some (.list ds)) = some d from e)
    cases e
    obtain ⟨p, vs, gs, rfl, sq, rr, _⟩ := Rep.lstL fp ph r
    exact .lst sq (Reps.dp fp ph xs vs gs ds h rr)
  | .dic _ _, _, _, _, e, _ => by cases e
  | .hnd _, _, _, _, e, _ => by cases e
theorem Reps.dp {c : Hc} (fp : Same c.F c.P) (ph : SameL c.P c.H) : ∀ (ts : List T) (vs : List V) (g : List Addr) (ds : List PyData), toPs ts = some ds → Reps c ts vs g → DpAll c.K c.H vs ds
  | [], _, _, _, e, ⟨a, _⟩ => by cases e; rw [a]; exact .nil
  | t :: ts, _, _, ds, e, ⟨v, r, ga, gb, a, _, d, q⟩ => by
    obtain ⟨d1, h1, e⟩ := Option.bind_eq_some_iff.mp (show t.toP.bind (fun d => (toPs ts).bind fun ds => some (d :: ds)) = some ds from e)
    obtain ⟨ds1, h2, e⟩ := Option.bind_eq_some_iff.mp e
    cases e
    rw [a]
    exact .cons (Rep.dp fp ph t v ga d1 h1 d) (Reps.dp fp ph ts r gb ds1 h2 q)
end
/-- ==: texts, ints, None at once; else data of any depth -/
def eqT (x y : T) : Option Bool := match x, y with
  | .int i, .int j => some (decide (i = j))
  | .str a, .str b => some (decide (a = b))
  | .bl a, .bl b => some (decide (a = b))
  | x, y => x.toP.bind fun d => y.toP.bind fun e => if SeqAt.shaped d && SeqAt.shaped e then some (PyData.eqv d e) else none
def fEq (x y : T) : Option T := (eqT x y).bind fun b => some (.bl b)
def fNe (x y : T) : Option T := (eqT x y).bind fun b => some (.bl (!b))
def rEqA (K : PySem.W.Frag) : R2 := fun x y H Q => rEq x y H Q ∨ rEqD K x y H Q
def rNeA (K : PySem.W.Frag) : R2 := fun x y H Q => rNe x y H Q ∨ rNeD K x y H Q
theorem op_eqA (hu : X.A.units + 64 < cLine) : OpR X (compareOp .Eq) (rEqA X.K) := by
  intro pins s σ H x y v u Q I rx ry h
  rcases h with h | h
  · exact op_eq pins s σ H x y v u Q I rx ry h
  · exact op_eqD hu pins s σ H x y v u Q I rx ry h
theorem op_neA (hu : X.A.units + 64 < cLine) : OpR X (compareOp .NotEq) (rNeA X.K) := by
  intro pins s σ H x y v u Q I rx ry h
  rcases h with h | h
  · exact op_ne pins s σ H x y v u Q I rx ry h
  · exact op_neD hu pins s σ H x y v u Q I rx ry h
theorem eqT_cases {x y : T} {b : Bool} (e : eqT x y = some b) : (∃ i j, x = .int i ∧ y = .int j ∧ b = decide (i = j)) ∨ (∃ i j, x = .str i ∧ y = .str j ∧ b = decide (i = j)) ∨ (∃ i j, x = .bl i ∧ y = .bl j ∧ b = decide (i = j)) ∨
    ∃ d e', x.toP = some d ∧ y.toP = some e' ∧ SeqAt.shaped d = true ∧ SeqAt.shaped e' = true ∧ b = PyData.eqv d e' := by
  unfold eqT at e
  split at e
  · cases e; exact .inl ⟨_, _, rfl, rfl, rfl⟩
  · cases e; exact .inr (.inl ⟨_, _, rfl, rfl, rfl⟩)
  · cases e; exact .inr (.inr (.inl ⟨_, _, rfl, rfl, rfl⟩))
  · obtain ⟨d, h1, e⟩ := Option.bind_eq_some_iff.mp e
    obtain ⟨e', h2, e⟩ := Option.bind_eq_some_iff.mp e
    split at e
    · rename_i hs
      cases e
      have hs := Bool.and_eq_true_iff.mp hs
      exact .inr (.inr (.inr ⟨d, e', h1, h2, hs.1, hs.2, rfl⟩))
    · cases e
theorem dec_V {α : Type} [DecidableEq α] {f : α → V} (inj : ∀ a b, f a = f b → a = b) (a b : α) : decide (f a = f b) = decide (a = b) := by
  by_cases h : a = b
  · rw [h]; simp
  · rw [decide_eq_false h, decide_eq_false fun q => h (inj _ _ q)]
theorem o2_eq : Op2 X ca (rEqA X.K) fEq := by
  intro σ G x y z v w gx gy Q g rx ry e k
  have hK : G.K = X.K := g.k
  obtain ⟨b, h, e⟩ := Option.bind_eq_some_iff.mp e
  cases e
  rcases eqT_cases h with ⟨i, j, rfl, rfl, rfl⟩ | ⟨i, j, rfl, rfl, rfl⟩ | ⟨i, j, rfl, rfl, rfl⟩ | ⟨d, e', h1, h2, h3, h4, rfl⟩
  · obtain ⟨rfl, _⟩ := rx
    obtain ⟨rfl, _⟩ := ry
    refine .inl ⟨rfl, ?_⟩
    rw [dec_V fun a b e => by cases e; rfl]
    exact fin0 g k ⟨rfl, rfl⟩
  · obtain ⟨rfl, _⟩ := rx
    obtain ⟨rfl, _⟩ := ry
    refine .inl ⟨rfl, ?_⟩
    rw [dec_V fun a b e => by cases e; rfl]
    exact fin0 g k ⟨rfl, rfl⟩
  · obtain ⟨rfl, _⟩ := rx
    obtain ⟨rfl, _⟩ := ry
    refine .inl ⟨rfl, ?_⟩
    rw [dec_V fun a b e => by cases e; rfl]
    exact fin0 g k ⟨rfl, rfl⟩
  · exact .inr ⟨d, e', hK ▸ Rep.dp g.fp g.ph _ _ _ _ h1 rx, hK ▸ Rep.dp g.fp g.ph _ _ _ _ h2 ry, h3, h4, fin0 g k ⟨rfl, rfl⟩⟩
theorem o2_ne : Op2 X ca (rNeA X.K) fNe := by
  intro σ G x y z v w gx gy Q g rx ry e k
  have hK : G.K = X.K := g.k
  obtain ⟨b, h, e⟩ := Option.bind_eq_some_iff.mp e
  cases e
  rcases eqT_cases h with ⟨i, j, rfl, rfl, rfl⟩ | ⟨i, j, rfl, rfl, rfl⟩ | ⟨i, j, rfl, rfl, rfl⟩ | ⟨d, e', h1, h2, h3, h4, rfl⟩
  · obtain ⟨rfl, _⟩ := rx
    obtain ⟨rfl, _⟩ := ry
    refine .inl ⟨rfl, ?_⟩
    rw [dec_V fun a b e => by cases e; rfl]
    exact fin0 g k ⟨rfl, rfl⟩
  · obtain ⟨rfl, _⟩ := rx
    obtain ⟨rfl, _⟩ := ry
    refine .inl ⟨rfl, ?_⟩
    rw [dec_V fun a b e => by cases e; rfl]
    exact fin0 g k ⟨rfl, rfl⟩
  · obtain ⟨rfl, _⟩ := rx
    obtain ⟨rfl, _⟩ := ry
    refine .inl ⟨rfl, ?_⟩
    rw [dec_V fun a b e => by cases e; rfl]
    exact fin0 g k ⟨rfl, rfl⟩
  · exact .inr ⟨d, e', hK ▸ Rep.dp g.fp g.ph _ _ _ _ h1 rx, hK ▸ Rep.dp g.fp g.ph _ _ _ _ h2 ry, h3, h4, fin0 g k ⟨rfl, rfl⟩⟩
/-! x in a list, a tuple of flat things; a sign in a text -/
def flatT : T → Bool
  | .non => true
  | .bl _ => true
  | .int _ => true
  | .str _ => true
  | _ => false
def eqF : T → T → Bool
  | .non, .non => true
  | .bl a, .bl b => a == b
  | .bl a, .int b => (if a then 1 else 0) == b
  | .int a, .bl b => a == (if b then 1 else 0)
  | .int a, .int b => a == b
  | .str a, .str b => a == b
  | _, _ => false
def inF (x : T) (xs : List T) : Bool := xs.any fun y => eqF y x
def fIn (neg : Bool) (x y : T) : Option T := match y with
  | .lst _ xs => if flatT x && xs.all flatT then some (.bl (if neg then !inF x xs else inF x xs)) else none
  | .tup xs => if flatT x && xs.all flatT then some (.bl (if neg then !inF x xs else inF x xs)) else none
  | .str z => (match x with
    | .str ⟨⟨[c]⟩⟩ => some (.bl (if neg then !decide (c ∈ z.cps.toList) else decide (c ∈ z.cps.toList)))
    | _ => none)
  | _ => none
theorem flat_V {c : Hc} {t : T} {v : V} {g : List Addr} (r : Rep c t v g) (h : flatT t = true) : flatV v = true := by
  cases t with
  | non => obtain ⟨rfl, _⟩ := r; rfl
  | bl b => obtain ⟨rfl, _⟩ := r; rfl
  | int i => obtain ⟨rfl, _⟩ := r; rfl
  | str x => obtain ⟨rfl, _⟩ := r; rfl
  | _ => cases h
theorem eqF_V {c : Hc} {t u : T} {v w : V} {g g' : List Addr} (r : Rep c t v g) (r' : Rep c u w g') (h : flatT t = true) (h' : flatT u = true) : eqV v w = eqF t u := by
  cases t with
  | non => obtain ⟨rfl, _⟩ := r; cases u with
    | non => obtain ⟨rfl, _⟩ := r'; rfl
    | bl b => obtain ⟨rfl, _⟩ := r'; rfl
    | int i => obtain ⟨rfl, _⟩ := r'; rfl
    | str x => obtain ⟨rfl, _⟩ := r'; rfl
    | _ => cases h'
  | bl b => obtain ⟨rfl, _⟩ := r; cases u with
    | non => obtain ⟨rfl, _⟩ := r'; rfl
    | bl b => obtain ⟨rfl, _⟩ := r'; rfl
    | int i => obtain ⟨rfl, _⟩ := r'; rfl
    | str x => obtain ⟨rfl, _⟩ := r'; rfl
    | _ => cases h'
  | int i => obtain ⟨rfl, _⟩ := r; cases u with
    | non => obtain ⟨rfl, _⟩ := r'; rfl
    | bl b => obtain ⟨rfl, _⟩ := r'; rfl
    | int i => obtain ⟨rfl, _⟩ := r'; rfl
    | str x => obtain ⟨rfl, _⟩ := r'; rfl
    | _ => cases h'
  | str x => obtain ⟨rfl, _⟩ := r; cases u with
    | non => obtain ⟨rfl, _⟩ := r'; rfl
    | bl b => obtain ⟨rfl, _⟩ := r'; rfl
    | int i => obtain ⟨rfl, _⟩ := r'; rfl
    | str x => obtain ⟨rfl, _⟩ := r'; rfl
    | _ => cases h'
  | _ => cases h
theorem in_V {c : Hc} {x : T} {v : V} {gx : List Addr} (r : Rep c x v gx) (h : flatT x = true) : ∀ {ts : List T} {vs : List V} {g : List Addr}, Reps c ts vs g → ts.all flatT = true → vs.all flatV = true ∧ inV v vs = inF x ts
  | [], _, _, ⟨a, _⟩, _ => by rw [a]; exact ⟨rfl, rfl⟩
  | t :: ts, _, _, ⟨w, rr, ga, gb, a, _, d, q⟩, hf => by
    have hf := Bool.and_eq_true_iff.mp (show (flatT t && ts.all flatT) = true by simpa using hf)
    obtain ⟨h1, h2⟩ := in_V r h q hf.2
    rw [a]
    refine ⟨by simp only [List.all_cons, flat_V d hf.1, h1, Bool.and_self], ?_⟩
    unfold inV inF at h2 ⊢
    rw [List.any_cons, List.any_cons, eqF_V d r hf.1 h, h2]
def rInA (K : PySem.W.Frag) (neg : Bool) : R2 := fun x y H Q => rIn K neg x y H Q ∨ ∃ (c : Nat) (z : Str), x = .str ⟨#[c]⟩ ∧ y = .str z ∧ Q (.bl (if neg then !decide (c ∈ z.cps.toList) else decide (c ∈ z.cps.toList))) H
theorem op_inA : OpR X (compareOp .In) (rInA X.K false) := by
  intro pins s σ H x y v u Q I rx ry h
  rcases h with h | h
  · exact op_in_seq pins s σ H x y v u Q I rx ry h
  · exact op_in_sign pins s σ H x y v u Q I rx ry h
theorem op_notInA : OpR X (compareOp .NotIn) (rInA X.K true) := by
  intro pins s σ H x y v u Q I rx ry h
  rcases h with h | h
  · exact op_notIn_seq pins s σ H x y v u Q I rx ry h
  · exact op_notIn_sign pins s σ H x y v u Q I rx ry h
theorem o2_in {neg : Bool} : Op2 X ca (rInA X.K neg) (fIn neg) := by
  intro σ G x y z v w gx gy Q g rx ry e k
  have hK : G.K = X.K := g.k
  unfold fIn at e
  split at e
  · split at e
    · rename_i hf
      have hf := Bool.and_eq_true_iff.mp hf
      cases e
      obtain ⟨q, ws, gs, rfl, sq, rr, _, _⟩ := Rep.lstL g.fp g.ph ry
      obtain ⟨h1, h2⟩ := in_V rx hf.1 rr hf.2
      refine .inl ⟨q, ws, rfl, .inl (hK ▸ sq), flat_V rx hf.1, h1, ?_⟩
      rw [h2]
      exact fin0 g k ⟨rfl, rfl⟩
    · cases e
  · split at e
    · rename_i hf
      have hf := Bool.and_eq_true_iff.mp hf
      cases e
      obtain ⟨q, ws, rfl, sq, rr⟩ := Rep.tupT g.fp g.ph ry
      obtain ⟨h1, h2⟩ := in_V rx hf.1 rr hf.2
      refine .inl ⟨q, ws, rfl, .inr (hK ▸ sq), flat_V rx hf.1, h1, ?_⟩
      rw [h2]
      exact fin0 g k ⟨rfl, rfl⟩
    · cases e
  · split at e
    · cases e
      obtain ⟨rfl, _⟩ := rx
      obtain ⟨rfl, _⟩ := ry
      exact .inr ⟨_, _, rfl, rfl, fin0 g k ⟨rfl, rfl⟩⟩
    · cases e
  · cases e
end
end TL

set_option Elab.async false
set_option linter.all false
set_option maxRecDepth 100000
/-! TL12: constants of the module; methods of texts; x += e. -/
namespace TL
open PySem PySem.Spec L2

/-! ### constants -/
/-- the module's name x stands for the tree t -/
def GC (K : PySem.W.Frag) (mg : Str → Option Value) (x : Str) (t : T) : Prop := ∃ u v, mg x = some u ∧ RelV v u ∧ ∀ c : Hc, c.K = K → Rep c t v []
/-- in the written part the value u is the tree t -/
def repK (K : PySem.W.Frag) : Nat → T → Value → Bool
  | _, .non, .none => true
  | _, .bl b, .bool c => b == c
  | _, .int i, .int j _ => decide (i = j)
  | _, .str x, .str y _ => decide (x = y)
  | n + 1, .tup xs, .ref a => (match K.lookup a with
    | some ⟨.type c, _, .seq its _, _⟩ => decide (c = "tuple") && (decide (its.size ≤ sizeLine) && go n xs its.toList)
    | _ => false)
  | _, _, _ => false
where go (n : Nat) : List T → List Value → Bool
  | [], [] => true
  | t :: ts, u :: us => repK K n t u && go n ts us
  | _, _ => false
theorem repK_ok {K : PySem.W.Frag} : ∀ (n : Nat) (t : T) (u : Value), repK K n t u = true → ∃ v, RelV v u ∧ ∀ c : Hc, c.K = K → Rep c t v [] := by
  intro n
  induction n with
  | zero =>
    intro t u h
    cases t with
    | non => cases u with
      | none => exact ⟨.non, rfl, fun _ _ => ⟨rfl, rfl⟩⟩
      | _ => cases h
    | bl b => cases u with
      | bool c => exact ⟨.bl b, by rw [show b = c from eq_of_beq h]; rfl, fun _ _ => ⟨rfl, rfl⟩⟩
      | _ => cases h
    | int i => cases u with
      | int j t => exact ⟨.int i, ⟨t, by rw [show i = j from of_decide_eq_true h]⟩, fun _ _ => ⟨rfl, rfl⟩⟩
      | _ => cases h
    | str i => cases u with
      | str j t => exact ⟨.str i, ⟨t, by rw [show i = j from of_decide_eq_true h]⟩, fun _ _ => ⟨rfl, rfl⟩⟩
      | _ => cases h
    | tup xs => cases u <;> cases h
    | lst m xs => cases u <;> cases h
    | dic m xs => cases u <;> cases h
    | hnd m => cases u <;> cases h
  | succ n ih =>
    intro t u h
    cases t with
    | non => cases u with
      | none => exact ⟨.non, rfl, fun _ _ => ⟨rfl, rfl⟩⟩
      | _ => cases h
    | bl b => cases u with
      | bool c => exact ⟨.bl b, by rw [show b = c from eq_of_beq h]; rfl, fun _ _ => ⟨rfl, rfl⟩⟩
      | _ => cases h
    | int i => cases u with
      | int j t => exact ⟨.int i, ⟨t, by rw [show i = j from of_decide_eq_true h]⟩, fun _ _ => ⟨rfl, rfl⟩⟩
      | _ => cases h
    | str i => cases u with
      | str j t => exact ⟨.str i, ⟨t, by rw [show i = j from of_decide_eq_true h]⟩, fun _ _ => ⟨rfl, rfl⟩⟩
      | _ => cases h
    | lst m xs => cases u <;> cases h
    | dic m xs => cases u <;> cases h
    | hnd m => cases u <;> cases h
    | tup xs => cases u with
      | ref a =>
        have h : (match K.lookup a with
          | some ⟨.type c, _, .seq its _, _⟩ => decide (c = "tuple") && (decide (its.size ≤ sizeLine) && repK.go K n xs its.toList)
          | _ => false) = true := h
        split at h
        · rename_i c od its k sl hl
          obtain ⟨h1, h2⟩ := Bool.and_eq_true_iff.mp h
          obtain ⟨h3, h4⟩ := Bool.and_eq_true_iff.mp h2
          have all : ∀ (ts : List T) (us : List Value), repK.go K n ts us = true → ∃ vs, Vals vs us ∧ ∀ c : Hc, c.K = K → Reps c ts vs [] := by
            intro ts
            induction ts with
            | nil => intro us h; cases us with
              | nil => exact ⟨[], .nil, fun _ _ => ⟨rfl, rfl⟩⟩
              | cons _ _ => cases h
            | cons t ts ih2 => intro us h; cases us with
              | nil => cases h
              | cons u us =>
                obtain ⟨q1, q2⟩ := Bool.and_eq_true_iff.mp (show (repK K n t u && repK.go K n ts us) = true from h)
                obtain ⟨v, r1, r2⟩ := ih t u q1
                obtain ⟨vs, r3, r4⟩ := ih2 us q2
                exact ⟨v :: vs, .cons r1 r3, fun c hc => ⟨v, vs, [], [], rfl, rfl, r2 c hc, r4 c hc⟩⟩
          obtain ⟨vs, r1, r2⟩ := all xs its.toList h4
          refine ⟨.ref a, rfl, fun cc hc => ⟨a, vs, rfl, .inr ⟨_, its, k, by rw [hc]; exact hl, congrArg Value.type (of_decide_eq_true h1), rfl, of_decide_eq_true h3, r1⟩, r2 cc hc⟩⟩
        · cases h
      | _ => cases h
def gcB (K : PySem.W.Frag) (x : Str) (t : T) : Bool := match PySem.W.nsIn K mainGlobals x with
  | some (some u) => repK K 4 t u
  | _ => false
theorem gcB_ok {K : PySem.W.Frag} {h : Heap} {mg : Str → Option Value} {x : Str} {t : T} (X : K.In h) (G : h.Ns mainGlobals mg) (c : gcB K x t = true) : GC K mg x t := by
  unfold gcB at c
  split at c
  · rename_i u hu
    obtain ⟨v, r1, r2⟩ := repK_ok 4 t u c
    exact ⟨u, v, PySem.W.mg_of X G hu, r1, r2⟩
  · cases c
section
variable {X : Cx} {ca : Str → Addr} {e o : Expr} {ef eo : Bool} {pos apos : Pos}
theorem ex_gc {x : Str} {t : T} (h : GC X.K X.mg x t) (hg : Gl X x := by rfl) (hd : (x == ("__debug__" : Str)) = false := by decide) : EX ca X (.Name x pos) false (dC t) := by
  obtain ⟨u, v, hm, r, rp⟩ := h
  refine PE.imp (pe_glob hg hm r hd) fun σ H Q w => ?_
  obtain ⟨G, rfl, g, r', S', e1, k⟩ := w
  cases e1
  exact k G v [] rfl g (Step.refl _) (.bare (rp _ g.k)) New.nil
/-! ### methods of texts -/
def isS : T → Bool
  | .str _ => true
  | _ => false
def dM1 (f : T → T → Option T) (a b : DE) : DE := fun S => (a S).bind fun p => if isS p.1 then (b p.2).bind fun q => (f p.1 q.1).bind fun z => some (z, q.2) else none
def fPart : T → T → Option T
  | .str a, .str b => if (b.length == 0) = false ∧ a.length ≤ sizeLine then some (.tup [.str (Txt.partition a b).1, .str (Txt.partition a b).2.1, .str (Txt.partition a b).2.2]) else none
  | _, _ => none
def fJoin : T → T → Option T
  | .str a, .lst _ xs => (strsT xs).bind fun ys => if (ys.map (·.length)).sum + ys.length * a.length ≤ 16777216 then some (.str (Txt.join a ys)) else none
  | _, _ => none
def fSplit : T → T → Option T
  | .str a, .str b => if (b.length == 0) = false ∧ a.length + 2 ≤ sizeLine then some (.lst .ow ((Txt.split a b).map T.str)) else none
  | _, _ => none
theorem m1_of {r : V → List V → Hp → VK → Prop} {f : T → T → Option T} {da db : DE} (op : Op2 X ca (fun x y H Q => r x [y] H Q) f) {σ : L2.St} {H : Hp} {Q : VK} (w : liftE X.K ca (eo || ef) (dM1 f da db) σ H Q) : tM1 r (liftE X.K ca eo da) (liftE X.K ca ef db) σ H Q := by
  obtain ⟨G, rfl, g, z, S', e1, k⟩ := w
  obtain ⟨p, h1, e1⟩ := Option.bind_eq_some_iff.mp e1
  split at e1
  case isFalse => cases e1
  rename_i hs
  obtain ⟨q, h2, e1⟩ := Option.bind_eq_some_iff.mp e1
  obtain ⟨z', h3, e1⟩ := Option.bind_eq_some_iff.mp e1
  cases e1
  refine ⟨G, rfl, g, p.1, p.2, h1, fun G1 v gv a1 a2 a3 a4 a5 => ⟨?_, G1, rfl, a2, q.1, q.2, by rw [a1]; exact h2, fun G2 w gw b1 b2 b3 b4 b5 => ?_⟩⟩
  · cases hp : p.1 with
    | str x => rw [hp] at a4; exact ⟨x, a4.rep.1⟩
    | _ => rw [hp] at hs; cases hs
  · exact op σ G2 p.1 q.1 z v w gv gw Q b2 (a4.step b3).rep b4.rep h3 fun G' u gu c1 c2 c3 c4 c5 => k G' u gu (c1.trans b1) c2 (((a3.trans b3).trans c3).weak fun e => by rw [e]; rfl) c4 (c5.step (a3.trans b3))
theorem reps_strs {c : Hc} : ∀ ys : List Str, Reps c (ys.map T.str) (ys.map V.str) []
  | [] => ⟨rfl, rfl⟩
  | y :: ys => ⟨.str y, ys.map V.str, [], [], rfl, rfl, ⟨rfl, rfl⟩, reps_strs ys⟩
theorem ex_part {d1 d2 : DE} (ho : EX ca X o eo d1) (he : EX ca X e ef d2) (hs : starEach [e] X.env = [(false, eval e X.env)] := by rfl) (hbase : attributeBase o "partition" X.env (eval o X.env) = eval o X.env := by rfl) (hline : (apos.endLine == pos.line) = true := by rfl) : EX ca X (.Call (.Attribute o "partition" apos) [e] [] pos) (eo || ef) (dM1 fPart d1 d2) :=
  PE.imp (pe_partition ho he hs hbase hline) fun σ H Q w => m1_of (fun σ G x y z v w gx gy Q g rx ry e k => by
    unfold fPart at e
    split at e
    · split at e
      · rename_i a b hl
        cases e
        obtain ⟨rfl, _⟩ := rx
        obtain ⟨rfl, _⟩ := ry
        refine ⟨a, b, rfl, rfl, hl.1, hl.2, finT g k (reps_strs [_, _, _])⟩
      · cases e
    · cases e) w
theorem ex_join {d1 d2 : DE} (ho : EX ca X o eo d1) (he : EX ca X e ef d2) (hs : starEach [e] X.env = [(false, eval e X.env)] := by rfl) (hbase : attributeBase o "join" X.env (eval o X.env) = eval o X.env := by rfl) (hline : (apos.endLine == pos.line) = true := by rfl) : EX ca X (.Call (.Attribute o "join" apos) [e] [] pos) (eo || ef) (dM1 fJoin d1 d2) :=
  PE.imp (pe_join ho he hs hbase hline) fun σ H Q w => m1_of (fun σ G x y z v w gx gy Q g rx ry e k => by
    have hK : G.K = X.K := g.k
    unfold fJoin at e
    split at e
    · obtain ⟨ys, h, e⟩ := Option.bind_eq_some_iff.mp e
      split at e
      · rename_i hl
        cases e
        obtain ⟨rfl, _⟩ := rx
        obtain ⟨q, ws, gs, rfl, sq, rr, _, _⟩ := Rep.lstL g.fp g.ph ry
        rw [strs_vs h rr, hK] at sq
        exact ⟨_, q, ys, rfl, rfl, .inl sq, hl, fin0 g k ⟨rfl, rfl⟩⟩
      · cases e
    · cases e) w
theorem ex_split {d1 d2 : DE} (ho : EX ca X o eo d1) (he : EX ca X e ef d2) (hs : starEach [e] X.env = [(false, eval e X.env)] := by rfl) (hbase : attributeBase o "split" X.env (eval o X.env) = eval o X.env := by rfl) (hline : (apos.endLine == pos.line) = true := by rfl) : EX ca X (.Call (.Attribute o "split" apos) [e] [] pos) (eo || ef) (dM1 fSplit d1 d2) :=
  PE.imp (pe_split ho he hs hbase hline) fun σ H Q w => m1_of (fun σ G x y z v w gx gy Q g rx ry e k => by
    unfold fSplit at e
    split at e
    · split at e
      · rename_i a b hl
        cases e
        obtain ⟨rfl, _⟩ := rx
        obtain ⟨rfl, _⟩ := ry
        exact ⟨a, b, rfl, rfl, hl.1, hl.2, finL g k (reps_strs _)⟩
      · cases e
    · cases e) w
/-! ### x += e, a name's -/
def sAug (f : T → T → Option T) (i : Nat) (d : DE) : DS := fun S => (slot S i).bind fun t => (d S).bind fun p => if t.noOw then (f t p.1).bind fun z => some (.nx, setS p.2 i (some z)) else none
def rAugAdd : R2 := fun x y H Q => (∃ i j, x = .int i ∧ y = .int j ∧ Q (.int (i + j)) H) ∨ ∃ i j, x = .str i ∧ y = .str j ∧ i.length + j.length ≤ sizeLine ∧ Q (.str (i ++ j)) H
theorem ip_addA : PIp X .Add rAugAdd := by
  intro pins s σ H x y v u Q I rx ry h
  rcases h with h | h
  · exact ip_add pins s σ H x y v u Q I rx ry h
  · exact iop_add_str pins s σ H x y v u Q I rx ry h
def fAugAdd : T → T → Option T
  | .int i, .int j => some (.int (i + j))
  | .str x, .str y => if x.length + y.length ≤ sizeLine then some (.str (x ++ y)) else none
  | _, _ => none
theorem o2_augAdd : Op2 X ca rAugAdd fAugAdd := by
  intro σ G x y z v w gx gy Q g rx ry e k
  unfold fAugAdd at e
  split at e
  · cases e
    obtain ⟨rfl, _⟩ := rx
    obtain ⟨rfl, _⟩ := ry
    exact .inl ⟨_, _, rfl, rfl, fin0 g k ⟨rfl, rfl⟩⟩
  · split at e
    · rename_i hl
      cases e
      obtain ⟨rfl, _⟩ := rx
      obtain ⟨rfl, _⟩ := ry
      exact .inr ⟨_, _, rfl, rfl, hl, fin0 g k ⟨rfl, rfl⟩⟩
    · cases e
  · cases e
theorem o2_augSub : Op2 X ca (ipI fun i j => i - j) fSub := fun σ G x y z v w gx gy Q g rx ry e k => o2_sub σ G x y z v w gx gy Q g rx ry e k
theorem sx_aug {i : Nat} {x : Str} {op : Operator} {ti : TIp} {f : T → T → Option T} {d : DE} {pos' : Pos} (hN : X.N.Nodup) (hi : X.N[i]? = some x) (hx : Loc X.env.scope x) (h : EX ca X e ef d) (ho : PIp X op ti) (o2 : Op2 X ca ti f)
    (hf : X.fn x = true ∨ X.env.scope.names.lookup x = some .local := by first | exact .inl rfl | exact .inr rfl | assumption) : SX ca X (.AugAssign (.Name x pos') op e pos) (sAug f i d) := PS.imp (ps_aug hN hi hx h ho hf) fun D σ H w => by
  obtain ⟨G, rfl, g, fl, S', e1, k⟩ := w
  obtain ⟨t, h0, e1⟩ := Option.bind_eq_some_iff.mp e1
  obtain ⟨p, h1, e1⟩ := Option.bind_eq_some_iff.mp e1
  split at e1
  case isFalse => cases e1
  rename_i no
  obtain ⟨z, h2, e1⟩ := Option.bind_eq_some_iff.mp e1
  cases e1
  obtain ⟨v, hv, tm⟩ := g.copy (slot_some h0) no
  refine ⟨v, hv, G, rfl, g, p.1, p.2, h1, fun G1 w gw a1 a2 a3 a4 a5 => ?_⟩
  refine o2 σ G1 t p.1 z v w [] gw _ a2 (tm.step a3).rep a4.rep h2 fun G2 u gu b1 b2 b3 b4 b5 => ?_
  have hl : i < σ.length := (List.getElem?_eq_some_iff.mp hv).1
  obtain ⟨g3, s3⟩ := b2.store hl b4
  refine k (G2.put i (some z) gu) _ ?_ g3 (s3 G _ (a3.trans b3) (b5.step a3))
  show (G2.τ.set i (some z), G2.O) = setS p.2 i (some z)
  rw [← a1, ← b1] <;> rfl
end
end TL

set_option Elab.async false
set_option linter.all false
set_option maxRecDepth 100000
/-! TL13: values held for good on the way; new handles; defs by their data; defs that call themselves. -/
namespace TL
open PySem PySem.Spec L2

section
variable {K : PySem.W.Frag} {ca : Str → Addr} {σ : L2.St} {G : Gh}
def Gh.iceT (G : Gh) (gt : List Addr) : Gh := { G with F := plus G.F G.H gt, P := plus G.P G.H gt }
/-- a temporary held for good from now on -/
theorem Good.iceT (g : Good K ca σ G) {v : V} {t : T} {gt : List Addr} (m : Tmp G v t gt) :
    Good K ca σ (G.iceT gt) ∧ (∀ G0 ef, Step ef G0 G → New G0 gt → Step true G0 (G.iceT gt)) ∧ Tmp (G.iceT gt) v t.frz [] := by
  have pn : ∀ x ∈ gt, G.P x = none := fun x mm => (m.out x mm).2.2
  have fn : ∀ x ∈ gt, G.F x = none := fun x mm => by
    cases q : G.F x with
    | none => rfl
    | some o => exact absurd (pn x mm) (by rw [g.fp x o q]; simp)
  have ex : ∀ gg : List Addr, Ex G.toHc (G.iceT gt).toHc gg := fun gg => ⟨rfl, rfl, plus_sameN fn, plus_sameN pn, fun _ _ _ e => e, ⟨[], by show G.ad = _; simp⟩⟩
  have rf : Rep (G.iceT gt).toHc t.frz v [] := Rep.frz (c := G.toHc) (c' := (G.iceT gt).toHc) t v gt ⟨rfl, plus_sameN fn, plus_sameN pn, fun x mm o e => by show plus G.F G.H _ x = _; rw [plus_in mm]; exact e, fun _ _ e => e⟩ m.rep
  refine ⟨{ k := g.k, c := g.c, len := g.len, fp := fun x o e => ?_, ph := plus_leL g.ph, nd := g.nd, dj := g.dj, pn := fun k x mm => ?_, adn := g.adn, adp := fun x mm => ?_, ado := g.ado, sl := fun j u e => ?_, sn := g.sn, ob := fun n b e => ?_, on := g.on, ln := g.ln },
    fun G0 ef s n => { k := s.k, c := s.c, f := s.f.trans (plus_sameN fn), p := s.p.trans (plus_sameN pn), fnew := fun x o e => ?_, pnew := fun x o e => ?_, fr := s.fr, dom := s.dom, ad := s.ad, anew := s.anew, gnew := s.gnew, q := fun e => by cases e }, .bare rf⟩
  · show plus G.P G.H _ x = _
    by_cases mm : x ∈ gt
    · rw [plus_in mm]
      have e2 : plus G.F G.H gt x = some o := e
      rw [plus_in mm] at e2; exact e2
    · rw [plus_out mm]
      have e2 : plus G.F G.H gt x = some o := e
      rw [plus_out mm] at e2; exact g.fp x o e2
  · show plus G.P G.H _ x = none
    rw [plus_out fun z => (m.out x z).1 k mm]
    exact g.pn k x mm
  · show plus G.P G.H _ x = none
    rw [plus_out fun z => (m.out x z).2.1 mm]
    exact g.adp x mm
  · obtain ⟨v', a', r'⟩ := g.sl j u e
    exact ⟨v', a', Rep.ex _ _ _ (ex _) r'⟩
  · obtain ⟨p, a', r'⟩ := g.ob n b e
    exact ⟨p, a', r'.ex (ex _)⟩
  · have e2 : plus G.F G.H gt x = some o := e
    by_cases mm : x ∈ gt
    · exact .inr (n x mm)
    · rw [plus_out mm] at e2; exact s.fnew x o e2
  · have e2 : plus G.P G.H gt x = some o := e
    by_cases mm : x ∈ gt
    · exact .inr (n x mm)
    · rw [plus_out mm] at e2; exact s.pnew x o e2
/-- a new list gets a handle -/
theorem Good.hndT (g : Good K ca σ G) {v : V} {xs : List T} {gt : List Addr} (m : Tmp G v (.lst .ow xs) gt) (hb : noBrs xs = true) :
    ∃ G', G'.H = G.H ∧ G'.S = (G.τ, G.O ++ [.lst xs]) ∧ Good K ca σ G' ∧ (∀ G0 ef, Step ef G0 G → New G0 gt → Step true G0 G') ∧ Tmp G' v (.hnd G.O.length) [] := by
  obtain ⟨p, vs, gs, rfl, e1, r, rfl⟩ := m.rep
  have nd := List.nodup_cons.mp m.nd
  have gn : G.fp (.o G.O.length) = [] := g.on _ (by simp)
  let n := G.O.length
  let G' : Gh := { G with ad := G.ad ++ [p], O := G.O ++ [.lst xs], fp := fun k => if k = .o n then gs else G.fp k }
  have fo : G'.fp (.o n) = gs := if_pos rfl
  have fn : ∀ {k}, k ≠ .o n → G'.fp k = G.fp k := fun e => if_neg e
  have sub : ∀ k a, a ∈ G'.fp k → (k = .o n ∧ a ∈ gs) ∨ (k ≠ .o n ∧ a ∈ G.fp k) := fun k a q => by
    by_cases e : k = .o n
    · subst e; rw [fo] at q; exact .inl ⟨rfl, q⟩
    · rw [fn e] at q; exact .inr ⟨e, q⟩
  have out : ∀ a ∈ gs, (∀ k, a ∉ G.fp k) ∧ a ∉ G.ad ∧ G.P a = none := fun a h => m.out a (List.mem_cons_of_mem _ h)
  have outp := m.out p (by simp)
  have ex : ∀ gg : List Addr, Ex G.toHc G'.toHc gg := fun gg => ⟨rfl, rfl, Same.refl _, Same.refl _, fun _ _ _ e => e, ⟨[p], rfl⟩⟩
  have adl : ∀ {a}, a ∈ G'.ad → a ∈ G.ad ∨ a = p := fun {a} h => by
    have h : a ∈ G.ad ++ [p] := h
    simpa using h
  refine ⟨G', rfl, rfl, { k := g.k, c := g.c, len := g.len, fp := g.fp, ph := g.ph, nd := fun k => ?_, dj := fun k k' a q q' => ?_, pn := fun k a q => ?_, adn := ?_, adp := fun a h => ?_, ado := fun a h k q => ?_, sl := fun i t e => ?_, sn := fun i e => ?_, ob := fun j b e => ?_, on := fun j e => ?_, ln := ?_ },
    fun G0 ef s nw => { s with ad := ?_, anew := fun a h => ?_, gnew := fun k a q => ?_, q := fun e => by cases e }, .bare ⟨p, rfl, ?_, rfl⟩⟩
  · by_cases e : k = .o n
    · subst e; rw [fo]; exact nd.2
    · rw [fn e]; exact g.nd k
  · rcases sub k a q with ⟨e1, a1⟩ | ⟨e1, a1⟩ <;> rcases sub k' a q' with ⟨e2, a2⟩ | ⟨e2, a2⟩
    · rw [e1, e2]
    · exact absurd a2 ((out a a1).1 k')
    · exact absurd a1 ((out a a2).1 k)
    · exact g.dj k k' a a1 a2
  · rcases sub k a q with ⟨_, a1⟩ | ⟨_, a1⟩
    · exact (out a a1).2.2
    · exact g.pn k a a1
  · show (G.ad ++ [p]).Nodup
    exact List.nodup_append.mpr ⟨g.adn, by simp, fun a h b h' e => outp.2.1 (by
      have : b = p := by simpa using h'
      rw [← this, ← e]; exact h)⟩
  · rcases adl h with h | h
    · exact g.adp a h
    · rw [h]; exact outp.2.2
  · rcases adl h with h | h <;> rcases sub k a q with ⟨_, a1⟩ | ⟨_, a1⟩
    · exact (out a a1).2.1 h
    · exact g.ado a h k a1
    · rw [h] at a1; exact nd.1 a1
    · rw [h] at a1; exact outp.1 k a1
  · obtain ⟨v', a, r'⟩ := g.sl i t e
    refine ⟨v', a, ?_⟩
    rw [fn (by intro z; cases z)]
    exact Rep.ex _ _ _ (ex _) r'
  · rw [fn (by intro z; cases z)]; exact g.sn i e
  · have e : (G.O ++ [Ob.lst xs])[j]? = some b := e
    by_cases hj : j < G.O.length
    · rw [List.getElem?_append_left hj] at e
      obtain ⟨q, a, r'⟩ := g.ob j b e
      refine ⟨q, (ex []).adAt a, ?_⟩
      rw [fn (by intro z; cases z; exact absurd hj (Nat.lt_irrefl _))]
      exact r'.ex (ex _)
    · have hj2 : j = G.O.length := by
        have := (List.getElem?_eq_some_iff.mp e).1
        simp at this
        omega
      subst hj2
      rw [List.getElem?_append_right (Nat.le_refl _), Nat.sub_self] at e
      cases e
      refine ⟨p, ?_, ?_⟩
      · show (G.ad ++ [p])[G.O.length]? = _
        rw [← g.ln, List.getElem?_append_right (Nat.le_refl _), Nat.sub_self]; rfl
      · rw [show G'.fp (.o G.O.length) = gs from fo]
        exact ⟨vs, e1, Reps.ex _ _ _ (ex _) r, hb⟩
  · have e : (G.O ++ [Ob.lst xs])[j]? = none := e
    have hj := List.getElem?_eq_none_iff.mp e
    simp at hj
    rw [fn (by intro z; cases z; show False; have : n + 1 ≤ n := hj; omega)]
    exact g.on j (List.getElem?_eq_none_iff.mpr (by omega))
  · show (G.ad ++ [p]).length = (G.O ++ [Ob.lst xs]).length
    simp [g.ln]
  · obtain ⟨more, h⟩ := s.ad
    exact ⟨more ++ [p], by show G.ad ++ [p] = _; rw [h, List.append_assoc]⟩
  · rcases adl h with h | h
    · exact s.anew a h
    · rw [h]; exact .inr (nw p (by simp))
  · rcases sub k a q with ⟨_, a1⟩ | ⟨_, a1⟩
    · exact (nw a (List.mem_cons_of_mem _ a1)).symm
    · exact s.gnew k a a1
  · show (G.ad ++ [p])[G.O.length]? = _
    rw [← g.ln, List.getElem?_append_right (Nat.le_refl _), Nat.sub_self]; rfl
end
/-! ### mirrors -/
/-- a value held for good -/
def dIce (d : DE) : DE := fun S => (d S).bind fun p => some (p.1.frz, p.2)
def dHnd (d : DE) : DE := fun S => (d S).bind fun p => match p.1 with
  | .lst .ow xs => if noBrs xs then some (.hnd p.2.2.length, (p.2.1, p.2.2 ++ [.lst xs])) else none
  | _ => none
/-- a name's value: as it is where it owns nothing, else held for good -/
def dUse (i : Nat) : DE := fun S => (slot S i).bind fun t => if t.noOw then some (t, S) else some (t.frz, setS S i (some t.frz))
def oBorS (i : Nat) : DO := fun S => (slot S i).bind fun _ => some (.bor i, S)
/-- nothing owned below the top -/
def T.kids : T → Bool
  | .lst _ xs => noOws xs
  | .dic _ xs => noOwK xs
  | .tup xs => noOws xs
  | _ => true
/-- a name to be looked into: lent where its parts own nothing, else held for good -/
def oAuto (i : Nat) : DO := fun S => (slot S i).bind fun t => if t.kids then some (.bor i, S) else some (.tmp t.frz, setS S i (some t.frz))
section
variable {X : Cx} {ca : Str → Addr} {e : Expr} {ef : Bool}
theorem ex_ice {d : DE} (h : EX ca X e ef d) : EX ca X e true (dIce d) := PE.imp h fun σ H Q w => by
  obtain ⟨G, rfl, g, r, S', e1, k⟩ := w
  obtain ⟨p, h1, e1⟩ := Option.bind_eq_some_iff.mp e1
  cases e1
  refine ⟨G, rfl, g, p.1, p.2, h1, fun G1 v gv a1 a2 a3 a4 a5 => ?_⟩
  obtain ⟨g2, s2, t2⟩ := a2.iceT a4
  exact k (G1.iceT gv) v [] a1 g2 (s2 G ef a3 a5) t2 New.nil
theorem ex_hnd {d : DE} (h : EX ca X e ef d) : EX ca X e true (dHnd d) := PE.imp h fun σ H Q w => by
  obtain ⟨G, rfl, g, r, S', e1, k⟩ := w
  obtain ⟨p, h1, e1⟩ := Option.bind_eq_some_iff.mp e1
  refine ⟨G, rfl, g, p.1, p.2, h1, fun G1 v gv a1 a2 a3 a4 a5 => ?_⟩
  split at e1
  · rename_i xs hx
    split at e1
    · rename_i hb
      cases e1
      rw [hx] at a4
      obtain ⟨G', b1, b2, b3, b4, b5⟩ := a2.hndT a4 hb
      rw [← b1]
      refine k G' v [] ?_ b3 (b4 G ef a3 a5) ?_ New.nil
      · rw [b2, ← a1]
      · rw [← a1]; exact b5
    · cases e1
  · cases e1
theorem ex_use {i : Nat} (h : PE X e (tVar i)) : EX ca X e true (dUse i) := PE.imp h fun σ H Q w => by
  obtain ⟨G, rfl, g, r, S', e1, k⟩ := w
  obtain ⟨t, h1, h2⟩ := Option.bind_eq_some_iff.mp e1
  split at h2
  · rename_i n
    cases h2
    obtain ⟨v, e2, m⟩ := g.copy (slot_some h1) n
    exact ⟨v, e2, k G v [] rfl g (Step.refl _) m New.nil⟩
  · cases h2
    obtain ⟨v, e2, g2, s2, m⟩ := g.ice (slot_some h1)
    exact ⟨v, e2, k (G.ice i t) v [] rfl g2 s2 m New.nil⟩
theorem ox_borS {i : Nat} (h : PE X e (tVar i)) : OX ca X e false (oBorS i) := ox_bor h
theorem ox_auto {i : Nat} (h : PE X e (tVar i)) : OX ca X e true (oAuto i) := PE.imp h fun σ H Q w => by
  obtain ⟨G, rfl, g, r, S', e1, k⟩ := w
  obtain ⟨t, h1, h2⟩ := Option.bind_eq_some_iff.mp e1
  split at h2
  · cases h2
    obtain ⟨v, e2, _⟩ := g.sl i t (slot_some h1)
    exact ⟨v, e2, k G v [] rfl g (Step.refl _) ⟨e2, rfl⟩ New.nil⟩
  · cases h2
    obtain ⟨v, e2, g2, s2, m⟩ := g.ice (slot_some h1)
    exact ⟨v, e2, k (G.ice i t) v [] rfl g2 s2 m New.nil⟩
end
/-! ### a, b = x, y -/
def sPar (i j : Nat) (a : DA) : DS := fun S => (a S).bind fun p => match p.1 with
  | [.tmp t, .tmp u] => if i < p.2.1.length ∧ j < p.2.1.length ∧ i ≠ j then some (.nx, setS (setS p.2 i (some t)) j (some u)) else none
  | _ => none
def sPar3 (i j l : Nat) (a : DA) : DS := fun S => (a S).bind fun p => match p.1 with
  | [.tmp t, .tmp u, .tmp z] => if i < p.2.1.length ∧ j < p.2.1.length ∧ l < p.2.1.length then some (.nx, setS (setS (setS p.2 i (some t)) j (some u)) l (some z)) else none
  | _ => none
section
variable {X : Cx} {ca : Str → Addr} {a b c : Expr} {ef : Bool} {pos : Pos}
theorem sx_par {i j : Nat} {x y : Str} {px py pt pt2 : Pos} {kt k2 : Nat} {da : DA} (hc : X.calm = true) (hN : X.N.Nodup) (hi : X.N[i]? = some x) (hj : X.N[j]? = some y) (hij : i ≠ j) (hx : X.env.scope.names.lookup x = some .local) (hy : X.env.scope.names.lookup y = some .local) (h : AX ca X [a, b] ef da)
    (hw : swappedStores [.Tuple [.Name x px, .Name y py] kt pt] (.Tuple [a, b] k2 pt2) X.env = pure (some [x, y])) (hs : swapsWithSole [.Tuple [.Name x px, .Name y py] kt pt] (.Tuple [a, b] k2 pt2) pos.line X.env = pure false := by rfl) :
    SX ca X (.Assign [.Tuple [.Name x px, .Name y py] kt pt] (.Tuple [a, b] k2 pt2) pos) (sPar i j da) := PS.imp (ps_par hc hN hi hj hij hx hy h hw hs) fun D σ H w => by
  obtain ⟨G, rfl, g, f, S', e1, k⟩ := w
  obtain ⟨p, h3, e1⟩ := Option.bind_eq_some_iff.mp e1
  refine ⟨G, rfl, g, p.1, p.2, h3, fun G1 vs gs a1 a2 a3 a4 a5 => ?_⟩
  split at e1
  case h_2 => cases e1
  rename_i t u hp
  split at e1
  case isFalse => cases e1
  rename_i hl
  cases e1
  rw [hp] at a4
  obtain ⟨v, r, ga, gb, rfl, rfl, h1, ⟨v2, r2, gc, gd, rfl, rfl, h2, ⟨rfl, rfl⟩, _⟩, ap⟩ := a4
  have h1 : Tmp G1 v t ga := h1
  have h2 : Tmp G1 v2 u gc := h2
  have ln : p.2.1.length = σ.length := by rw [← a2.len, ← a1]
  obtain ⟨g2, s2⟩ := a2.store (by rw [← ln]; exact hl.1) h1
  have h2' : Tmp (G1.put i (some t) ga) v2 u gc := h2.put fun x m z => ap x z (List.mem_append_left _ m)
  obtain ⟨g3, s3⟩ := g2.store (i := j) (by rw [List.length_set, ← ln]; exact hl.2.1) h2'
  refine ⟨v, v2, rfl, k ((G1.put i (some t) ga).put j (some u) gc) _ ?_ g3 (s3 G true (s2 G ef a3 fun x m => a5 x (List.mem_append_left _ m)) fun x m => a5 x (List.mem_append_right _ (List.mem_append_left _ m)))⟩
  show (_, _) = setS (setS p.2 i (some t)) j (some u)
  rw [← a1] <;> rfl
theorem sx_par3 {i j l : Nat} {x y z : Str} {px py pz pt pt2 : Pos} {kt k2 : Nat} {da : DA} (hc : X.calm = true) (hN : X.N.Nodup) (hi : X.N[i]? = some x) (hj : X.N[j]? = some y) (hl : X.N[l]? = some z) (hij : i ≠ j) (hil : i ≠ l) (hjl : j ≠ l) (hx : X.env.scope.names.lookup x = some .local) (hy : X.env.scope.names.lookup y = some .local) (hz : X.env.scope.names.lookup z = some .local) (h : AX ca X [a, b, c] ef da)
    (hw : swappedStores [.Tuple [.Name x px, .Name y py, .Name z pz] kt pt] (.Tuple [a, b, c] k2 pt2) X.env = pure (some [x, y, z])) (hs : swapsWithSole [.Tuple [.Name x px, .Name y py, .Name z pz] kt pt] (.Tuple [a, b, c] k2 pt2) pos.line X.env = pure false := by rfl) :
    SX ca X (.Assign [.Tuple [.Name x px, .Name y py, .Name z pz] kt pt] (.Tuple [a, b, c] k2 pt2) pos) (sPar3 i j l da) := PS.imp (ps_par3 hc hN hi hj hl hij hil hjl hx hy hz h hw hs) fun D σ H w => by
  obtain ⟨G, rfl, g, f, S', e1, k⟩ := w
  obtain ⟨p, h3, e1⟩ := Option.bind_eq_some_iff.mp e1
  refine ⟨G, rfl, g, p.1, p.2, h3, fun G1 vs gs a1 a2 a3 a4 a5 => ?_⟩
  split at e1
  case h_2 => cases e1
  rename_i t u q hp
  split at e1
  case isFalse => cases e1
  rename_i hl
  cases e1
  rw [hp] at a4
  obtain ⟨v, r, ga, gb, rfl, rfl, h1, ⟨v2, r2, gc, gd, rfl, rfl, h2, ⟨v3, r3, ge, gf, rfl, rfl, h4, ⟨rfl, rfl⟩, _⟩, ap2⟩, ap⟩ := a4
  have h1 : Tmp G1 v t ga := h1
  have h2 : Tmp G1 v2 u gc := h2
  have h4 : Tmp G1 v3 q ge := h4
  have ln : p.2.1.length = σ.length := by rw [← a2.len, ← a1]
  obtain ⟨g2, s2⟩ := a2.store (by rw [← ln]; exact hl.1) h1
  have h2' : Tmp (G1.put i (some t) ga) v2 u gc := h2.put fun x m z => ap x z (List.mem_append_left _ m)
  have h4' : Tmp (G1.put i (some t) ga) v3 q ge := h4.put fun x m z => ap x z (List.mem_append_right _ (List.mem_append_left _ m))
  obtain ⟨g3, s3⟩ := g2.store (i := j) (by rw [List.length_set, ← ln]; exact hl.2.1) h2'
  have h4'' : Tmp ((G1.put i (some t) ga).put j (some u) gc) v3 q ge := h4'.put fun x m z => ap2 x z (List.mem_append_left _ m)
  obtain ⟨g4, s4⟩ := g3.store (i := l) (by rw [List.length_set, List.length_set, ← ln]; exact hl.2.2) h4''
  refine ⟨v, v2, v3, rfl, k (((G1.put i (some t) ga).put j (some u) gc).put l (some q) ge) _ ?_ g4 (s4 G true (s3 G true (s2 G ef a3 fun x m => a5 x (List.mem_append_left _ m)) fun x m => a5 x (List.mem_append_right _ (List.mem_append_left _ m))) fun x m => a5 x (List.mem_append_right _ (List.mem_append_right _ (List.mem_append_left _ m))))⟩
  show (_, _) = setS (setS (setS p.2 i (some t)) j (some u)) l (some q)
  rw [← a1] <;> rfl
end
/-! ### defs by their data -/
section
variable {P : Program} {w : World} {K : PySem.W.Frag} {mg : Str → Option Value} {base : Heap} {ca : Str → Addr}
/-- a def without defaults, that stands at the top -/
abbrev FnP (K : PySem.W.Frag) (x : Str) (st : Stmt) (f : Addr) (fd : FuncData) : Prop := FunD K x x (defArgs st) (defBody st) (defScope st) [] [] f fd
theorem fn_okD {x : Str} {st : Stmt} {f : Addr} {fd : FuncData} {N ps : List Str} {k : Nat} {b : DS} (F : FnP K x st f fd) (S : FnScope N ps (defScope st)) (hN : ps.length ≤ N.length)
    (hb : ∀ (cdv : Value) (A : Around) (outer : List Env) (s : Shared) (H : Hp) (E : XK), Room k (A.deeper (PyProof.Rows.envOfC x (defScope st) s.heap.objs.size f cdv)) → BX ca (cxOf CX0 P w K mg base N x (defScope st) f cdv A outer s H E).nox (defBody st) b) :
    FnOk P w K mg base CX0 (k + 1) f fd ps (spT K ca ps.length (dFn N.length b)) := by
  refine F.ok S (fun vs H Q E h => h.1) (fun cdv A outer s H vs Q E hr h => ⟨liftS K ca b, PSs.nox (hb cdv A outer s H E hr), ?_⟩)
  obtain ⟨hl, G, rfl, g, ts, r, O', hτ, hd, hbr, kk⟩ := h
  have ht : ts.length = ps.length := by
    have := g.len
    rw [hτ, List.length_map, List.length_map] at this
    omega
  unfold dFn at hd
  obtain ⟨q, e1, hd⟩ := Option.bind_eq_some_iff.mp hd
  refine ⟨{ G with τ := G.τ ++ List.replicate (N.length - ps.length) none }, rfl, ?_, q.1, q.2, ?_, fun G' σ' a1 a2 a3 => ?_⟩
  · have e : L2.start N vs = vs.map some ++ List.replicate (N.length - ps.length) none := by unfold L2.start; rw [hl]
    rw [e]
    exact g.ext _
  · show b (G.τ ++ _, G.O) = _
    rw [hτ, ← ht]
    exact e1
  · have st : Step true G G' := { a3 with q := fun e => by cases e }
    have hO : G'.O = q.2.2 := by rw [← a1]
    cases hq : q.1 with
    | nx =>
      rw [hq] at hd
      cases hd
      exact kk G' σ' .non [] a2 st (.bare ⟨rfl, rfl⟩) New.nil hO
    | rt t =>
      rw [hq] at hd
      intro v gv m n
      have hd : (if t.noBr then some (t, q.2.2) else none) = some (r, O') := hd
      split at hd
      · cases hd
        exact kk G' σ' v gv a2 st m n hO
      · cases hd
    | bk => rw [hq] at hd; cases hd
    | ct => rw [hq] at hd; cases hd
/-- a promise of nothing -/
theorem fn_none {f : Addr} {fd : FuncData} {ps : List Str} {n k : Nat} : FnOk P w K mg base CX0 k f fd ps (spT K ca n fun _ _ => none) :=
  by
  have no : ∀ {vs : List V} {H : Hp} {Q : VK} {E : XK}, ¬ spT K ca n (fun _ _ => none) vs H Q E := fun h => by
    obtain ⟨_, G, _, _, ts, r, O', _, h, _⟩ := h
    cases h
  exact ⟨fun vs H Q E h => absurd h no, fun A outer s H args us vs Q E _ _ _ _ h => absurd h no⟩
/-- a def's mirror, of itself as it stands after one call more -/
def dRec (b : DF → DF) : Nat → DF
  | 0 => fun _ _ => none
  | n + 1 => b (dRec b n)
theorem fn_rec {f : Addr} {fd : FuncData} {ps : List Str} {c : Nat} {b : DF → DF} (h : ∀ (d : DF) (k : Nat), c ≤ k → FnOk P w K mg base CX0 k f fd ps (spT K ca ps.length d) → FnOk P w K mg base CX0 (k + 1) f fd ps (spT K ca ps.length (b d))) : ∀ n, FnOk P w K mg base CX0 (c + n) f fd ps (spT K ca ps.length (dRec b n))
  | 0 => fn_none
  | n + 1 => h (dRec b n) (c + n) (by omega) (fn_rec h n)
theorem callee_of {x : Str} {st : Stmt} {f : Addr} {fd : FuncData} {ps : List Str} {k : Nat} {d : DF} (F : FnP K x st f fd) (hm : mg x = some (.ref f)) (hb : Binds K fd ps []) (h : FnOk P w K mg base CX0 k f fd ps (spT K ca ps.length d)) : Callee P w K mg base ca x ps k d := ⟨f, fd, hm, F.kp, hb, h⟩
end
end TL

set_option Elab.async false
set_option linter.all false
set_option maxRecDepth 100000
/-! TL14: the head: defs and constants; the law's end. -/
namespace TL
open PySem PySem.Spec L2

def frag (n : Nat) (g : Addr → Option Obj) : PySem.W.Frag := He.frG g (He.asD g n)
theorem frag_in (n : Nat) (h : Heap) : (frag n h.get?).In h := by
  unfold frag He.frG
  intro a o m
  generalize He.asD h.get? n = l at m
  induction l with
  | nil => cases m
  | cons b l ih =>
    rw [List.filterMap_cons] at m
    cases q : h.get? b with
    | none => rw [q] at m; exact ih m
    | some u =>
      rw [q] at m
      have m : List.lookup a ((b, u) :: _) = some o := m
      rw [List.lookup_cons] at m
      split at m
      · rename_i e
        cases m
        rw [eq_of_beq e]
        exact q
      · exact ih m
def obsC (n : Nat) (fa : List He.Fa) (fn : List He.DefD) (cs : List (Str × T)) (g : Addr → Option Obj) : Bool × He.AlD := (cs.all fun c => gcB (frag n g) c.1 c.2, He.obsD fa fn (frag n g))
def saysC (fa : List He.Fa) (fn : List He.DefD) (cs : List (Str × T)) (h : Heap) : Prop := ∃ K : PySem.W.Frag, K.In h ∧ He.SaysD fa fn K ∧ ∀ c ∈ cs, gcB K c.1 c.2 = true
def hookC (n : Nat) (fa : List He.Fa) (fn : List He.DefD) (cs : List (Str × T)) : PySem.W.Hook where
  α := Bool × He.AlD
  obs := fun s => obsC n fa fn cs s.heap.get?
  val := fun _ => (true, He.valD fn)
  says := fun _ h => saysC fa fn cs h
  of := fun w s e => by
    have e1 := congrArg Prod.fst e
    have e2 := congrArg Prod.snd e
    exact ⟨frag n s.heap.get?, frag_in n s.heap, e2, fun c m => List.all_eq_true.mp e1 c m⟩
  keeps := fun w h h' ⟨K, a, b, c⟩ k => ⟨K, fun x o m => k x o (a x o m), b, c⟩
theorem obsC_eq {n : Nat} {fa : List He.Fa} {fn : List He.DefD} {cs : List (Str × T)} {g : Addr → Option Obj} {s : Shared} (h : ∀ a, g a = s.heap.get? a) : obsC n fa fn cs g = (hookC n fa fn cs).obs s := by
  have e : g = s.heap.get? := funext h
  rw [e]
  rfl
/-- the law's own promise: the script's numbers, everything else held for good -/
theorem law_end {K : PySem.W.Frag} {ca : Str → Addr} {d : DF} {H : Hp} {a : Addr} {ns : List Int} {E : XK} (hS : SqL K H a (ns.map V.int)) {O' : List Ob} (h : d [.lst .sc (ns.map T.int)] [] = some (.bl true, O')) : spT K ca 1 d [.ref a] H (fun v _ => v = .bl true) E := by
  let G : Gh := { K := K, F := H, P := H, H := H, ad := [], ca := ca, fp := fun _ => [], τ := [some (.lst .sc (ns.map T.int))], O := [] }
  have all : ∀ is : List Int, Reps G.toHc (is.map T.int) (is.map V.int) [] := by
    intro is
    induction is with
    | nil => exact ⟨rfl, rfl⟩
    | cons i is ih => exact ⟨.int i, _, [], [], rfl, rfl, ⟨rfl, rfl⟩, ih⟩
  refine ⟨rfl, G, rfl, ?_, [.lst .sc (ns.map T.int)], .bl true, O', rfl, h, rfl, fun G' σ' v g _ _ tm _ _ => tm.rep.1⟩
  have sl : ∀ (i : Nat) (t : T), G.τ[i]? = some (some t) → ∃ v, ([V.ref a].map some)[i]? = some (some v) ∧ Rep G.toHc t v (G.fp (.s i)) := by
    intro i t e
    cases i with
    | zero =>
      cases e
      exact ⟨.ref a, rfl, a, ns.map V.int, rfl, hS, all ns, rfl⟩
    | succ i => cases e
  have no : ∀ {p : Prop} {x : Addr}, x ∈ ([] : List Addr) → p := fun m => absurd m (by simp)
  exact { k := rfl, c := rfl, len := rfl, fp := Same.refl _, ph := Same.loose (Same.refl _), nd := fun _ => List.nodup_nil, dj := fun k k' a m _ => no m, pn := fun k a m => no m, adn := List.nodup_nil, adp := fun a m => no m, ado := fun a m => no m, sl := sl, sn := fun _ _ => rfl, ob := fun n b e => (by cases e), on := fun _ _ => rfl, ln := rfl }
end TL

set_option Elab.async false
set_option linter.all false
set_option maxRecDepth 100000
/-! TL15: mirrors read out. -/
namespace TL
open PySem PySem.Spec L2

/-! ### trees -/
@[simp] theorem noOw_non : T.noOw .non = true := rfl
@[simp] theorem noOw_bl (b : Bool) : T.noOw (.bl b) = true := rfl
@[simp] theorem noOw_int (i : Int) : T.noOw (.int i) = true := rfl
@[simp] theorem noOw_str (x : Str) : T.noOw (.str x) = true := rfl
@[simp] theorem noOw_hnd (n : Nat) : T.noOw (.hnd n) = true := rfl
@[simp] theorem noOw_tup (xs : List T) : T.noOw (.tup xs) = noOws xs := rfl
@[simp] theorem noOw_ow (xs : List T) : T.noOw (.lst .ow xs) = false := rfl
@[simp] theorem noOw_fz (xs : List T) : T.noOw (.lst .fz xs) = noOws xs := rfl
@[simp] theorem noOw_br (xs : List T) : T.noOw (.lst .br xs) = noOws xs := rfl
@[simp] theorem noOw_sc (xs : List T) : T.noOw (.lst .sc xs) = noOws xs := rfl
@[simp] theorem noOws_nil : noOws [] = true := rfl
@[simp] theorem noOws_cons (t : T) (ts : List T) : noOws (t :: ts) = (t.noOw && noOws ts) := rfl
@[simp] theorem noBr_non : T.noBr .non = true := rfl
@[simp] theorem noBr_bl (b : Bool) : T.noBr (.bl b) = true := rfl
@[simp] theorem noBr_int (i : Int) : T.noBr (.int i) = true := rfl
@[simp] theorem noBr_str (x : Str) : T.noBr (.str x) = true := rfl
@[simp] theorem noBr_hnd (n : Nat) : T.noBr (.hnd n) = true := rfl
@[simp] theorem noBr_tup (xs : List T) : T.noBr (.tup xs) = noBrs xs := rfl
@[simp] theorem noBr_ow (xs : List T) : T.noBr (.lst .ow xs) = noBrs xs := rfl
@[simp] theorem noBr_fz (xs : List T) : T.noBr (.lst .fz xs) = noBrs xs := rfl
@[simp] theorem noBr_br (xs : List T) : T.noBr (.lst .br xs) = false := rfl
@[simp] theorem noBr_sc (xs : List T) : T.noBr (.lst .sc xs) = noBrs xs := rfl
@[simp] theorem noBrs_nil : noBrs [] = true := rfl
@[simp] theorem noBrs_cons (t : T) (ts : List T) : noBrs (t :: ts) = (t.noBr && noBrs ts) := rfl
@[simp] theorem brw_non : T.brw .non = .non := rfl
@[simp] theorem brw_bl (b : Bool) : T.brw (.bl b) = .bl b := rfl
@[simp] theorem brw_int (i : Int) : T.brw (.int i) = .int i := rfl
@[simp] theorem brw_str (x : Str) : T.brw (.str x) = .str x := rfl
@[simp] theorem brw_hnd (n : Nat) : T.brw (.hnd n) = .hnd n := rfl
@[simp] theorem brw_tup (xs : List T) : T.brw (.tup xs) = .tup (brws xs) := rfl
@[simp] theorem brw_lst (m : Mk) (xs : List T) : T.brw (.lst m xs) = .lst m.brw (brws xs) := rfl
@[simp] theorem mbrw_ow : Mk.brw .ow = .br := rfl
@[simp] theorem mbrw_br : Mk.brw .br = .br := rfl
@[simp] theorem mbrw_fz : Mk.brw .fz = .fz := rfl
@[simp] theorem mbrw_sc : Mk.brw .sc = .sc := rfl
@[simp] theorem brws_nil : brws [] = [] := rfl
@[simp] theorem brws_cons (t : T) (ts : List T) : brws (t :: ts) = t.brw :: brws ts := rfl
@[simp] theorem frz_non : T.frz .non = .non := rfl
@[simp] theorem frz_bl (b : Bool) : T.frz (.bl b) = .bl b := rfl
@[simp] theorem frz_int (i : Int) : T.frz (.int i) = .int i := rfl
@[simp] theorem frz_str (x : Str) : T.frz (.str x) = .str x := rfl
@[simp] theorem frz_hnd (n : Nat) : T.frz (.hnd n) = .hnd n := rfl
@[simp] theorem frz_tup (xs : List T) : T.frz (.tup xs) = .tup (frzs xs) := rfl
@[simp] theorem frz_lst (m : Mk) (xs : List T) : T.frz (.lst m xs) = .lst m.frz (frzs xs) := rfl
@[simp] theorem mfrz_ow : Mk.frz .ow = .fz := rfl
@[simp] theorem mfrz_br : Mk.frz .br = .br := rfl
@[simp] theorem mfrz_fz : Mk.frz .fz = .fz := rfl
@[simp] theorem mfrz_sc : Mk.frz .sc = .sc := rfl
@[simp] theorem frzs_nil : frzs [] = [] := rfl
@[simp] theorem frzs_cons (t : T) (ts : List T) : frzs (t :: ts) = t.frz :: frzs ts := rfl
@[simp] theorem noOws_map_int (l : List Int) : noOws (l.map T.int) = true := noOws_of fun t m => by
  obtain ⟨i, _, rfl⟩ := List.mem_map.mp m; rfl
@[simp] theorem noBrs_map_int : ∀ l : List Int, noBrs (l.map T.int) = true
  | [] => rfl
  | _ :: l => noBrs_map_int l
@[simp] theorem brws_map_int : ∀ l : List Int, brws (l.map T.int) = l.map T.int
  | [] => rfl
  | i :: l => congrArg (T.int i :: ·) (brws_map_int l)
@[simp] theorem frzs_map_int : ∀ l : List Int, frzs (l.map T.int) = l.map T.int
  | [] => rfl
  | i :: l => congrArg (T.int i :: ·) (frzs_map_int l)
@[simp] theorem intsT_map : ∀ l : List Int, intsT (l.map T.int) = some l
  | [] => rfl
  | i :: l => by
    show (intsT (l.map T.int)).bind _ = _
    rw [intsT_map l]
    rfl
@[simp] theorem blsT_map : ∀ l : List Bool, blsT (l.map T.bl) = some l
  | [] => rfl
  | i :: l => by
    show (blsT (l.map T.bl)).bind _ = _
    rw [blsT_map l]
    rfl
@[simp] theorem strsT_map : ∀ l : List Str, strsT (l.map T.str) = some l
  | [] => rfl
  | i :: l => by
    show (strsT (l.map T.str)).bind _ = _
    rw [strsT_map l]
    rfl
@[simp] theorem kids_lst (m : Mk) (xs : List T) : T.kids (.lst m xs) = noOws xs := rfl
@[simp] theorem kids_tup (xs : List T) : T.kids (.tup xs) = noOws xs := rfl
@[simp] theorem kids_hnd (n : Nat) : T.kids (.hnd n) = true := rfl
@[simp] theorem kids_str (x : Str) : T.kids (.str x) = true := rfl
/-! ### slots -/
@[simp] theorem slot_mk (τ : List (Option T)) (O : List Ob) (i : Nat) : slot (τ, O) i = (τ[i]?).join := rfl
@[simp] theorem setS_mk (τ : List (Option T)) (O : List Ob) (i : Nat) (o : Option T) : setS (τ, O) i o = (τ.set i o, O) := rfl
/-! ### expressions -/
section
variable (S : SS)
@[simp] theorem r_dC (t : T) : dC t S = some (t, S) := rfl
@[simp] theorem r_dGet (i : Nat) : dGet i S = (slot S i).bind fun t => if t.noOw then some (t, S) else none := rfl
@[simp] theorem r_dUse (i : Nat) : dUse i S = (slot S i).bind fun t => if t.noOw then some (t, S) else some (t.frz, setS S i (some t.frz)) := rfl
@[simp] theorem r_dMov (i : Nat) : dMov i S = (slot S i).bind fun t => some (t, setS S i none) := rfl
@[simp] theorem r_dIce (d : DE) : dIce d S = (d S).bind fun p => some (p.1.frz, p.2) := rfl
@[simp] theorem r_oTmp (d : DE) : oTmp d S = (d S).bind fun p => some (.tmp p.1, p.2) := rfl
@[simp] theorem r_oBorS (i : Nat) : oBorS i S = (slot S i).bind fun _ => some (.bor i, S) := rfl
@[simp] theorem r_oAuto (i : Nat) : oAuto i S = (slot S i).bind fun t => if t.kids then some (.bor i, S) else some (.tmp t.frz, setS S i (some t.frz)) := rfl
@[simp] theorem r_res_tmp (t : T) : Arg.res S (.tmp t) = some (view S t) := rfl
@[simp] theorem r_res_bor (i : Nat) : Arg.res S (.bor i) = (slot S i).bind fun t => some (view S t) := rfl
@[simp] theorem view_int (i : Int) : view S (.int i) = .int i := rfl
@[simp] theorem view_str (i : Str) : view S (.str i) = .str i := rfl
@[simp] theorem view_bl (i : Bool) : view S (.bl i) = .bl i := rfl
@[simp] theorem view_non : view S .non = .non := rfl
@[simp] theorem view_lst (m : Mk) (xs : List T) : view S (.lst m xs) = .lst m xs := rfl
@[simp] theorem view_tup (xs : List T) : view S (.tup xs) = .tup xs := rfl
@[simp] theorem r_d1 (f : T → Option T) (a : DO) : d1 f a S = (a S).bind fun p => (p.1.res p.2).bind fun x => (f x).bind fun z => some (z, p.2) := rfl
@[simp] theorem r_d2 (f : T → T → Option T) (a b : DO) : d2 f a b S = (a S).bind fun p => (b p.2).bind fun q => (p.1.res q.2).bind fun x => (q.1.res q.2).bind fun y => (f x y).bind fun z => some (z, q.2) := rfl
@[simp] theorem r_tOf (d : DE) : tOf d S = (d S).bind fun p => match p.1 with
  | .bl b => some (b, p.2)
  | _ => none := rfl
@[simp] theorem r_dB (f : List T → Option T) (a : DA) : dB f a S = (a S).bind fun p => (lookAll p.2 p.1).bind fun ts => (f ts).bind fun z => some (z, p.2) := rfl
@[simp] theorem r_aNil : aNil S = some ([], S) := rfl
@[simp] theorem r_aCons (a : DO) (r : DA) : aCons a r S = (a S).bind fun p => (r p.2).bind fun q => some (p.1 :: q.1, q.2) := rfl
@[simp] theorem r_temps_nil : temps [] = some [] := rfl
@[simp] theorem r_temps_cons (t : T) (as : List Arg) : temps (.tmp t :: as) = (temps as).bind fun ts => some (t :: ts) := rfl
@[simp] theorem r_lookAll_nil : lookAll S [] = some [] := rfl
@[simp] theorem r_lookAll_cons (a : Arg) (as : List Arg) : lookAll S (a :: as) = (a.res S).bind fun t => (lookAll S as).bind fun ts => some (t :: ts) := rfl
@[simp] theorem r_resAll_nil : resAll S [] = some [] := rfl
@[simp] theorem r_resAll_tmp (t : T) (as : List Arg) : resAll S (.tmp t :: as) = (resAll S as).bind fun ts => some (t :: ts) := rfl
@[simp] theorem r_resAll_bor (i : Nat) (as : List Arg) : resAll S (.bor i :: as) = (slot S i).bind fun t => (resAll S as).bind fun ts => some (t.brw :: ts) := rfl
@[simp] theorem r_dCall (d : DF) (a : DA) : dCall d a S = (a S).bind fun p => (resAll p.2 p.1).bind fun ts => (d ts p.2.2).bind fun q => if q.1.noBr then some (q.1, (p.2.1, q.2)) else none := rfl
@[simp] theorem r_dTup (a : DA) : dTup a S = (a S).bind fun p => (temps p.1).bind fun ts => if ts.length ≤ sizeLine then some (.tup ts, p.2) else none := rfl
@[simp] theorem r_dLst (a : DA) : dLst a S = (a S).bind fun p => (temps p.1).bind fun ts => if ts.length ≤ sizeLine then some (.lst .ow ts, p.2) else none := rfl
@[simp] theorem r_tAndD (a b : DT) : tAndD a b S = (a S).bind fun p => if p.1 = true then b p.2 else some (false, p.2) := rfl
@[simp] theorem r_tOrD (a b : DT) : tOrD a b S = (a S).bind fun p => if p.1 = true then some (true, p.2) else b p.2 := rfl
@[simp] theorem r_tNotD (a : DT) : tNotD a S = (a S).bind fun p => some (!p.1, p.2) := rfl
@[simp] theorem r_dAndD (a b : DE) : dAndD a b S = (a S).bind fun p => match p.1 with
  | .bl c => if c = true then b p.2 else some (.bl false, p.2)
  | _ => none := rfl
@[simp] theorem r_dOrD (a b : DE) : dOrD a b S = (a S).bind fun p => match p.1 with
  | .bl c => if c = true then some (.bl true, p.2) else b p.2
  | _ => none := rfl
@[simp] theorem r_dNotD (a : DE) : dNotD a S = (a S).bind fun p => match p.1 with
  | .bl c => some (.bl (!c), p.2)
  | _ => none := rfl
@[simp] theorem r_dIfD (c : DT) (a b : DE) : dIfD c a b S = (c S).bind fun p => if p.1 = true then a p.2 else b p.2 := rfl
@[simp] theorem r_dChain (f f' : T → T → Option T) (a b c : DE) : dChain f f' a b c S = (a S).bind fun p => (b p.2).bind fun q => (f p.1 q.1).bind fun z => match z with
  | .bl k => if k = true then (c q.2).bind fun r => (f' q.1 r.1).bind fun y => some (y, r.2) else some (.bl false, q.2)
  | _ => none := rfl
@[simp] theorem r_pNone : pNone S = some (none, S) := rfl
@[simp] theorem r_pSome (d : DE) : pSome d S = (d S).bind fun p => match p.1 with
  | .int i => some (some i, p.2)
  | _ => none := rfl
@[simp] theorem r_d3 (f : T → Option Int → Option Int → Option T) (a : DO) (lo hi : DP) : d3 f a lo hi S = (a S).bind fun p => (lo p.2).bind fun q => (hi q.2).bind fun r => (p.1.res r.2).bind fun x => (f x q.1 r.1).bind fun z => some (z, r.2) := rfl
/-! ### statements -/
@[simp] theorem r_sNil : sNil S = some (.nx, S) := rfl
@[simp] theorem r_sBrk : sBrk S = some (.bk, S) := rfl
@[simp] theorem r_sCnt : sCnt S = some (.ct, S) := rfl
@[simp] theorem r_sSeq (a b : DS) : sSeq a b S = (a S).bind fun p => match p.1 with
  | .nx => b p.2
  | f => some (f, p.2) := rfl
@[simp] theorem r_sDrop (d : DE) : sDrop d S = (d S).bind fun p => some (.nx, p.2) := rfl
@[simp] theorem r_sRet (d : DE) : sRet d S = (d S).bind fun p => some (.rt p.1, p.2) := rfl
@[simp] theorem r_sRetN : sRetN S = some (.rt .non, S) := rfl
@[simp] theorem r_sIf (c : DT) (a b : DS) : sIf c a b S = (c S).bind fun p => if p.1 = true then a p.2 else b p.2 := rfl
@[simp] theorem r_sNev : sNev S = none := rfl
@[simp] theorem r_gNm (i : Nat) (t : T) : gNm i t S = if i < S.1.length then some (setS S i (some t)) else none := rfl
@[simp] theorem r_gTp (gs : List DG) (ts : List T) : gTp gs (.tup ts) S = gTp.gAll gs ts S := rfl
@[simp] theorem r_gAll_nil : gTp.gAll [] [] S = some S := rfl
@[simp] theorem r_gAll_cons (g : DG) (gs : List DG) (t : T) (ts : List T) : gTp.gAll (g :: gs) (t :: ts) S = (g t S).bind fun S' => gTp.gAll gs ts S' := rfl
@[simp] theorem r_sAsg (d : DE) (g : DG) : sAsg d g S = (d S).bind fun p => (g p.1 p.2).bind fun S' => some (.nx, S') := rfl
@[simp] theorem r_sAug (f : T → T → Option T) (i : Nat) (d : DE) : sAug f i d S = (slot S i).bind fun t => (d S).bind fun p => if t.noOw then (f t p.1).bind fun z => some (.nx, setS p.2 i (some z)) else none := rfl
@[simp] theorem r_sFor (d : DI) (g : DG) (b : DS) : sFor d g b S = (d S).bind fun p => forGo g b p.1 p.2 := rfl
@[simp] theorem r_tYesD : tYesD S = some (true, S) := rfl
@[simp] theorem r_dLc (own : List Nat) (d : DI) (g : DG) (tt : DT) (te : DE) : dLc own d g tt te S = (d S).bind fun p => (lcGo own g tt te p.1 [] (wipeS p.2 own)).bind fun q => some (.lst .ow q.1, q.2) := rfl
@[simp] theorem r_wipe (τ : List (Option T)) (O : List Ob) (own : List Nat) : wipeS (τ, O) own = (own.foldl (fun τ i => τ.set i none) τ, O) := rfl
@[simp] theorem r_iSeq (d : DE) : iSeq d S = (d S).bind fun p => (itemsOf p.1).bind fun ts => some (ts, p.2) := rfl
@[simp] theorem itemsOf_lst (m : Mk) (xs : List T) : itemsOf (.lst m xs) = if noOws xs then some xs else none := rfl
@[simp] theorem itemsOf_tup (xs : List T) : itemsOf (.tup xs) = if noOws xs then some xs else none := rfl
@[simp] theorem itemsOf_str (z : Str) : itemsOf (.str z) = some (signsOf z) := rfl
@[simp] theorem r_iRv (a : DA) : iRv a S = (a S).bind fun p => (temps p.1).bind fun ts => match ts with
  | [.lst _ xs] => if noOws xs then some (xs.reverse, p.2) else none
  | _ => none := rfl
@[simp] theorem r_iEn (a : DA) : iEn a S = (a S).bind fun p => (temps p.1).bind fun ts => match ts with
  | [.lst _ xs] => if noOws xs then some (enumT 0 xs, p.2) else none
  | _ => none := rfl
@[simp] theorem r_iZp (a : DA) : iZp a S = (a S).bind fun p => (temps p.1).bind fun ts => match ts with
  | [x, y] => (zipOf x y).bind fun us => some (us, p.2)
  | _ => none := rfl
@[simp] theorem r_iR1 (a : DA) : iR1 a S = (a S).bind fun p => (temps p.1).bind fun ts => match ts with
  | [.int j] => if okR j then some (rangeT 0 1 j.toNat, p.2) else none
  | _ => none := rfl
@[simp] theorem r_iR2 (a : DA) : iR2 a S = (a S).bind fun p => (temps p.1).bind fun ts => match ts with
  | [.int i, .int j] => if okR i && okR j then some (rangeT i 1 (j - i).toNat, p.2) else none
  | _ => none := rfl
@[simp] theorem r_iR3 (a : DA) : iR3 a S = (a S).bind fun p => (temps p.1).bind fun ts => match ts with
  | [.int i, .int j, .int (-1)] => if okR i && okR j then some (rangeT i (-1) (i - j).toNat, p.2) else none
  | _ => none := rfl
@[simp] theorem r_sPar (i j : Nat) (a : DA) : sPar i j a S = (a S).bind fun p => match p.1 with
  | [.tmp t, .tmp u] => if i < p.2.1.length ∧ j < p.2.1.length ∧ i ≠ j then some (.nx, setS (setS p.2 i (some t)) j (some u)) else none
  | _ => none := rfl
@[simp] theorem r_dM1 (f : T → T → Option T) (a b : DE) : dM1 f a b S = (a S).bind fun p => if isS p.1 then (b p.2).bind fun q => (f p.1 q.1).bind fun z => some (z, q.2) else none := rfl
@[simp] theorem isS_str (x : Str) : isS (.str x) = true := rfl
@[simp] theorem r_dApp (i : Nat) (d : DE) : dApp i d S = (getL S i).bind fun _ => (d S).bind fun p => (getL p.2 i).bind fun xs => if xs.length < sizeLine then (putL p.2 i (xs ++ [p.1])).bind fun S' => some (.non, S') else none := rfl
@[simp] theorem r_dExt (i : Nat) (a : DO) : dExt i a S = (getL S i).bind fun _ => (a S).bind fun p => (p.1.res p.2).bind fun y => (getL p.2 i).bind fun xs => match y with
  | .lst m ys => if (m ≠ .sc ∧ noOws ys = true) ∧ xs.length + ys.length ≤ sizeLine then (putL p.2 i (xs ++ ys)).bind fun S' => some (.non, S') else none
  | _ => none := rfl
@[simp] theorem r_dPopL (i : Nat) : dPopL i S = (getL S i).bind fun xs => (xs[xs.length - 1]?).bind fun t => if t.noOw then (putL S i xs.dropLast).bind fun S' => some (t, S') else none := rfl
@[simp] theorem r_gIx (i : Nat) (d : DE) (t : T) : gIx i d t S = (getL S i).bind fun _ => (d S).bind fun p => (getL p.2 i).bind fun xs => match p.1 with
  | .int k => (ixN xs.length k).bind fun j => putL p.2 i (xs.set j t)
  | _ => none := rfl
@[simp] theorem r_dHnd (d : DE) : dHnd d S = (d S).bind fun p => match p.1 with
  | .lst .ow xs => if noBrs xs then some (.hnd p.2.2.length, (p.2.1, p.2.2 ++ [.lst xs])) else none
  | _ => none := rfl
end
theorem getL_ow {τ : List (Option T)} {O : List Ob} {i : Nat} {xs : List T} (h : τ[i]? = some (some (.lst .ow xs))) : getL (τ, O) i = some xs := by
  unfold getL slot
  show (match (τ[i]?).join with | some (.lst .ow xs) => some xs | some (.hnd n) => _ | _ => none) = _
  rw [h]; rfl
theorem putL_ow {τ : List (Option T)} {O : List Ob} {i : Nat} {xs ys : List T} (h : τ[i]? = some (some (.lst .ow xs))) : putL (τ, O) i ys = some (τ.set i (some (.lst .ow ys)), O) := by
  unfold putL slot
  show (match (τ[i]?).join with | some (.hnd n) => _ | _ => some (setS (τ, O) i (some (.lst .ow ys)))) = _
  rw [h]; rfl
theorem getL_hnd {τ : List (Option T)} {O : List Ob} {i n : Nat} {xs : List T} (h : τ[i]? = some (some (.hnd n))) (h2 : O[n]? = some (.lst xs)) : getL (τ, O) i = some xs := by
  unfold getL slot
  show (match (τ[i]?).join with | some (.lst .ow xs) => some xs | some (.hnd n) => (match O[n]? with | some (.lst xs) => some xs | _ => none) | _ => none) = _
  rw [h]
  show (match O[n]? with | some (.lst xs) => some xs | _ => none) = _
  rw [h2]
theorem putL_hnd {τ : List (Option T)} {O : List Ob} {i n : Nat} {ys : List T} (h : τ[i]? = some (some (.hnd n))) (hb : noBrs ys = true) : putL (τ, O) i ys = some (τ, O.set n (.lst ys)) := by
  unfold putL slot
  show (match (τ[i]?).join with | some (.hnd n) => (if noBrs ys then some (τ, O.set n (.lst ys)) else none) | _ => some (setS (τ, O) i (some (.lst .ow ys)))) = _
  rw [h]
  show (if noBrs ys then some (τ, O.set n (.lst ys)) else none) = _
  rw [hb]; rfl
theorem view_hnd {τ : List (Option T)} {O : List Ob} {n : Nat} {xs : List T} (h : O[n]? = some (.lst xs)) : view (τ, O) (.hnd n) = .lst .ow xs := by
  unfold view
  show (match O[n]? with | some (.lst xs) => T.lst .ow xs | some (.dic xs) => T.dic .ow xs | _ => .hnd n) = _
  rw [h]
/-! ### operations -/
@[simp] theorem fAdd_int (i j : Int) : fAdd (.int i) (.int j) = some (.int (i + j)) := rfl
@[simp] theorem fAdd_str (x y : Str) : fAdd (.str x) (.str y) = if x.length + y.length ≤ sizeLine then some (.str (x ++ y)) else none := rfl
@[simp] theorem fSub_int (i j : Int) : fSub (.int i) (.int j) = some (.int (i - j)) := rfl
@[simp] theorem fMul_int (i j : Int) : fMul (.int i) (.int j) = if smallI i || smallI j then some (.int (i * j)) else none := rfl
@[simp] theorem fDiv_int (i j : Int) : fDiv (.int i) (.int j) = if okDiv i j then some (.int (i / j)) else none := rfl
@[simp] theorem fMod_int (i j : Int) : fMod (.int i) (.int j) = if decide (0 < j) then some (.int (i % j)) else none := rfl
@[simp] theorem fPow_int (i j : Int) : fPow (.int i) (.int j) = if decide (0 ≤ j ∧ j ≤ 1000000 ∧ i.natAbs < 2 ^ 64) then some (.int (i ^ j.toNat)) else none := rfl
@[simp] theorem fNeg_int (i : Int) : fNeg (.int i) = some (.int (-i)) := rfl
@[simp] theorem fLt_int (i j : Int) : fLt (.int i) (.int j) = some (.bl (decide (i < j))) := rfl
@[simp] theorem fLe_int (i j : Int) : fLe (.int i) (.int j) = some (.bl (decide (i ≤ j))) := rfl
@[simp] theorem fGt_int (i j : Int) : fGt (.int i) (.int j) = some (.bl (decide (j < i))) := rfl
@[simp] theorem fGe_int (i j : Int) : fGe (.int i) (.int j) = some (.bl (decide (j ≤ i))) := rfl
@[simp] theorem fIsN_non (x : T) : fIsN x .non = some (.bl x.isN) := rfl
@[simp] theorem fNotN_non (x : T) : fNotN x .non = some (.bl (!x.isN)) := rfl
@[simp] theorem isN_non : T.isN .non = true := rfl
@[simp] theorem isN_int (i : Int) : T.isN (.int i) = false := rfl
@[simp] theorem isN_str (i : Str) : T.isN (.str i) = false := rfl
@[simp] theorem isN_bl (i : Bool) : T.isN (.bl i) = false := rfl
@[simp] theorem isN_lst (m : Mk) (xs : List T) : T.isN (.lst m xs) = false := rfl
@[simp] theorem isN_tup (xs : List T) : T.isN (.tup xs) = false := rfl
@[simp] theorem fEq_int (i j : Int) : fEq (.int i) (.int j) = some (.bl (decide (i = j))) := rfl
@[simp] theorem fEq_str (i j : Str) : fEq (.str i) (.str j) = some (.bl (decide (i = j))) := rfl
@[simp] theorem fEq_bl (i j : Bool) : fEq (.bl i) (.bl j) = some (.bl (decide (i = j))) := rfl
@[simp] theorem fNe_int (i j : Int) : fNe (.int i) (.int j) = some (.bl (!decide (i = j))) := rfl
@[simp] theorem fNe_str (i j : Str) : fNe (.str i) (.str j) = some (.bl (!decide (i = j))) := rfl
@[simp] theorem fNe_bl (i j : Bool) : fNe (.bl i) (.bl j) = some (.bl (!decide (i = j))) := rfl
@[simp] theorem fLen_lst (m : Mk) (xs : List T) : fLen [.lst m xs] = some (.int xs.length) := rfl
@[simp] theorem fLen_tup (xs : List T) : fLen [.tup xs] = some (.int xs.length) := rfl
@[simp] theorem fLen_str (z : Str) : fLen [.str z] = if z.length ≤ sizeLine then some (.int z.length) else none := rfl
@[simp] theorem fIx_lst (m : Mk) (xs : List T) (i : Int) : fIx (.lst m xs) (.int i) = (atI xs i).bind fun t => if t.noOw then some t else none := rfl
@[simp] theorem fIx_tup (xs : List T) (i : Int) : fIx (.tup xs) (.int i) = (atI xs i).bind fun t => if t.noOw then some t else none := rfl
@[simp] theorem fIx_str (z : Str) (i : Int) : fIx (.str z) (.int i) = if z.length ≤ sizeLine then (atI z.cps.toList i).bind fun c => some (.str ⟨#[c]⟩) else none := rfl
@[simp] theorem fSl_lst (m : Mk) (xs : List T) (lo hi : Option Int) : fSl (.lst m xs) lo hi = if noOws xs then some (.lst .ow (cutT xs lo hi)) else none := rfl
@[simp] theorem tyName_int (i : Int) : tyName (.int i) = some "int" := rfl
@[simp] theorem tyName_bl (i : Bool) : tyName (.bl i) = some "bool" := rfl
@[simp] theorem tyName_str (i : Str) : tyName (.str i) = some "str" := rfl
@[simp] theorem tyName_non : tyName .non = some "NoneType" := rfl
@[simp] theorem tyName_lst (m : Mk) (xs : List T) : tyName (.lst m xs) = some "list" := rfl
@[simp] theorem tyName_tup (xs : List T) : tyName (.tup xs) = some "tuple" := rfl
@[simp] theorem fIsi_eq (b : String) (t : T) : fIsi b t = (tyName t).bind fun n => some (.bl (tyIs n b)) := rfl
@[simp] theorem fIsi2_eq (b c : String) (t : T) : fIsi2 b c t = (tyName t).bind fun n => some (.bl (tyIs n b || tyIs n c)) := rfl
theorem atI_map {α β : Type} (f : α → β) (l : List α) (i : Int) : atI (l.map f) i = (atI l i).map f := by
  unfold atI
  rw [List.length_map]
  cases ixN l.length i with
  | none => rfl
  | some j => exact List.getElem?_map
@[simp] theorem atI_map_int (l : List Int) (i : Int) : atI (l.map T.int) i = (atI l i).map T.int := atI_map _ _ _
@[simp] theorem atI_zero {α : Type} (x : α) (l : List α) : atI (x :: l) 0 = some x := by
  unfold atI ixN
  rw [if_pos (Int.le_refl 0), if_pos (by simp only [List.length_cons]; omega)]
  rfl
theorem atI_nat {α : Type} {l : List α} {i : Int} {j : Nat} (h : i = j) (hj : j < l.length) : atI l i = l[j]? := by
  unfold atI ixN
  rw [h, if_pos (by omega), if_pos (by omega)]
  rfl
theorem atI_last {α : Type} {l : List α} (h : l ≠ []) : atI l (-1) = some (l.getLast h) := by
  have hl : 0 < l.length := List.length_pos_iff.mpr h
  unfold atI ixN
  rw [if_neg (by omega), if_pos (by omega)]
  show l[(-1 + (l.length : Int)).toNat]? = _
  rw [show (-1 + (l.length : Int)).toNat = l.length - 1 by omega, ← List.getLast?_eq_getElem?, List.getLast?_eq_some_getLast h]
/-! ### cuts -/
theorem cutT_to (xs : List T) (k : Nat) : cutT xs none (some (k : Int)) = xs.take k := by
  unfold cutT HT.sIx
  show List.take ((if (k : Int) < 0 then ((k : Int) + (xs.length : Int)).toNat else min (k : Int).toNat xs.length) - 0) (List.drop 0 xs) = _
  rw [if_neg (by omega), Nat.sub_zero, List.drop_zero, Int.toNat_natCast, List.take_eq_take_iff]
  omega
theorem cutT_from (xs : List T) (k : Nat) : cutT xs (some (k : Int)) none = xs.drop k := by
  unfold cutT HT.sIx
  show List.take (xs.length - (if (k : Int) < 0 then ((k : Int) + (xs.length : Int)).toNat else min (k : Int).toNat xs.length)) (List.drop (if (k : Int) < 0 then ((k : Int) + (xs.length : Int)).toNat else min (k : Int).toNat xs.length) xs) = _
  rw [if_neg (by omega), Int.toNat_natCast]
  by_cases h : k ≤ xs.length
  · rw [Nat.min_eq_left h, List.take_of_length_le (by rw [List.length_drop]; exact Nat.le_refl _)]
  · rw [Nat.min_eq_right (by omega), List.drop_of_length_le (Nat.le_refl _), List.drop_of_length_le (by omega)]
    simp
theorem cutT_mid (xs : List T) (i j : Nat) : cutT xs (some (i : Int)) (some (j : Int)) = (xs.take j).drop i := by
  unfold cutT HT.sIx
  show List.take ((if (j : Int) < 0 then ((j : Int) + (xs.length : Int)).toNat else min (j : Int).toNat xs.length) - (if (i : Int) < 0 then ((i : Int) + (xs.length : Int)).toNat else min (i : Int).toNat xs.length)) (List.drop (if (i : Int) < 0 then ((i : Int) + (xs.length : Int)).toNat else min (i : Int).toNat xs.length) xs) = _
  rw [if_neg (by omega), if_neg (by omega), Int.toNat_natCast, Int.toNat_natCast, List.drop_take]
  by_cases h : i ≤ xs.length
  · rw [Nat.min_eq_left h, List.take_eq_take_iff, List.length_drop]
    omega
  · rw [Nat.min_eq_right (show xs.length ≤ i by omega), List.drop_of_length_le (Nat.le_refl _), List.drop_of_length_le (show xs.length ≤ i by omega)]
    simp
theorem cutT_last {xs : List T} (h : xs ≠ []) : cutT xs (some (-1)) none = [xs.getLast h] := by
  have hl : 0 < xs.length := List.length_pos_iff.mpr h
  unfold cutT HT.sIx
  show List.take (xs.length - (if (-1 : Int) < 0 then ((-1 : Int) + (xs.length : Int)).toNat else _)) (List.drop (if (-1 : Int) < 0 then ((-1 : Int) + (xs.length : Int)).toNat else _) xs) = _
  rw [if_pos (by omega), show (-1 + (xs.length : Int)).toNat = xs.length - 1 by omega, List.drop_eq_getElem_cons (show xs.length - 1 < xs.length by omega), List.getLast_eq_getElem, show xs.length - (xs.length - 1) = 1 by omega]
  rfl
/-! ### loops -/
@[simp] theorem forGo_nil (g : DG) (b : DS) (S : SS) : forGo g b [] S = some (.nx, S) := rfl
theorem forGo_cons (g : DG) (b : DS) (t : T) (ts : List T) (S : SS) : forGo g b (t :: ts) S = (g t S).bind fun S1 => (b S1).bind fun q => match q.1 with
    | .nx => forGo g b ts q.2
    | .ct => forGo g b ts q.2
    | .bk => some (.nx, q.2)
    | .rt r => some (.rt r, q.2) := rfl
/-- a turn that goes on -/
theorem forGo_step {g : DG} {b : DS} {t : T} {ts : List T} {S S' : SS} {r : Option (Fl × SS)} (h : (g t S).bind b = some (.nx, S')) (hr : forGo g b ts S' = r) : forGo g b (t :: ts) S = r := by
  rw [forGo_cons]
  obtain ⟨S1, h1, h2⟩ := Option.bind_eq_some_iff.mp h
  rw [h1, Option.bind_some, h2, Option.bind_some]
  exact hr
/-- an invariant of what is still to come -/
theorem forGo_ind {g : DG} {b : DS} (I : List T → SS → Prop) (hs : ∀ t ts S, I (t :: ts) S → ∃ S', (g t S).bind b = some (.nx, S') ∧ I ts S') : ∀ ts S, I ts S → ∃ S', forGo g b ts S = some (.nx, S') ∧ I [] S'
  | [], S, h => ⟨S, rfl, h⟩
  | t :: ts, S, h => by
    obtain ⟨S1, h1, h2⟩ := hs t ts S h
    obtain ⟨S2, h3, h4⟩ := forGo_ind I hs ts S1 h2
    exact ⟨S2, forGo_step h1 h3, h4⟩
@[simp] theorem lcGo_nil (own : List Nat) (g : DG) (tt : DT) (te : DE) (acc : List T) (S : SS) : lcGo own g tt te [] acc S = some (acc, S) := rfl
theorem lcGo_cons (own : List Nat) (g : DG) (tt : DT) (te : DE) (t : T) (ts acc : List T) (S : SS) : lcGo own g tt te (t :: ts) acc S = (g t S).bind fun S1 => (tt S1).bind fun p => if p.1 = true then (te p.2).bind fun q => if acc.length < sizeLine then lcGo own g tt te ts (acc ++ [q.1]) (wipeS q.2 own) else none
      else lcGo own g tt te ts acc (wipeS p.2 own) := rfl
/-- a comprehension that leaves the slots as they are: what stands for each item, or nothing -/
theorem lcGo_map {own : List Nat} {g : DG} {tt : DT} {te : DE} {S : SS} {f : T → Option T} : ∀ {ts acc : List T}, (∀ t ∈ ts, ∃ S1, g t S = some S1 ∧ match f t with
      | some u => ∃ S2 S3, tt S1 = some (true, S2) ∧ te S2 = some (u, S3) ∧ wipeS S3 own = S
      | none => ∃ S2, tt S1 = some (false, S2) ∧ wipeS S2 own = S) → acc.length + ts.length ≤ sizeLine → lcGo own g tt te ts acc S = some (acc ++ ts.filterMap f, S)
  | [], acc, _, _ => by simp
  | t :: ts, acc, h, hl => by
    obtain ⟨S1, h1, h2⟩ := h t (by simp)
    rw [lcGo_cons, h1, Option.bind_some]
    rw [List.length_cons] at hl
    cases hf : f t with
    | some u =>
      rw [hf] at h2
      obtain ⟨S2, S3, h3, h4, h5⟩ := h2
      rw [h3, Option.bind_some, if_pos rfl, h4, Option.bind_some, if_pos (by omega), h5, lcGo_map (fun t m => h t (List.mem_cons_of_mem _ m)) (by simp; omega), List.filterMap_cons, hf, List.append_assoc]
      rfl
    | none =>
      rw [hf] at h2
      obtain ⟨S2, h3, h5⟩ := h2
      rw [h3, Option.bind_some, if_neg (by simp), h5, lcGo_map (fun t m => h t (List.mem_cons_of_mem _ m)) (by omega), List.filterMap_cons, hf]
/-- .. every item has its tree -/
theorem lcGo_all {own : List Nat} {g : DG} {te : DE} {S : SS} {α : Type} (f : α → T) (inj : α → T) {ts : List α} (h : ∀ a ∈ ts, ∃ S1 S3, g (inj a) S = some S1 ∧ te S1 = some (f a, S3) ∧ wipeS S3 own = S) (hl : ts.length ≤ sizeLine) : lcGo own g tYesD te (ts.map inj) [] S = some (ts.map f, S) := by
  have go : ∀ (ts : List α) (acc : List T), (∀ a ∈ ts, ∃ S1 S3, g (inj a) S = some S1 ∧ te S1 = some (f a, S3) ∧ wipeS S3 own = S) → acc.length + ts.length ≤ sizeLine → lcGo own g tYesD te (ts.map inj) acc S = some (acc ++ ts.map f, S) := by
    intro ts
    induction ts with
    | nil => intro acc _ _; simp
    | cons a ts ih =>
      intro acc h hl
      obtain ⟨S1, S3, h1, h2, h3⟩ := h a (by simp)
      rw [List.length_cons] at hl
      rw [List.map_cons, lcGo_cons, h1, Option.bind_some, r_tYesD, Option.bind_some, if_pos rfl, h2, Option.bind_some, if_pos (by omega), h3, ih _ (fun a m => h a (List.mem_cons_of_mem _ m)) (by simp; omega)]
      simp
  rw [go ts [] h (by simpa using hl)]
  simp
/-- .. filtered -/
theorem lcGo_if {own : List Nat} {g : DG} {tt : DT} {te : DE} {S : SS} {α : Type} (p : α → Bool) (f : α → T) (inj : α → T) {ts : List α} (h : ∀ a ∈ ts, ∃ S1 S2, g (inj a) S = some S1 ∧ tt S1 = some (p a, S2) ∧ (p a = true → ∃ S3, te S2 = some (f a, S3) ∧ wipeS S3 own = S) ∧ (p a = false → wipeS S2 own = S)) (hl : ts.length ≤ sizeLine) : lcGo own g tt te (ts.map inj) [] S = some ((ts.filter p).map f, S) := by
  have go : ∀ (ts : List α) (acc : List T), (∀ a ∈ ts, ∃ S1 S2, g (inj a) S = some S1 ∧ tt S1 = some (p a, S2) ∧ (p a = true → ∃ S3, te S2 = some (f a, S3) ∧ wipeS S3 own = S) ∧ (p a = false → wipeS S2 own = S)) → acc.length + ts.length ≤ sizeLine → lcGo own g tt te (ts.map inj) acc S = some (acc ++ (ts.filter p).map f, S) := by
    intro ts
    induction ts with
    | nil => intro acc _ _; simp
    | cons a ts ih =>
      intro acc h hl
      obtain ⟨S1, S2, h1, h2, h3, h4⟩ := h a (by simp)
      rw [List.length_cons] at hl
      rw [List.map_cons, lcGo_cons, h1, Option.bind_some, h2, Option.bind_some]
      cases hp : p a with
      | true =>
        obtain ⟨S3, h5, h6⟩ := h3 hp
        rw [if_pos rfl, h5, Option.bind_some, if_pos (by omega), h6, ih _ (fun a m => h a (List.mem_cons_of_mem _ m)) (by simp; omega), List.filter_cons_of_pos hp]
        simp
      | false =>
        rw [if_neg (by simp), h4 hp, ih _ (fun a m => h a (List.mem_cons_of_mem _ m)) (by omega), List.filter_cons_of_neg (by simp [hp])]
  rw [go ts [] h (by simpa using hl)]
  simp
end TL

set_option Elab.async false
set_option linter.all false
set_option maxRecDepth 100000
/-! TL16: trees that own nothing; the same, copied. -/
namespace TL
open PySem PySem.Spec L2
mutual
theorem frz_noOw : ∀ t : T, t.noOw = true → t.frz = t
  | .non, _ => rfl
  | .bl _, _ => rfl
  | .int _, _ => rfl
  | .str _, _ => rfl
  | .hnd _, _ => rfl
  | .tup xs, h => congrArg T.tup (frzs_noOw xs h)
  | .lst .ow _, h => by cases h
  | .lst .fz xs, h => congrArg (T.lst .fz) (frzs_noOw xs h)
  | .lst .br xs, h => congrArg (T.lst .br) (frzs_noOw xs h)
  | .lst .sc xs, h => congrArg (T.lst .sc) (frzs_noOw xs h)
  | .dic .ow _, h => by cases h
  | .dic .fz xs, h => congrArg (T.dic .fz) (frzK_noOw xs h)
  | .dic .br xs, h => congrArg (T.dic .br) (frzK_noOw xs h)
  | .dic .sc xs, h => congrArg (T.dic .sc) (frzK_noOw xs h)
theorem frzs_noOw : ∀ ts : List T, noOws ts = true → frzs ts = ts
  | [], _ => rfl
  | t :: ts, h => by
    have h2 := Bool.and_eq_true_iff.mp (show (t.noOw && noOws ts) = true from h)
    rw [frzs_cons, frz_noOw t h2.1, frzs_noOw ts h2.2]
theorem frzK_noOw : ∀ ts : List (Key × T), noOwK ts = true → frzK ts = ts
  | [], _ => rfl
  | (k, t) :: ts, h => by
    have h2 := Bool.and_eq_true_iff.mp (show (t.noOw && noOwK ts) = true from h)
    show (k, t.frz) :: frzK ts = _
    rw [frz_noOw t h2.1, frzK_noOw ts h2.2]
end
mutual
theorem brw_noOw : ∀ t : T, t.noOw = true → t.brw = t
  | .non, _ => rfl
  | .bl _, _ => rfl
  | .int _, _ => rfl
  | .str _, _ => rfl
  | .hnd _, _ => rfl
  | .tup xs, h => congrArg T.tup (brws_noOw xs h)
  | .lst .ow _, h => by cases h
  | .lst .fz xs, h => congrArg (T.lst .fz) (brws_noOw xs h)
  | .lst .br xs, h => congrArg (T.lst .br) (brws_noOw xs h)
  | .lst .sc xs, h => congrArg (T.lst .sc) (brws_noOw xs h)
  | .dic .ow _, h => by cases h
  | .dic .fz xs, h => congrArg (T.dic .fz) (brwK_noOw xs h)
  | .dic .br xs, h => congrArg (T.dic .br) (brwK_noOw xs h)
  | .dic .sc xs, h => congrArg (T.dic .sc) (brwK_noOw xs h)
theorem brws_noOw : ∀ ts : List T, noOws ts = true → brws ts = ts
  | [], _ => rfl
  | t :: ts, h => by
    have h2 := Bool.and_eq_true_iff.mp (show (t.noOw && noOws ts) = true from h)
    rw [brws_cons, brw_noOw t h2.1, brws_noOw ts h2.2]
theorem brwK_noOw : ∀ ts : List (Key × T), noOwK ts = true → brwK ts = ts
  | [], _ => rfl
  | (k, t) :: ts, h => by
    have h2 := Bool.and_eq_true_iff.mp (show (t.noOw && noOwK ts) = true from h)
    show (k, t.brw) :: brwK ts = _
    rw [brw_noOw t h2.1, brwK_noOw ts h2.2]
end
mutual
theorem noOw_frz : ∀ t : T, t.frz.noOw = true
  | .non => rfl
  | .bl _ => rfl
  | .int _ => rfl
  | .str _ => rfl
  | .hnd _ => rfl
  | .tup xs => noOws_frz xs
  | .lst .ow xs => noOws_frz xs
  | .lst .fz xs => noOws_frz xs
  | .lst .br xs => noOws_frz xs
  | .lst .sc xs => noOws_frz xs
  | .dic .ow xs => noOwK_frz xs
  | .dic .fz xs => noOwK_frz xs
  | .dic .br xs => noOwK_frz xs
  | .dic .sc xs => noOwK_frz xs
theorem noOws_frz : ∀ ts : List T, noOws (frzs ts) = true
  | [] => rfl
  | t :: ts => by
    show (t.frz.noOw && noOws (frzs ts)) = true
    rw [noOw_frz t, noOws_frz ts]; rfl
theorem noOwK_frz : ∀ ts : List (Key × T), noOwK (frzK ts) = true
  | [] => rfl
  | (k, t) :: ts => by
    show (t.frz.noOw && noOwK (frzK ts)) = true
    rw [noOw_frz t, noOwK_frz ts]; rfl
end
mutual
theorem noOw_brw' : ∀ t : T, t.brw.noOw = true
  | .non => rfl
  | .bl _ => rfl
  | .int _ => rfl
  | .str _ => rfl
  | .hnd _ => rfl
  | .tup xs => noOws_brw xs
  | .lst .ow xs => noOws_brw xs
  | .lst .fz xs => noOws_brw xs
  | .lst .br xs => noOws_brw xs
  | .lst .sc xs => noOws_brw xs
  | .dic .ow xs => noOwK_brw xs
  | .dic .fz xs => noOwK_brw xs
  | .dic .br xs => noOwK_brw xs
  | .dic .sc xs => noOwK_brw xs
theorem noOws_brw : ∀ ts : List T, noOws (brws ts) = true
  | [] => rfl
  | t :: ts => by
    show (t.brw.noOw && noOws (brws ts)) = true
    rw [noOw_brw' t, noOws_brw ts]; rfl
theorem noOwK_brw : ∀ ts : List (Key × T), noOwK (brwK ts) = true
  | [] => rfl
  | (k, t) :: ts => by
    show (t.brw.noOw && noOwK (brwK ts)) = true
    rw [noOw_brw' t, noOwK_brw ts]; rfl
end
theorem use_eq {τ : List (Option T)} {O : List Ob} {i : Nat} {t : T} (h : τ[i]? = some (some t)) : dUse i (τ, O) = some (t.frz, (τ.set i (some t.frz), O)) := by
  show ((τ[i]?).join.bind fun t => if t.noOw then some (t, (τ, O)) else some (t.frz, (τ.set i (some t.frz), O))) = _
  rw [h]
  show (if t.noOw then some (t, (τ, O)) else some (t.frz, (τ.set i (some t.frz), O))) = _
  by_cases n : t.noOw = true
  · rw [if_pos n, frz_noOw t n]
    have e : τ.set i (some t) = τ := by
      refine List.ext_getElem? fun j => ?_
      by_cases ej : i = j
      · subst ej
        rw [List.getElem?_set_self (List.getElem?_eq_some_iff.mp h).1, h]
      · rw [List.getElem?_set_ne ej]
    rw [e]
  · rw [if_neg n]
theorem all_true : ∀ {α : Type} (l : List α), fAll [.lst .ow (l.map fun _ => T.bl true)] = some (.bl true) := fun l => by
  have : (l.map fun _ => T.bl true) = (l.map fun _ => true).map T.bl := by simp
  show (blsT (l.map fun _ => T.bl true)).bind _ = _
  rw [this, blsT_map]
  show some (T.bl ((l.map fun _ => true).all id)) = _
  simp
@[simp] theorem noOws_rev_int (l : List Int) : noOws (l.map T.int).reverse = true := by rw [← List.map_reverse]; exact noOws_map_int _
@[simp] theorem noBrs_rev_int (l : List Int) : noBrs (l.map T.int).reverse = true := by rw [← List.map_reverse]; exact noBrs_map_int _
@[simp] theorem brws_rev_int (l : List Int) : brws (l.map T.int).reverse = (l.map T.int).reverse := by rw [← List.map_reverse]; exact brws_map_int _
@[simp] theorem frzs_rev_int (l : List Int) : frzs (l.map T.int).reverse = (l.map T.int).reverse := by rw [← List.map_reverse]; exact frzs_map_int _
/-- the same as trees, marks aside -/
def Sm : Nat → T → T → Prop
  | 0, _, _ => False
  | _ + 1, .int i, .int j => i = j
  | _ + 1, .str i, .str j => i = j
  | _ + 1, .bl i, .bl j => i = j
  | _ + 1, .non, .non => True
  | n + 1, .lst _ xs, .lst _ ys => xs.length = ys.length ∧ xs.length ≤ sizeLine ∧ ∀ (i : Nat) (x y : T), xs[i]? = some x → ys[i]? = some y → Sm n x y
  | n + 1, .tup xs, .tup ys => xs.length = ys.length ∧ xs.length ≤ sizeLine ∧ ∀ (i : Nat) (x y : T), xs[i]? = some x → ys[i]? = some y → Sm n x y
  | _, _, _ => False
/-! ### == of lists of ints -/
theorem toPs_ints : ∀ l : List Int, toPs (l.map T.int) = some (l.map PyData.int)
  | [] => rfl
  | i :: l => by
    show (toPs (l.map T.int)).bind (fun ds => some (PyData.int i :: ds)) = _
    rw [toPs_ints l]; rfl
theorem lay_ints : ∀ l : List Int, PyData.canLayAll0 (l.map .int) = true
  | [] => by simp [PyData.canLayAll0]
  | i :: l => by simp [PyData.canLayAll0, lay_ints l, PyData.canLay0]
theorem depth_ints : ∀ l : List Int, PyData.depthAll (l.map .int) = 0
  | [] => by simp [PyData.depthAll]
  | i :: l => by simp [PyData.depthAll, depth_ints l, PyData.depth]
theorem eqv_ints : ∀ l r : List Int, PyData.eqvAll (l.map .int) (r.map .int) = decide (l = r)
  | [], [] => by simp [PyData.eqvAll]
  | [], _ :: _ => by simp [PyData.eqvAll]
  | _ :: _, [] => by simp [PyData.eqvAll]
  | i :: l, j :: r => by
    simp only [List.map_cons, PyData.eqvAll, PyData.eqv, eqv_ints l r]
    by_cases h : i = j
    · by_cases h2 : l = r <;> simp [h, h2]
    · simp [h]
theorem eqT_ints (m m' : Mk) (l r : List Int) : eqT (.lst m (l.map T.int)) (.lst m' (r.map T.int)) = some (decide (l = r)) := by
  have e : ∀ (m : Mk) (l : List Int), T.toP (.lst m (l.map T.int)) = some (.list (l.map .int)) := fun m l => by
    show (toPs (l.map T.int)).bind (fun ds => some (PyData.list ds)) = _
    rw [toPs_ints]; rfl
  have s : ∀ l : List Int, SeqAt.shaped (.list (l.map .int)) = true := fun l => by
    simp [SeqAt.shaped, PyData.canLay0, lay_ints, PyData.depth, depth_ints]
  show ((T.toP (.lst m (l.map T.int))).bind fun d => (T.toP (.lst m' (r.map T.int))).bind fun e => if SeqAt.shaped d && SeqAt.shaped e then some (PyData.eqv d e) else none) = _
  rw [e, e, Option.bind_some, Option.bind_some, s, s]
  show some (PyData.eqv _ _) = _
  simp only [PyData.eqv, eqv_ints]
@[simp] theorem fEq_ints (m m' : Mk) (l r : List Int) : fEq (.lst m (l.map T.int)) (.lst m' (r.map T.int)) = some (.bl (decide (l = r))) := by
  unfold fEq; rw [eqT_ints]; rfl
@[simp] theorem fNe_ints (m m' : Mk) (l r : List Int) : fNe (.lst m (l.map T.int)) (.lst m' (r.map T.int)) = some (.bl (!decide (l = r))) := by
  unfold fNe; rw [eqT_ints]; rfl
theorem popL_ow {τ : List (Option T)} {O : List Ob} {i : Nat} {xs : List T} {t : T} (h : τ[i]? = some (some (.lst .ow xs))) (ht : xs.getLast? = some t) (no : t.noOw = true) : dPopL i (τ, O) = some (t, (τ.set i (some (.lst .ow xs.dropLast)), O)) := by
  rw [r_dPopL, getL_ow h, Option.bind_some, ← List.getLast?_eq_getElem?, ht, Option.bind_some, if_pos no, putL_ow h]
  rfl
end TL

set_option Elab.async false
set_option linter.all false
set_option maxRecDepth 100000
/-! TL17: dicts. -/
namespace TL
open PySem PySem.Spec L2 PyProof.Rows
/-! ### dicts that slots or handles hold, changed -/
def getD' (S : SS) (i : Nat) : Option (List (Key × T)) := match slot S i with
  | some (.dic .ow xs) => some xs
  | some (.hnd n) => (match S.2[n]? with
    | some (.dic xs) => some xs
    | _ => none)
  | _ => none
def putD (S : SS) (i : Nat) (xs : List (Key × T)) : Option SS := match slot S i with
  | some (.hnd n) => if noBrK xs then some (S.1, S.2.set n (.dic xs)) else none
  | _ => some (setS S i (some (.dic .ow xs)))
section
variable {K : PySem.W.Frag} {ca : Str → Addr} {σ : L2.St} {G : Gh}
theorem Good.mutD (g : Good K ca σ G) {i : Nat} {xs : List (Key × T)} (h : getD' G.S i = some xs) : ∃ p vs gs, σ[i]? = some (some (.ref p)) ∧ G.H p = some (.dK vs) ∧ RepK G.toHc xs vs gs ∧ gs.Nodup ∧ (∀ a ∈ gs, ∃ k, a ∈ G.fp k) ∧ ((∃ k, p ∈ G.fp k) ∨ p ∈ G.ad) ∧
    ∀ xs' vs' gs' S', putD G.S i xs' = some S' → RepK G.toHc xs' vs' gs' → gs'.Nodup → (∀ a ∈ gs', a ∈ gs ∨ ((∀ k, a ∉ G.fp k) ∧ a ∉ G.ad ∧ G.P a = none)) →
      ∃ G', G'.H = upd G.H p (.dK vs') ∧ G'.S = S' ∧ Good K ca σ G' ∧ (∀ G0 ef, Step ef G0 G → New G0 gs' → Step true G0 G') ∧ ∀ v t g2, Tmp G v t g2 → (∀ a ∈ g2, a ∉ gs') → Tmp G' v t g2 := by
  unfold getD' at h
  split at h
  · rename_i ys hs
    cases h
    have hs := slot_some hs
    obtain ⟨v, e1, p, vs, gs, rfl, e2, r, e3⟩ := g.sl i _ hs
    have li : i < G.τ.length := (List.getElem?_eq_some_iff.mp hs).1
    have nd := g.nd (.s i)
    rw [e3] at nd
    have nd2 := List.nodup_cons.mp nd
    have pin : p ∈ G.fp (.s i) := by rw [e3]; simp
    have gin : ∀ a ∈ gs, a ∈ G.fp (.s i) := fun a m => by rw [e3]; exact List.mem_cons_of_mem _ m
    refine ⟨p, vs, gs, e1, e2, r, nd2.2, fun a m => ⟨_, gin a m⟩, .inl ⟨_, pin⟩, fun xs' vs' gs' S' hp r' nd' out' => ?_⟩
    have pn' : p ∉ gs' := fun m => by
      rcases out' p m with z | z
      · exact nd2.1 z
      · exact z.1 _ pin
    have hp : some (setS G.S i (some (.dic .ow xs'))) = some S' := by
      unfold putD at hp
      rw [show slot G.S i = some (.dic .ow xs) by unfold slot; rw [show G.S.1[i]? = _ from hs]; rfl] at hp
      exact hp
    cases hp
    let G' : Gh := { G with H := upd G.H p (.dK vs'), fp := fun k => if k = .s i then p :: gs' else G.fp k, τ := G.τ.set i (some (.dic .ow xs')), O := G.O }
    have fs : G'.fp (.s i) = p :: gs' := if_pos rfl
    have fn : ∀ {k}, k ≠ .s i → G'.fp k = G.fp k := fun e => if_neg e
    have sub : ∀ k a, a ∈ G'.fp k → (a ∈ G.fp k) ∨ (k = .s i ∧ a ∈ gs' ∧ (∀ k, a ∉ G.fp k) ∧ a ∉ G.ad ∧ G.P a = none) := fun k a m => by
      by_cases e : k = .s i
      · subst e
        rw [fs] at m
        rcases List.mem_cons.mp m with z | m
        · rw [z]; exact .inl pin
        · rcases out' a m with z | z
          · exact .inl (gin a z)
          · exact .inr ⟨rfl, m, z⟩
      · rw [fn e] at m; exact .inl m
    have ne_p : ∀ {k}, k ≠ .s i → p ∉ G.fp k := fun e m => e (g.dj _ _ p m pin)
    have good : Good K ca σ G' := by
      refine { k := g.k, c := g.c, len := (List.length_set ..).trans g.len, fp := g.fp, ph := g.ph.upd (g.pn _ p pin), nd := fun k => ?_, dj := fun k k' a m m' => ?_, pn := fun k a m => ?_, adn := g.adn, adp := g.adp, ado := fun a m k q => ?_, sl := fun j u e => ?_, sn := fun j e => ?_, ob := fun n b e => ?_, on := fun n e => ?_, ln := g.ln }
      · by_cases e : k = .s i
        · subst e; rw [fs]; exact List.nodup_cons.mpr ⟨pn', nd'⟩
        · rw [fn e]; exact g.nd k
      · rcases sub k a m with z | ⟨z, _, y, _⟩ <;> rcases sub k' a m' with z' | ⟨z', _, y', _⟩
        · exact g.dj _ _ a z z'
        · exact absurd z (y' _)
        · exact absurd z' (y _)
        · rw [z, z']
      · rcases sub k a m with z | ⟨_, _, _, _, y⟩
        · exact g.pn _ a z
        · exact y
      · rcases sub k a q with z | ⟨_, _, _, y, _⟩
        · exact g.ado a m _ z
        · exact y m
      · rcases setAt (show (G.τ.set i (some (.dic .ow xs')))[j]? = some (some u) from e) with ⟨ej, q, _⟩ | ⟨ne, q⟩
        · subst ej
          cases q
          refine ⟨.ref p, e1, ?_⟩
          rw [fs]
          exact ⟨p, vs', gs', rfl, upd_same, RepK.ex _ _ _ (ex_upd pn') r', rfl⟩
        · obtain ⟨v', a', r2⟩ := g.sl j u q
          have nej : Own.s j ≠ .s i := by intro z; cases z; exact ne rfl
          exact ⟨v', a', by rw [fn nej]; exact Rep.ex _ _ _ (ex_upd (ne_p nej)) r2⟩
      · by_cases ej : j = i
        · subst ej
          exact absurd (show (G.τ.set j (some (.dic .ow xs')))[j]? = some (some (.dic .ow xs')) by rw [List.getElem?_set_self li]) (e _)
        · rw [fn (by intro z; cases z; exact ej rfl)]
          refine g.sn j fun u q => e u ?_
          show (G.τ.set i _)[j]? = _
          rw [List.getElem?_set_ne (Ne.symm ej)]
          exact q
      · obtain ⟨q, a', r2⟩ := g.ob n b e
        rw [fn (by intro z; cases z)]
        refine ⟨q, a', r2.ex (ex_upd fun m => ?_)⟩
        rcases List.mem_cons.mp m with z | m
        · subst z; exact g.ado p (List.mem_of_getElem? a') _ pin
        · exact ne_p (by intro z; cases z) m
      · rw [fn (by intro z; cases z)]; exact g.on n e
    refine ⟨G', rfl, rfl, good, fun G0 ef s n => { s with fr := fun a u e h1 h2 => ?_, dom := fun a e => ?_, gnew := fun k a m => ?_, q := fun e => by cases e }, fun v t g2 m ap => ⟨Rep.ex _ _ _ (ex_upd fun z => (m.out p z).1 _ pin) m.rep, m.nd, fun a q => ?_⟩⟩
    · show upd G.H p _ a = _
      rw [upd_ne fun z => by
        subst z
        rcases s.gnew _ a pin with ⟨k', y⟩ | y
        · exact h1 _ y
        · rw [e] at y; cases y]
      exact s.fr a u e h1 h2
    · show upd G.H p _ a ≠ none
      by_cases z : a = p
      · rw [z, upd_same]; simp
      · rw [upd_ne z]; exact s.dom a e
    · rcases sub k a m with z | ⟨_, z, _⟩
      · exact s.gnew _ a z
      · exact (n a z).symm
    · obtain ⟨o1, o2, o3⟩ := m.out a q
      refine ⟨fun k z => ?_, o2, o3⟩
      rcases sub k a z with y | ⟨_, y, _⟩
      · exact o1 _ y
      · exact ap a q y
  · rename_i n hs
    split at h
    · rename_i ys hx
      cases h
      have hs' := slot_some hs
      obtain ⟨v, e1, p, rfl, e2, e3⟩ := g.sl i _ hs'
      obtain ⟨q, e4, vs, e5, r, nb⟩ := g.ob n (.dic xs) hx
      have e2 : G.ad[n]? = some p := e2
      rw [e2] at e4
      cases e4
      have ln : n < G.O.length := (List.getElem?_eq_some_iff.mp (show G.O[n]? = _ from hx)).1
      have pad : p ∈ G.ad := List.mem_of_getElem? e2
      refine ⟨p, vs, G.fp (.o n), e1, e5, r, g.nd _, fun a m => ⟨_, m⟩, .inr pad, fun xs' vs' gs' S' hp r' nd' out' => ?_⟩
      have pn' : p ∉ gs' := fun m => by
        rcases out' p m with z | z
        · exact g.ado p pad _ z
        · exact z.2.1 pad
      unfold putD at hp
      rw [hs] at hp
      have hp : (if noBrK xs' then some (G.τ, G.O.set n (.dic xs')) else none) = some S' := hp
      split at hp
      case isFalse => cases hp
      rename_i nb'
      cases hp
      let G' : Gh := { G with H := upd G.H p (.dK vs'), fp := fun k => if k = .o n then gs' else G.fp k, τ := G.τ, O := G.O.set n (.dic xs') }
      have fs : G'.fp (.o n) = gs' := if_pos rfl
      have fn : ∀ {k}, k ≠ .o n → G'.fp k = G.fp k := fun e => if_neg e
      have sub : ∀ k a, a ∈ G'.fp k → (a ∈ G.fp k) ∨ (k = .o n ∧ a ∈ gs' ∧ (∀ k, a ∉ G.fp k) ∧ a ∉ G.ad ∧ G.P a = none) := fun k a m => by
        by_cases e : k = .o n
        · subst e
          rw [fs] at m
          rcases out' a m with z | z
          · exact .inl z
          · exact .inr ⟨rfl, m, z⟩
        · rw [fn e] at m; exact .inl m
      have ne_p : ∀ {k}, p ∉ G.fp k := fun {k} m => g.ado p pad k m
      have good : Good K ca σ G' := by
        refine { k := g.k, c := g.c, len := g.len, fp := g.fp, ph := g.ph.upd (g.adp p pad), nd := fun k => ?_, dj := fun k k' a m m' => ?_, pn := fun k a m => ?_, adn := g.adn, adp := g.adp, ado := fun a m k q => ?_, sl := fun j u e => ?_, sn := fun j e => ?_, ob := fun m b e => ?_, on := fun m e => ?_, ln := by show G.ad.length = (G.O.set n _).length; rw [List.length_set]; exact g.ln }
        · by_cases e : k = .o n
          · subst e; rw [fs]; exact nd'
          · rw [fn e]; exact g.nd k
        · rcases sub k a m with z | ⟨z, _, y, _⟩ <;> rcases sub k' a m' with z' | ⟨z', _, y', _⟩
          · exact g.dj _ _ a z z'
          · exact absurd z (y' _)
          · exact absurd z' (y _)
          · rw [z, z']
        · rcases sub k a m with z | ⟨_, _, _, _, y⟩
          · exact g.pn _ a z
          · exact y
        · rcases sub k a q with z | ⟨_, _, _, y, _⟩
          · exact g.ado a m _ z
          · exact y m
        · obtain ⟨v', a', r2⟩ := g.sl j u e
          exact ⟨v', a', by rw [fn (by intro z; cases z)]; exact Rep.ex _ _ _ (ex_upd ne_p) r2⟩
        · rw [fn (by intro z; cases z)]; exact g.sn j e
        · rcases setAt (show (G.O.set n (.dic xs'))[m]? = some b from e) with ⟨ej, q, _⟩ | ⟨ne, q⟩
          · subst ej
            cases q
            refine ⟨p, e2, ?_⟩
            rw [fs]
            exact ⟨vs', upd_same, RepK.ex _ _ _ (ex_upd pn') r', nb'⟩
          · obtain ⟨q', a', r2⟩ := g.ob m b q
            rw [fn (by intro z; cases z; exact ne rfl)]
            refine ⟨q', a', r2.ex (ex_upd fun mm => ?_)⟩
            rcases List.mem_cons.mp mm with z | mm
            · subst z
              obtain ⟨l1, h1⟩ := List.getElem?_eq_some_iff.mp a'
              obtain ⟨l2, h2⟩ := List.getElem?_eq_some_iff.mp e2
              exact ne ((List.getElem_inj g.adn).mp (h2.trans h1.symm))
            · exact ne_p mm
        · by_cases ej : m = n
          · subst ej
            have e : (G.O.set m (.dic xs'))[m]? = none := e
            rw [List.getElem?_set_self ln] at e
            cases e
          · rw [fn (by intro z; cases z; exact ej rfl)]
            refine g.on m ?_
            have e : (G.O.set n (.dic xs'))[m]? = none := e
            rw [List.getElem?_set_ne (Ne.symm ej)] at e
            exact e
      refine ⟨G', rfl, rfl, good, fun G0 ef s n => { s with fr := fun a u e h1 h2 => ?_, dom := fun a e => ?_, gnew := fun k a m => ?_, q := fun e => by cases e }, fun v t g2 m ap => ⟨Rep.ex _ _ _ (ex_upd fun z => (m.out p z).2.1 pad) m.rep, m.nd, fun a q => ?_⟩⟩
      · show upd G.H p _ a = _
        rw [upd_ne fun z => by
          subst z
          rcases s.anew _ pad with y | y | ⟨k', y⟩
          · exact h2 y
          · rw [e] at y; cases y
          · exact h1 _ y]
        exact s.fr a u e h1 h2
      · show upd G.H p _ a ≠ none
        by_cases z : a = p
        · rw [z, upd_same]; simp
        · rw [upd_ne z]; exact s.dom a e
      · rcases sub k a m with z | ⟨_, z, _⟩
        · exact s.gnew _ a z
        · exact (n a z).symm
      · obtain ⟨o1, o2, o3⟩ := m.out a q
        refine ⟨fun k z => ?_, o2, o3⟩
        rcases sub k a z with y | ⟨_, y, _⟩
        · exact o1 _ y
        · exact ap a q y
    · cases h
  · cases h
end
/-! ### keys -/
def keyT : T → Option Key
  | .int i => some (.inl i)
  | .str x => some (.inr x)
  | _ => none
theorem keyT_V {c : Hc} {t : T} {v : V} {g : List Addr} {k : Key} (h : keyT t = some k) (r : Rep c t v g) : v = kV k := by
  cases t with
  | int i => cases h; exact r.1
  | str x => cases h; exact r.1
  | _ => cases h
def getK (kvs : List (Key × T)) (k : Key) : Option T := (kvs.find? fun p => decide (p.1 = k)).map (·.2)
theorem RepK.find {c : Hc} {k : Key} : ∀ {ts : List (Key × T)} {vs : List (Key × V)} {g : List Addr}, RepK c ts vs g → match getK ts k with
    | some t => ∃ v gt, valV vs k = some v ∧ Rep c t v gt ∧ ∀ a ∈ gt, a ∈ g
    | none => valV vs k = none
  | [], vs, g, ⟨a, b⟩ => by subst a; rfl
  | (k', t) :: ts, vs, g, ⟨v, r, ga, gb, a, b, d, q⟩ => by
    subst a b
    unfold getK valV
    by_cases h : k' = k
    · subst h
      rw [List.find?_cons_of_pos (by simp), List.find?_cons_of_pos (by simp)]
      exact ⟨v, ga, rfl, d, fun x m => List.mem_append_left _ m⟩
    · rw [List.find?_cons_of_neg (by simp [h]), List.find?_cons_of_neg (by simp [h])]
      have ih := RepK.find (k := k) q
      unfold getK valV at ih
      cases e : (ts.find? fun p => decide (p.1 = k)).map (·.2) with
      | none => rw [e] at ih; exact ih
      | some t' =>
        rw [e] at ih
        obtain ⟨v', gt, h1, h2, h3⟩ := ih
        exact ⟨v', gt, h1, h2, fun x m => List.mem_append_right _ (h3 x m)⟩
def putT (kvs : List (Key × T)) (k : Key) (t : T) : List (Key × T) := if kvs.any fun p => decide (p.1 = k) then kvs.map fun p => if p.1 = k then (p.1, t) else p else kvs ++ [(k, t)]
theorem RepK.keys {c : Hc} : ∀ {ts : List (Key × T)} {vs : List (Key × V)} {g : List Addr}, RepK c ts vs g → vs.map (·.1) = ts.map (·.1)
  | [], vs, g, ⟨a, b⟩ => by subst a; rfl
  | (k', t) :: ts, vs, g, ⟨v, r, ga, gb, a, b, d, q⟩ => by
    subst a
    show k' :: r.map (·.1) = k' :: ts.map (·.1)
    rw [RepK.keys q]
theorem any_keys {α β : Type} {l : List (Key × α)} {m : List (Key × β)} (h : l.map (·.1) = m.map (·.1)) (k : Key) : (l.any fun p => decide (p.1 = k)) = m.any fun p => decide (p.1 = k) := by
  have e : ∀ {γ : Type} (l : List (Key × γ)), (l.any fun p => decide (p.1 = k)) = (l.map (·.1)).any fun z => decide (z = k) := fun l => by rw [List.any_map]; rfl
  rw [e l, e m, h]
theorem RepK.append {c : Hc} : ∀ {ts us : List (Key × T)} {vs ws : List (Key × V)} {g g' : List Addr}, RepK c ts vs g → RepK c us ws g' → RepK c (ts ++ us) (vs ++ ws) (g ++ g')
  | [], us, vs, ws, g, g', ⟨a, b⟩, h => by subst a b; exact h
  | (k, t) :: ts, us, vs, ws, g, g', ⟨v, r, ga, gb, a, b, d, q⟩, h => by
    subst a b
    exact ⟨v, r ++ ws, ga, gb ++ g', rfl, List.append_assoc .., d, RepK.append q h⟩
/-- where no key stands twice -/
theorem RepK.repl {c : Hc} {k : Key} {t : T} {v : V} {gt : List Addr} (rt : Rep c t v gt) (ndt : gt.Nodup) : ∀ {ts : List (Key × T)} {vs : List (Key × V)} {g : List Addr}, (ts.map (·.1)).Nodup → RepK c ts vs g → g.Nodup → (∀ a ∈ gt, a ∉ g) →
    ∃ g', RepK c (ts.map fun p => if p.1 = k then (p.1, t) else p) (vs.map fun p => if p.1 = k then (p.1, v) else p) g' ∧ g'.Nodup ∧ (∀ a ∈ g', a ∈ g ∨ a ∈ gt) ∧ (k ∉ ts.map (·.1) → ∀ a ∈ g', a ∈ g)
  | [], vs, g, _, ⟨a, b⟩, _, _ => by
    subst a b
    exact ⟨[], ⟨rfl, rfl⟩, List.nodup_nil, fun _ m => absurd m (by simp), fun _ _ m => absurd m (by simp)⟩
  | (k', u) :: ts, vs, g, nk, ⟨w, r, ga, gb, a, b, d, q⟩, nd, ap => by
    subst a b
    have nk2 := List.nodup_cons.mp nk
    have n2 := List.nodup_append.mp nd
    obtain ⟨g', h1, h2, h3, h4⟩ := RepK.repl (k := k) rt ndt nk2.2 q n2.2.1 fun x m z => ap x m (List.mem_append_right _ z)
    rw [List.map_cons, List.map_cons]
    by_cases e : k' = k
    · have h5 := h4 (by rw [← e]; exact nk2.1)
      rw [if_pos (show (k', u).1 = k from e), if_pos (show (k', w).1 = k from e)]
      refine ⟨gt ++ g', ⟨v, _, gt, g', rfl, rfl, rt, h1⟩, List.nodup_append.mpr ⟨ndt, h2, fun x m y m' z => ap x m (by rw [z]; exact List.mem_append_right _ (h5 y m'))⟩, fun x m => ?_, fun z => absurd (by rw [← e]; simp) z⟩
      rcases List.mem_append.mp m with m | m
      · exact .inr m
      · exact .inl (List.mem_append_right _ (h5 x m))
    · rw [if_neg (show ¬ (k', u).1 = k from e), if_neg (show ¬ (k', w).1 = k from e)]
      refine ⟨ga ++ g', ⟨w, _, ga, g', rfl, rfl, d, h1⟩, List.nodup_append.mpr ⟨n2.1, h2, fun x m y m' z => ?_⟩, fun x m => ?_, fun z x m => ?_⟩
      · subst z
        rcases h3 x m' with y1 | y1
        · exact n2.2.2 x m x y1 rfl
        · exact ap x y1 (List.mem_append_left _ m)
      · rcases List.mem_append.mp m with m | m
        · exact .inl (List.mem_append_left _ m)
        · exact (h3 x m).imp (List.mem_append_right _) id
      · rcases List.mem_append.mp m with m | m
        · exact List.mem_append_left _ m
        · exact List.mem_append_right _ (h4 (fun y => z (List.mem_cons_of_mem _ y)) x m)
theorem RepK.put {c : Hc} {k : Key} {t : T} {v : V} {gt : List Addr} {ts : List (Key × T)} {vs : List (Key × V)} {g : List Addr} (nk : (ts.map (·.1)).Nodup) (r : RepK c ts vs g) (nd : g.Nodup) (rt : Rep c t v gt) (ndt : gt.Nodup) (ap : ∀ a ∈ gt, a ∉ g) :
    ∃ g', RepK c (putT ts k t) (putK vs k v) g' ∧ g'.Nodup ∧ ∀ a ∈ g', a ∈ g ∨ a ∈ gt := by
  unfold putT putK
  rw [any_keys r.keys k]
  split
  · obtain ⟨g', h1, h2, h3, _⟩ := RepK.repl (k := k) rt ndt nk r nd ap
    exact ⟨g', h1, h2, h3⟩
  · have r1 : RepK c [(k, t)] [(k, v)] (gt ++ []) := ⟨v, [], gt, [], rfl, rfl, rt, ⟨rfl, rfl⟩⟩
    rw [List.append_nil] at r1
    exact ⟨g ++ gt, r.append r1, List.nodup_append.mpr ⟨nd, ndt, fun x m y m' z => ap y m' (by rw [← z]; exact m)⟩, fun a m => List.mem_append.mp m⟩
/-! ### a place of a list or a dict -/
def rIxH : R2 := fun x y H Q => ∃ a v, x = .ref a ∧ DGet H a y (some v) ∧ Q v H
theorem ix_dict {X : Cx} (hu : X.A.units + 1 < cLine) : IxR X rIxH := by
  intro value slice pins s σ H x y v u Q I rx ry h hs
  obtain ⟨a, w, rfl, g, q⟩ := h
  cases rx
  have hT := dict_typeIs I g
  show wpAny (model X.prog X.w) X.A (subscriptTail value slice (.ref a) u) (EP X pins σ Q) X.xe s
  unfold subscriptTail
  refine wpAny_bind ?_
  rw [getitemInPython_of_ne (Shared.TypeIs.not_modules hT)]
  refine wpAny_bind (wpAny_specialOf hT F.slot_dict_getitem.lookup (wpAny_pure (wpAny_bind ?_)))
  rw [hs]
  exact wpAny_operating (wpAny_mono (d_getItem (Q := EP X pins σ Q) hu I g ry fun w' s' I' r' => ⟨w, H, I', r', q⟩) (fun r s3 h3 => wpAny_bind (wpAny_letTemporaryGo (wpAny_pure h3))) fun _ _ h => h)
def fIxA (x y : T) : Option T := match x with
  | .dic _ kvs => (keyT y).bind fun k => (getK kvs k).bind fun t => if t.noOw then some t else none
  | x => fIx x y
section
variable {X : Cx} {ca : Str → Addr} {a b e : Expr} {ea eb ef : Bool} {pos : Pos}
theorem o2_ixA : Op2 X ca (fun x y H Q => rIx X.K x y H Q ∨ rIxH x y H Q) fIxA := by
  intro σ G x y z v w gx gy Q g rx ry e k
  unfold fIxA at e
  split at e
  · obtain ⟨kk, h1, e⟩ := Option.bind_eq_some_iff.mp e
    obtain ⟨t, h2, e⟩ := Option.bind_eq_some_iff.mp e
    split at e
    · rename_i no
      cases e
      obtain ⟨p, vs, gs, rfl, hd, rr, _⟩ := Rep.dicD g.fp g.ph rx
      have f := rr.find (k := kk)
      rw [h2] at f
      obtain ⟨u, gt, f1, f2, _⟩ := f
      have ge := Rep.noOw _ _ _ no f2
      rw [ge] at f2
      exact .inr ⟨p, u, rfl, .inl ⟨vs, kk, hd, keyT_V h1 ry, f1.symm⟩, fin0 g k f2⟩
    · cases e
  · exact .inl (o2_ix σ G _ y z v w gx gy Q g rx ry e k)
theorem ex_ixA {da db : DO} (hu : X.A.units + 64 < cLine) (ha : OX ca X a ea da) (hb : OX ca X b eb db) (hs : PlainIx b) : EX ca X (.Subscript a b pos) (ea || eb) (d2 fIxA da db) :=
  PE.imp (pe_ix (ix_seq.or (ix_dict (by omega))) ha hb hs) fun σ H Q w => bin_of o2_ixA w
/-! ### k in d -/
theorem op_inD (hu : X.A.units + 64 < cLine) : OpR X (compareOp .In) fun y x H Q => ∃ a o, x = .ref a ∧ DGet H a y o ∧ Q (.bl o.isSome) H := by
  intro pins s σ H y x iv u Q I ry rx h
  obtain ⟨a, o, rfl, g, q⟩ := h
  cases rx
  exact d_in (by omega) I g ry fun s3 I3 => ⟨.bl o.isSome, H, I3, rfl, q⟩
theorem op_notInD (hu : X.A.units + 64 < cLine) : OpR X (compareOp .NotIn) fun y x H Q => ∃ a o, x = .ref a ∧ DGet H a y o ∧ Q (.bl (!o.isSome)) H := by
  intro pins s σ H y x iv u Q I ry rx h
  obtain ⟨a, o, rfl, g, q⟩ := h
  cases rx
  exact d_notIn (by omega) I g ry fun s3 I3 => ⟨.bl (!o.isSome), H, I3, rfl, q⟩
def rInB (K : PySem.W.Frag) (neg : Bool) : R2 := fun y x H Q => rInA K neg y x H Q ∨ ∃ a o, x = .ref a ∧ DGet H a y o ∧ Q (.bl (if neg then !o.isSome else o.isSome)) H
theorem op_inB (hu : X.A.units + 64 < cLine) : OpR X (compareOp .In) (rInB X.K false) := by
  intro pins s σ H x y v u Q I rx ry h
  rcases h with h | h
  · exact op_inA pins s σ H x y v u Q I rx ry h
  · exact op_inD hu pins s σ H x y v u Q I rx ry h
theorem op_notInB (hu : X.A.units + 64 < cLine) : OpR X (compareOp .NotIn) (rInB X.K true) := by
  intro pins s σ H x y v u Q I rx ry h
  rcases h with h | h
  · exact op_notInA pins s σ H x y v u Q I rx ry h
  · exact op_notInD hu pins s σ H x y v u Q I rx ry h
def fInB (neg : Bool) (x y : T) : Option T := match y with
  | .dic _ kvs => (keyT x).bind fun k => some (.bl (if neg then !(getK kvs k).isSome else (getK kvs k).isSome))
  | y => fIn neg x y
theorem o2_inB {neg : Bool} : Op2 X ca (rInB X.K neg) (fInB neg) := by
  intro σ G x y z v w gx gy Q g rx ry e k
  unfold fInB at e
  split at e
  · rename_i m kvs
    obtain ⟨kk, h1, e⟩ := Option.bind_eq_some_iff.mp e
    cases e
    obtain ⟨p, vs, gs, rfl, hd, rr, _⟩ := Rep.dicD g.fp g.ph ry
    refine .inr ⟨p, valV vs kk, rfl, .inl ⟨vs, kk, hd, keyT_V h1 rx, rfl⟩, ?_⟩
    have f := rr.find (k := kk)
    have es : (valV vs kk).isSome = (getK kvs kk).isSome := by
      split at f
      · rename_i t ht
        obtain ⟨u, gt, f1, _⟩ := f
        rw [f1, ht]; rfl
      · rename_i ht
        rw [f, ht]
        rfl
    rw [es]
    exact fin0 g k ⟨rfl, rfl⟩
  · exact .inl (o2_in σ G x _ z v w gx gy Q g rx ry e k)
/-! ### d[k] = v -/
def rSetD : V → V → V → Hp → (Hp → Prop) → Prop := fun o i v H Q => ∃ a H', o = .ref a ∧ DPut H a i v H' ∧ Q H'
theorem set_any (hu : X.A.units + 64 < cLine) : PSet X fun o i v H Q => rSetL o i v H Q ∨ rSetD o i v H Q := by
  intro pins s σ H o i v ov iv u Q I ro ri rv h
  rcases h with h | ⟨a, H', rfl, p, q⟩
  · exact set_list pins s σ H o i v ov iv u Q I ro ri rv h
  · cases ro
    exact d_setItem (by omega) I p ri rv fun s' I' => ⟨H', I', q⟩
/-- x[k] = .., a list or a dict in slot i -/
def gIxA (i : Nat) (d : DE) : DG := fun t S => match getD' S i with
  | some _ => (d S).bind fun p => (keyT p.1).bind fun k => (getD' p.2 i).bind fun kvs => if kvs.length < sizeLine ∧ (kvs.map (·.1)).Nodup then putD p.2 i (putT kvs k t) else none
  | none => gIx i d t S
theorem getD_ty {K : PySem.W.Frag} {σ : L2.St} {G : Gh} {i : Nat} {xs : List (Key × T)} (g : Good K ca σ G) (h : getD' G.S i = some xs) : ∃ p, σ[i]? = some (some (.ref p)) := by
  obtain ⟨p, vs, gs, e1, _⟩ := g.mutD h
  exact ⟨p, e1⟩
theorem gx_ixA {i : Nat} {o ix : Expr} {d : DE} (hu : X.A.units + 64 < cLine) (ho : PE X o (tVar i)) (h : EX ca X ix ef d) (ha : ∀ v, assign (.Subscript o ix pos) X.env v = (do
      let ov ← holding [v] (eval o X.env)
      let iv ← holding [v, ov] (eval ix X.env)
      standAt pos
      holding [v, ov, iv] (setItem ov iv v)
      release [v, ov, iv] []) := by intro _; rfl) : GX ca X (.Subscript o ix pos) [] (gIxA i d) :=
  PG.imp (pg_sub ho h (set_any hu) ha) fun v σ H Q w => by
    obtain ⟨G, t, gt, rfl, g, m, S', e1, k⟩ := w
    unfold gIxA at e1
    split at e1
    · rename_i x0 h0
      obtain ⟨p, h1, e1⟩ := Option.bind_eq_some_iff.mp e1
      obtain ⟨kk, hk, e1⟩ := Option.bind_eq_some_iff.mp e1
      obtain ⟨kvs, h2, e1⟩ := Option.bind_eq_some_iff.mp e1
      split at e1
      case isFalse => cases e1
      rename_i hl
      obtain ⟨q, hq⟩ := getD_ty g h0
      refine ⟨_, hq, G, rfl, g, p.1, p.2, h1, fun G1 u gu a1 a2 a3 a4 a5 => ?_⟩
      have ru := keyT_V hk a4.rep
      obtain ⟨q', vs, gs, e2, e3, rr, nd, ow, _, mk⟩ := a2.mutD (by rw [a1]; exact h2)
      rw [hq] at e2
      cases e2
      have m1 := m.step a3
      have ap : ∀ a ∈ gt, a ∉ gs := fun a z y => by
        obtain ⟨k2, y⟩ := ow a y
        exact (m1.out a z).1 k2 y
      obtain ⟨g', r', nd', sub⟩ := RepK.put (k := kk) hl.2 rr nd m1.rep m1.nd ap
      obtain ⟨G', b1, b2, b3, b4, b5⟩ := mk (putT kvs kk t) (putK vs kk v) g' _ (by rw [a1]; exact e1) r' nd' fun a z => (sub a z).imp id fun y => m1.out a y
      refine .inr ⟨q, _, rfl, .inl ⟨vs, kk, e3, ru, by rw [rr.len]; exact hl.1, rfl⟩, ?_⟩
      rw [← b1]
      refine k G' σ b2 b3 (fun G0 ef' s n => b4 G0 true (s.trans a3).loud fun a z => ?_) (fun v2 t2 g2 m2 ap2 => b5 v2 t2 g2 (m2.step a3) fun a z y => ?_) fun _ _ => rfl
      · rcases sub a z with y | y
        · obtain ⟨k2, y⟩ := ow a y
          rcases a3.gnew k2 a y with ⟨k3, w⟩ | w
          · exact (s.gnew k3 a w).symm
          · left
            cases q2 : G0.H a with
            | none => rfl
            | some o => exact absurd w (s.dom a (by rw [q2]; simp))
        · exact n a y
      · rcases sub a y with w | w
        · obtain ⟨k2, w⟩ := ow a w
          exact ((m2.step a3).out a z).1 k2 w
        · exact ap2 a z w
    · obtain ⟨x0, h0, e1⟩ := Option.bind_eq_some_iff.mp (show (getL G.S i).bind _ = some S' from e1)
      obtain ⟨p, h1, e1⟩ := Option.bind_eq_some_iff.mp e1
      obtain ⟨xs, h2, e1⟩ := Option.bind_eq_some_iff.mp e1
      split at e1
      case h_2 => cases e1
      rename_i kk hk
      obtain ⟨j, h3, h4⟩ := Option.bind_eq_some_iff.mp e1
      obtain ⟨q, hq, ty⟩ := getL_ty g h0
      refine ⟨_, hq, G, rfl, g, p.1, p.2, h1, fun G1 u gu a1 a2 a3 a4 a5 => ?_⟩
      have ru := a4.rep
      rw [hk] at ru
      obtain ⟨rfl, _⟩ := ru
      obtain ⟨q', vs, gs, e2, e3, rr, nd, ow, _, mk⟩ := a2.mutL (by rw [a1]; exact h2)
      rw [hq] at e2
      cases e2
      have m1 := m.step a3
      have ap : ∀ a ∈ gt, a ∉ gs := fun a z y => by
        obtain ⟨k2, y⟩ := ow a y
        exact (m1.out a z).1 k2 y
      obtain ⟨g', r', nd', sub⟩ := Reps.set (j := j) rr nd m1.rep m1.nd ap
      obtain ⟨G', b1, b2, b3, b4, b5⟩ := mk (xs.set j t) (vs.set j v) g' _ (by rw [a1]; exact h4) r' nd' fun a z => (sub a z).imp id fun y => m1.out a y
      refine .inl ⟨q, vs, kk, j, rfl, rfl, e3, by rw [rr.len]; exact h3, ?_⟩
      rw [← b1]
      refine k G' σ b2 b3 (fun G0 ef' s n => b4 G0 true (s.trans a3).loud fun a z => ?_) (fun v2 t2 g2 m2 ap2 => b5 v2 t2 g2 (m2.step a3) fun a z y => ?_) fun _ _ => rfl
      · rcases sub a z with y | y
        · obtain ⟨k2, y⟩ := ow a y
          rcases a3.gnew k2 a y with ⟨k3, w⟩ | w
          · exact (s.gnew k3 a w).symm
          · left
            cases q2 : G0.H a with
            | none => rfl
            | some o => exact absurd w (s.dom a (by rw [q2]; simp))
        · exact n a y
      · rcases sub a y with w | w
        · obtain ⟨k2, w⟩ := ow a w
          exact ((m2.step a3).out a z).1 k2 w
        · exact ap2 a z w
end
end TL

set_option Elab.async false
set_option linter.all false
set_option maxRecDepth 100000
/-! TL18: new dicts; get; pop. -/
namespace TL
open PySem PySem.Spec L2 PyProof.Rows
section
variable {K : PySem.W.Frag} {ca : Str → Addr} {σ : L2.St} {G : Gh} {p : Addr}
theorem Good.newD (g : Good K ca σ G) (hp : G.H p = none) {ts : List (Key × T)} {vs : List (Key × V)} {gs : List Addr} (r : RepK G.toHc ts vs gs) (nd : gs.Nodup) (out : ∀ a ∈ gs, (∀ k, a ∉ G.fp k) ∧ a ∉ G.ad ∧ G.P a = none) :
    Tmp (G.newH p (.dK vs)) (.ref p) (.dic .ow ts) (p :: gs) := by
  have sm : Same G.H (upd G.H p (.dK vs)) := same_upd hp
  refine ⟨⟨p, vs, gs, rfl, upd_same, RepK.ex (c := G.toHc) _ _ _ ⟨rfl, rfl, Same.refl _, Same.refl _, fun a _ u e => sm a u e, ⟨[], by show G.ad = _; simp⟩⟩ r, rfl⟩, ?_, fun a m => ?_⟩
  · refine List.nodup_cons.mpr ⟨fun m => RepK.inH _ _ _ r p m hp, nd⟩
  · rcases List.mem_cons.mp m with e | m
    · subst e
      exact ⟨fun k m => g.fpH m hp, fun m => g.adH m hp, g.ph.none hp⟩
    · exact out a m
end
/-! ### {k: v, ..} -/
def dicGo : List (DE × DE) → SS → Option (List (Key × T) × SS)
  | [], S => some ([], S)
  | d :: ds, S => (d.1 S).bind fun p => (keyT p.1).bind fun k => (d.2 p.2).bind fun q => (dicGo ds q.2).bind fun r => some ((k, q.1) :: r.1, r.2)
def dDic (ds : List (DE × DE)) : DE := fun S => (dicGo ds S).bind fun p => if (p.1.map (·.1)).Nodup ∧ p.1.length ≤ 15 then some (.dic .ow p.1, p.2) else none
def dDNew : DE := fun S => some (.dic .ow [], S)
section
variable {X : Cx} {ca : Str → Addr} {a b e o : Expr} {ea eb ef : Bool} {pos : Pos}
theorem ex_dnew : EX ca X (.Dict [] [] pos) false dDNew := PE.imp pe_dnewK fun σ H Q w => by
  obtain ⟨G, rfl, g, r, S', e1, k⟩ := w
  cases e1
  intro p hp
  obtain ⟨g2, s2⟩ := g.newH (o := .dK []) hp
  exact k (G.newH p (.dK [])) (.ref p) (p :: []) rfl g2 s2 (g.newD hp (vs := []) ⟨rfl, rfl⟩ List.nodup_nil fun _ m => absurd m (by simp)) (New.nil.cons hp)
abbrev trsOf (K : PySem.W.Frag) (ca : Str → Addr) (ds : List (DE × DE)) : List (TE × TE) := ds.map fun d => (liftE K ca true d.1, liftE K ca true d.2)
theorem EX.loud {d : DE} (h : EX ca X e ef d) : EX ca X e true d := PE.imp h fun σ H Q w => by
  obtain ⟨G, rfl, g, r, S', e1, k⟩ := w
  exact ⟨G, rfl, g, r, S', e1, fun G' v gg a1 a2 a3 a4 a5 => k G' v gg a1 a2 a3.loud a4 a5⟩
theorem px_nil : PPs X pos [] [] (trsOf X.K ca []) := pps_nil
theorem px_cons {ks : List (Option Expr)} {vs : List Expr} {d1 d2 : DE} {ds : List (DE × DE)} (h1 : EX ca X a ea d1) (h2 : EX ca X b eb d2) (h : PPs X pos ks vs (trsOf X.K ca ds)) : PPs X pos (some a :: ks) (b :: vs) (trsOf X.K ca ((d1, d2) :: ds)) := pps_cons h1.loud h2.loud h
theorem pairs_of {K : PySem.W.Frag} {σ : L2.St} : ∀ (ds : List (DE × DE)) (H : Hp) (Q : List (V × V) → Hp → Prop), (∃ G : Gh, G.H = H ∧ Good K ca σ G ∧ ∃ ts S', dicGo ds G.S = some (ts, S') ∧ ∀ G' vs gs, G'.S = S' → Good K ca σ G' → Step true G G' → RepK G'.toHc ts vs gs → gs.Nodup → (∀ a ∈ gs, (∀ k, a ∉ G'.fp k) ∧ a ∉ G'.ad ∧ G'.P a = none) → New G gs → Q (vs.map fun kv => (kV kv.1, kv.2)) G'.H) → tPairs (trsOf K ca ds) σ H Q
  | [], H, Q, w => by
    obtain ⟨G, rfl, g, ts, S', e1, k⟩ := w
    cases e1
    exact k G [] [] rfl g (Step.refl _) ⟨rfl, rfl⟩ List.nodup_nil (fun _ m => absurd m (by simp)) New.nil
  | d :: ds, H, Q, w => by
    obtain ⟨G, rfl, g, ts, S', e1, k⟩ := w
    obtain ⟨p, h1, e1⟩ := Option.bind_eq_some_iff.mp e1
    obtain ⟨kk, hk, e1⟩ := Option.bind_eq_some_iff.mp e1
    obtain ⟨q, h2, e1⟩ := Option.bind_eq_some_iff.mp e1
    obtain ⟨r, h3, e1⟩ := Option.bind_eq_some_iff.mp e1
    cases e1
    refine ⟨G, rfl, g, p.1, p.2, h1, fun G1 x gx a1 a2 a3 a4 a5 => ?_⟩
    refine ⟨G1, rfl, a2, q.1, q.2, by rw [a1]; exact h2, fun G2 y gy b1 b2 b3 b4 b5 => ?_⟩
    refine pairs_of ds G2.H _ ⟨G2, rfl, b2, r.1, r.2, by rw [b1]; exact h3, fun G3 vs gs c1 c2 c3 c4 c5 c6 c7 => ?_⟩
    have ex := keyT_V hk a4.rep
    have b4' := b4.step c3
    have ap : ∀ a ∈ gy, a ∉ gs := b4.apart c7
    rw [ex]
    refine k G3 ((kk, y) :: vs) (gy ++ gs) c1 c2 ((a3.trans b3).trans c3) ⟨y, vs, gy, gs, rfl, rfl, b4'.rep, c4⟩ (List.nodup_append.mpr ⟨b4.nd, c5, fun x m z m' e => ap x m (by rw [e]; exact m')⟩) (fun a m => ?_) (fun a m => ?_)
    · rcases List.mem_append.mp m with m | m
      · exact b4'.out a m
      · exact c6 a m
    · rcases List.mem_append.mp m with m | m
      · exact (b5.step a3) a m
      · exact (c7.step (a3.trans b3)) a m
theorem merge_nodup {α : Type} : ∀ (kvs acc : List (Key × V)), ((acc ++ kvs).map (·.1)).Nodup → mergeK acc kvs = acc ++ kvs
  | [], acc, _ => by show acc = acc ++ []; simp
  | (k, v) :: kvs, acc, h => by
    show mergeK (putK acc k v) kvs = _
    have ne : (acc.any fun kv => decide (kv.1 = k)) = false := by
      rw [List.any_eq_false]
      intro p m
      rw [List.map_append, List.map_cons] at h
      have := (List.nodup_append.mp h).2.2 p.1 (List.mem_map.mpr ⟨p, m, rfl⟩) k (by simp)
      simpa using this
    have e : putK acc k v = acc ++ [(k, v)] := by
      unfold putK
      rw [ne]; rfl
    rw [e, merge_nodup (α := α) kvs (acc ++ [(k, v)]) (by simpa using h)]
    simp
theorem ex_dic {ks : List (Option Expr)} {vs : List Expr} {ds : List (DE × DE)} (h : PPs X pos ks vs (trsOf X.K ca ds)) (h1 : (ks.all fun x => x.isSome) = true := by rfl) (h2 : ks.length = vs.length := by rfl) (h3 : ks ≠ [] := by intro z; cases z) (h4 : ks.length ≤ 15 := by decide) : EX ca X (.Dict ks vs pos) true (dDic ds) :=
  PE.imp (pe_disp h h1 h2 h3 h4) fun σ H Q w => by
    obtain ⟨G, rfl, g, r, S', e1, k⟩ := w
    obtain ⟨q, e2, e1⟩ := Option.bind_eq_some_iff.mp e1
    split at e1
    case isFalse => cases e1
    rename_i hn
    cases e1
    intro p hp
    obtain ⟨g2, s2⟩ := g.newH (o := .dK []) hp
    have t2 : Tmp (G.newH p (.dK [])) (.ref p) (.dic .ow []) (p :: []) := g.newD hp (vs := []) ⟨rfl, rfl⟩ List.nodup_nil fun _ m => absurd m (by simp)
    refine pairs_of ds _ _ ⟨G.newH p (.dK []), rfl, g2, q.1, q.2, e2, fun G3 vs gs c1 c2 c3 c4 c5 c6 c7 => ?_⟩
    have t3 := t2.step c3
    obtain ⟨p', vs0, gs0, z1, z2, z3, z4⟩ := t3.rep
    cases z1
    obtain ⟨rfl, _⟩ := z3
    have o3 := t3.out p (by simp)
    have pn : p ∉ gs := t2.apart c7 p (by simp)
    refine ⟨z2, vs, rfl, by rw [c4.len]; exact hn.2, ?_⟩
    have mk : mergeK [] vs = vs := by
      have := merge_nodup (α := Unit) vs [] (by rw [List.nil_append, c4.keys]; exact hn.1)
      rw [this]; rfl
    rw [mk]
    have g4 := c2.setH (o := .dK vs) o3.1 o3.2.1 o3.2.2
    have r4 : RepK (G3.setH p (.dK vs)).toHc q.1 vs gs := RepK.ex (c := G3.toHc) _ _ _ ⟨rfl, rfl, Same.refl _, Same.refl _, fun a m u e => by show upd G3.H p _ a = _; rw [upd_ne fun z => pn (by rw [← z]; exact m)]; exact e, ⟨[], by show G3.ad = _; simp⟩⟩ c4
    refine k (G3.setH p (.dK vs)) (.ref p) (p :: gs) c1 g4 ((s2.trans c3).setH hp rfl) ⟨⟨p, vs, gs, rfl, upd_same, r4, rfl⟩, List.nodup_cons.mpr ⟨pn, c5⟩, fun a m => ?_⟩ (New.cons hp (c7.step s2))
    rcases List.mem_cons.mp m with e | m
    · rw [e]; exact o3
    · exact c6 a m
/-! ### d.get(k), d.get(k, x) -/
def isD : T → Bool
  | .dic _ _ => true
  | _ => false
def dicKvs : T → Option (List (Key × T))
  | .dic _ kvs => some kvs
  | _ => none
def dGet1 (a : DO) (b : DE) : DE := fun S => (a S).bind fun p => (p.1.res p.2).bind fun x0 => if isD x0 then (b p.2).bind fun q => (p.1.res q.2).bind fun x => (dicKvs x).bind fun kvs => (keyT q.1).bind fun k => match getK kvs k with
    | some t => if t.noOw then some (t, q.2) else none
    | none => some (.non, q.2)
  else none
def dGet2 (a : DO) (b c : DE) : DE := fun S => (a S).bind fun p => (p.1.res p.2).bind fun x0 => if isD x0 then (b p.2).bind fun q => (c q.2).bind fun r => (p.1.res r.2).bind fun x => (dicKvs x).bind fun kvs => (keyT q.1).bind fun k => match getK kvs k with
    | some t => if t.noOw then some (t, r.2) else none
    | none => some r
  else none
theorem ArgAt.keep {ef : Bool} {G G' : Gh} {σ : L2.St} {arg : Arg} {v : V} {g : List Addr} (s : Step ef G G') (h : ArgAt G σ arg v g) : ArgAt G' σ arg v g := by
  cases arg with
  | tmp t => exact Tmp.step h s
  | bor i => exact h
theorem isD_of {K : PySem.W.Frag} {σ : L2.St} {G : Gh} {arg : Arg} {v : V} {g : List Addr} {t : T} (gd : Good K ca σ G) (h : ArgAt G σ arg v g) (r : arg.res G.S = some t) (d : isD t = true) : ∃ a, v = .ref a ∧ IsD G.H a := by
  obtain ⟨gt, rr⟩ := h.rep gd r
  cases t with
  | dic m kvs =>
    obtain ⟨p, vs, gs, rfl, hd, _⟩ := Rep.dicD gd.fp gd.ph rr
    exact ⟨p, rfl, .inl ⟨vs, hd⟩⟩
  | _ => cases d
theorem dget_of {K : PySem.W.Frag} {σ : L2.St} {G : Gh} {arg : Arg} {v y : V} {g gy : List Addr} {t yt : T} {kvs : List (Key × T)} {k : Key} (gd : Good K ca σ G) (h : ArgAt G σ arg v g) (r : arg.res G.S = some t) (d : dicKvs t = some kvs) (ry : Rep G.toHc yt y gy) (hk : keyT yt = some k) :
    ∃ a vs, v = .ref a ∧ DGet G.H a y (valV vs k) ∧ match getK kvs k with
      | some t => ∃ v gt, valV vs k = some v ∧ Rep G.toHc t v gt
      | none => valV vs k = none := by
  obtain ⟨gt, rr⟩ := h.rep gd r
  cases t with
  | dic m kvs' =>
    cases d
    obtain ⟨p, vs, gs, rfl, hd, rk, _⟩ := Rep.dicD gd.fp gd.ph rr
    refine ⟨p, vs, rfl, .inl ⟨vs, k, hd, keyT_V hk ry, rfl⟩, ?_⟩
    have f := rk.find (k := k)
    cases ht : getK kvs k with
    | some t =>
      rw [ht] at f
      obtain ⟨u, gt, f1, f2, _⟩ := f
      exact ⟨u, gt, f1, f2⟩
    | none => rw [ht] at f; exact f
  | _ => cases d
theorem ex_get1 {da : DO} {db : DE} {apos cpos : Pos} (hu : X.A.units + 64 < cLine) (ho : OX ca X o ea da) (hb : EX ca X b eb db) (m : M1 X o "get" apos b cpos := by exact ⟨rfl, rfl, rfl, rfl⟩) : EX ca X (.Call (.Attribute o "get" apos) [b] [] cpos) (ea || eb) (dGet1 da db) :=
  PE.imp (pe_dget1 (by omega) ho hb m) fun σ H Q w => by
    obtain ⟨G, rfl, g, z, S', e1, k⟩ := w
    obtain ⟨p, h1, e1⟩ := Option.bind_eq_some_iff.mp e1
    obtain ⟨x0, h2, e1⟩ := Option.bind_eq_some_iff.mp e1
    split at e1
    case isFalse => cases e1
    rename_i hd
    obtain ⟨q, h3, e1⟩ := Option.bind_eq_some_iff.mp e1
    obtain ⟨x, h4, e1⟩ := Option.bind_eq_some_iff.mp e1
    obtain ⟨kvs, h5, e1⟩ := Option.bind_eq_some_iff.mp e1
    obtain ⟨kk, h6, e1⟩ := Option.bind_eq_some_iff.mp e1
    refine ⟨G, rfl, g, p.1, p.2, h1, fun G1 v gv a1 a2 a3 a4 a5 => ?_⟩
    obtain ⟨a, rfl, isd⟩ := isD_of a2 a4 (by rw [a1]; exact h2) hd
    refine ⟨a, rfl, isd, G1, rfl, a2, q.1, q.2, by rw [a1]; exact h3, fun G2 y gy b1 b2 b3 b4 b5 => ?_⟩
    obtain ⟨a', vs, z1, dg, f⟩ := dget_of b2 (a4.keep b3) (by rw [b1]; exact h4) h5 b4.rep h6
    cases z1
    refine ⟨_, dg, ?_⟩
    split at e1
    · rename_i t ht
      split at e1
      · rename_i no
        cases e1
        rw [ht] at f
        obtain ⟨u, gt, f1, f2⟩ := f
        have ge := Rep.noOw _ _ _ no f2
        rw [ge] at f2
        rw [f1]
        exact k G2 u [] b1 b2 (a3.trans b3) (.bare f2) New.nil
      · cases e1
    · rename_i ht
      cases e1
      rw [ht] at f
      have f : valV vs kk = none := f
      rw [f]
      exact k G2 .non [] b1 b2 (a3.trans b3) (.bare ⟨rfl, rfl⟩) New.nil
theorem ex_get2 {da : DO} {db dc : DE} {c : Expr} {ec : Bool} {apos cpos : Pos} (hu : X.A.units + 64 < cLine) (ho : OX ca X o ea da) (hb : EX ca X b eb db) (hc : EX ca X c ec dc) (m : M2 X o "get" apos b c cpos := by exact ⟨rfl, rfl, rfl, rfl⟩) : EX ca X (.Call (.Attribute o "get" apos) [b, c] [] cpos) (ea || (eb || ec)) (dGet2 da db dc) :=
  PE.imp (pe_dget2 (by omega) ho hb hc m) fun σ H Q w => by
    obtain ⟨G, rfl, g, z, S', e1, k⟩ := w
    obtain ⟨p, h1, e1⟩ := Option.bind_eq_some_iff.mp e1
    obtain ⟨x0, h2, e1⟩ := Option.bind_eq_some_iff.mp e1
    split at e1
    case isFalse => cases e1
    rename_i hd
    obtain ⟨q, h3, e1⟩ := Option.bind_eq_some_iff.mp e1
    obtain ⟨rr, h3', e1⟩ := Option.bind_eq_some_iff.mp e1
    obtain ⟨x, h4, e1⟩ := Option.bind_eq_some_iff.mp e1
    obtain ⟨kvs, h5, e1⟩ := Option.bind_eq_some_iff.mp e1
    obtain ⟨kk, h6, e1⟩ := Option.bind_eq_some_iff.mp e1
    refine ⟨G, rfl, g, p.1, p.2, h1, fun G1 v gv a1 a2 a3 a4 a5 => ?_⟩
    obtain ⟨a, rfl, isd⟩ := isD_of a2 a4 (by rw [a1]; exact h2) hd
    refine ⟨a, rfl, isd, G1, rfl, a2, q.1, q.2, by rw [a1]; exact h3, fun G2 y gy b1 b2 b3 b4 b5 => ?_⟩
    refine ⟨G2, rfl, b2, rr.1, rr.2, by rw [b1]; exact h3', fun G3 d gd c1 c2 c3 c4 c5 => ?_⟩
    obtain ⟨a', vs, z1, dg, f⟩ := dget_of c2 ((a4.keep b3).keep c3) (by rw [c1]; exact h4) h5 (b4.step c3).rep h6
    cases z1
    refine ⟨_, dg, ?_⟩
    have st : Step (ea || (eb || ec)) G G3 := ((a3.trans b3).trans c3).weak fun h => by rw [Bool.or_assoc]; exact h
    split at e1
    · rename_i t ht
      split at e1
      · rename_i no
        cases e1
        rw [ht] at f
        obtain ⟨u, gt, f1, f2⟩ := f
        have ge := Rep.noOw _ _ _ no f2
        rw [ge] at f2
        rw [f1]
        exact k G3 u [] c1 c2 st (.bare f2) New.nil
      · cases e1
    · rename_i ht
      cases e1
      rw [ht] at f
      have f : valV vs kk = none := f
      rw [f]
      exact k G3 d gd c1 c2 st c4 (c5.step (a3.trans b3))
end
end TL

set_option Elab.async false
set_option linter.all false
set_option maxRecDepth 100000
/-! TL19: dicts walked. -/
namespace TL
open PySem PySem.Spec L2 PyProof.Rows
section
variable {X : Cx} {ca : Str → Addr} {ef : Bool} {pos : Pos}
theorem PS.or {st : Stmt} {t1 t2 : TS} (h1 : PS X st t1) (h2 : PS X st t2) : PS X st fun D σ H => t1 D σ H ∨ t2 D σ H := ⟨fun pins s σ H D I h => by
  rcases h with h | h
  · exact h1.run pins s σ H D I h
  · exact h2.run pins s σ H D I h⟩
/-- what a for does, over what is walked -/
theorem for_gen {dg : DG} {is : List Nat} {db : DS} {D : Ends} {σ : L2.St} {G1 : Gh} {J : It} {ts : List T} {f : Fl} {S' : SS} (a2 : Good X.K ca σ G1) (wk : Walks X.K ca J ts G1) (e1 : forGo dg db ts G1.S = some (f, S'))
    (k : ∀ G' σ', G'.S = S' → Good X.K ca σ' G' → Step true G1 G' → match f with
      | .nx => D.nx σ' G'.H
      | .bk => D.bk σ' G'.H
      | .ct => D.ct σ' G'.H
      | .rt t => ∀ v g, Tmp G' v t g → New G1 g → D.rt v G'.H) :
    ∃ W : Nat → Nat → L2.St → Hp → Prop, (∃ m, W 0 m σ G1.H) ∧ ∀ (i m : Nat) (σ : L2.St) (H : Hp), W i m σ H → J.stop i H ∧ D.nx σ H ∨ J.go i H ∧ ∃ N : L2.St → Hp → Prop, (∀ (σ' : L2.St) (H' : Hp), N σ' H' → ∃ m', m' < m ∧ W (i + 1) m' σ' H') ∧ ∀ (x : V) (H' : Hp), J.yld i H x H' → liftG X.K ca is dg x σ H' fun σ2 H2 => liftS X.K ca db { nx := N, rt := D.rt, bk := D.nx, ct := N } σ2 H2 := by
  refine ⟨fun i m σ' H' => ∃ G', G'.H = H' ∧ Good X.K ca σ' G' ∧ Step true G1 G' ∧ m = ts.length - i ∧ i ≤ ts.length ∧ forGo dg db (ts.drop i) G'.S = some (f, S'), ⟨ts.length, G1, rfl, a2, Step.refl _, by simp, Nat.zero_le _, by rw [List.drop_zero]; exact e1⟩, ?_⟩
  rintro i m σ' H' ⟨G', rfl, gg, st, rfl, hi, e⟩
  obtain ⟨w1, w2⟩ := wk G' σ' gg st
  by_cases hlt : i < ts.length
  · right
    have ht : ts[i]? = some ts[i] := List.getElem?_eq_getElem hlt
    obtain ⟨go, yl⟩ := w1 i _ ht
    rw [List.drop_eq_getElem_cons hlt] at e
    obtain ⟨S1, e2, e⟩ := Option.bind_eq_some_iff.mp (show (dg ts[i] G'.S).bind _ = some (f, S') from e)
    obtain ⟨q, e3, e⟩ := Option.bind_eq_some_iff.mp e
    refine ⟨go, fun σ'' H'' => ∃ G'', G''.H = H'' ∧ Good X.K ca σ'' G'' ∧ Step true G1 G'' ∧ forGo dg db (ts.drop (i + 1)) G''.S = some (f, S'), fun σ'' H'' ⟨G'', b1, b2, b3, b4⟩ => ⟨ts.length - (i + 1), by omega, G'', b1, b2, b3, rfl, hlt, b4⟩, fun x H'' y => ?_⟩
    obtain ⟨G2, rfl, b1, b2, b3, b4⟩ := yl x H'' y
    refine ⟨G2, ts[i], [], rfl, b2, b4, S1, by rw [b1]; exact e2, fun G3 σ3 c1 c2 c3 _ _ => ?_⟩
    have st3 : Step true G1 G3 := c3 G1 true (st.trans b3) New.nil
    refine ⟨G3, rfl, c2, q.1, q.2, by rw [c1]; exact e3, fun G4 σ4 d1 d2 d3 => ?_⟩
    have st4 : Step true G1 G4 := st3.trans d3
    cases hq : q.1 with
    | nx => rw [hq] at e; exact ⟨G4, rfl, d2, st4, by rw [d1]; exact e⟩
    | ct => rw [hq] at e; exact ⟨G4, rfl, d2, st4, by rw [d1]; exact e⟩
    | bk =>
      rw [hq] at e
      cases e
      exact k G4 σ4 d1 d2 st4
    | rt r =>
      rw [hq] at e
      cases e
      exact fun v gv m n => k G4 σ4 d1 d2 st4 v gv m (n.step st3)
  · left
    have e0 : i = ts.length := by omega
    subst e0
    rw [List.drop_length] at e
    cases e
    exact ⟨w2, k G' σ' rfl gg st⟩
end
/-! ### the lock -/
section
variable {K : PySem.W.Frag} {ca : Str → Addr} {σ : L2.St} {G : Gh}
def Gh.lock (G : Gh) (p : Addr) (o : HO) : Gh := { G with H := upd G.H p o }
theorem Good.lock (g : Good K ca σ G) {p : Addr} {vs : List (Key × V)} {o : HO} (hP : G.P p = some (.dK vs)) (ho : o = .dK vs ∨ ∃ od, o = .frz od (.dK vs)) : Good K ca σ (G.lock p o) := by
  have nf : ∀ k, p ∉ G.fp k := fun k m => by rw [g.pn k p m] at hP; cases hP
  have na : p ∉ G.ad := fun m => by rw [g.adp p m] at hP; cases hP
  have ex : ∀ gg : List Addr, p ∉ gg → Ex G.toHc (G.lock p o).toHc gg := fun gg n => ⟨rfl, rfl, Same.refl _, Same.refl _, fun a m u e => by
    show upd G.H p o a = _
    rw [upd_ne fun z => n (by rw [← z]; exact m)]; exact e, ⟨[], by show G.ad = _; simp⟩⟩
  refine { g with ph := fun a u e => ?_, sl := fun i t e => ?_, ob := fun n b e => ?_ }
  · show upd G.H p o a = some u ∨ ∃ od vs, u = .dK vs ∧ upd G.H p o a = some (.frz od u)
    by_cases h : a = p
    · subst h
      have e : G.P a = some u := e
      rw [hP] at e
      cases e
      rw [upd_same]
      rcases ho with rfl | ⟨od, rfl⟩
      · exact .inl rfl
      · exact .inr ⟨od, vs, rfl, rfl⟩
    · rw [upd_ne h]; exact g.ph a u e
  · obtain ⟨v, a, r⟩ := g.sl i t e
    exact ⟨v, a, Rep.ex _ _ _ (ex _ (nf _)) r⟩
  · obtain ⟨q, a, r⟩ := g.ob n b e
    refine ⟨q, a, r.ex (ex _ fun m => ?_)⟩
    rcases List.mem_cons.mp m with z | m
    · subst z; exact na (List.mem_of_getElem? a)
    · exact nf _ m
/-- what was walked under the lock, seen from outside -/
theorem Step.unlock {G G' : Gh} {p : Addr} {vs : List (Key × V)} {od : Obj} (hP : G.P p = some (.dK vs)) (hH : G.H p = some (.dK vs)) (s : Step true (G.lock p (.frz od (.dK vs))) G') : Step true G (G'.lock p (.dK vs)) where
  k := s.k
  c := s.c
  f := s.f
  p := s.p
  fnew := fun a o e => by
    rcases s.fnew a o e with h | h | h
    · exact .inl h
    · have h : upd G.H p (.frz od (.dK vs)) a = none := h
      by_cases z : a = p
      · rw [z, upd_same] at h; cases h
      · rw [upd_ne z] at h; exact .inr (.inl h)
    · exact .inr (.inr h)
  pnew := fun a o e => by
    rcases s.pnew a o e with h | h | h
    · exact .inl h
    · have h : upd G.H p (.frz od (.dK vs)) a = none := h
      by_cases z : a = p
      · rw [z, upd_same] at h; cases h
      · rw [upd_ne z] at h; exact .inr (.inl h)
    · exact .inr (.inr h)
  fr := fun a o e h1 h2 => by
    show upd G'.H p _ a = _
    by_cases z : a = p
    · subst z; rw [upd_same]; rw [hH] at e; exact e
    · rw [upd_ne z]
      exact s.fr a o (by show upd G.H p _ a = _; rw [upd_ne z]; exact e) h1 h2
  dom := fun a h => by
    show upd G'.H p _ a ≠ none
    by_cases z : a = p
    · rw [z, upd_same]; simp
    · rw [upd_ne z]
      exact s.dom a (by show upd G.H p _ a ≠ none; rw [upd_ne z]; exact h)
  ad := s.ad
  anew := fun a m => by
    rcases s.anew a m with h | h | h
    · exact .inl h
    · have h : upd G.H p (.frz od (.dK vs)) a = none := h
      by_cases z : a = p
      · rw [z, upd_same] at h; cases h
      · rw [upd_ne z] at h; exact .inr (.inl h)
    · exact .inr (.inr h)
  gnew := fun k a m => by
    rcases s.gnew k a m with h | h
    · exact .inl h
    · have h : upd G.H p (.frz od (.dK vs)) a = none := h
      by_cases z : a = p
      · rw [z, upd_same] at h; cases h
      · rw [upd_ne z] at h; exact .inr h
  q := fun e => by cases e
end
/-! ### for v in d.values(), for k, v in d.items(): d a name -/
def kT : Key → T
  | .inl i => .int i
  | .inr x => .str x
def valsOf (kvs : List (Key × T)) : List T := kvs.map (·.2)
def itemsD (kvs : List (Key × T)) : List T := kvs.map fun p => .tup [kT p.1, p.2]
/-- d, held for good from now on, walked -/
def sForD (i : Nat) (its : List (Key × T) → List T) (g : DG) (b : DS) : DS := fun S => (slot S i).bind fun t => match t.frz with
  | .dic _ kvs => forGo g b (its kvs) (setS S i (some t.frz))
  | _ => none
theorem noOwK_mem {kvs : List (Key × T)} (h : noOwK kvs = true) : ∀ p ∈ kvs, p.2.noOw = true := by
  induction kvs with
  | nil => intro p m; exact absurd m (by simp)
  | cons q kvs ih =>
    intro p m
    have h2 := Bool.and_eq_true_iff.mp (show (q.2.noOw && noOwK kvs) = true from h)
    rcases List.mem_cons.mp m with rfl | m
    · exact h2.1
    · exact ih h2.2 p m
theorem RepK.at {c : Hc} : ∀ {ts : List (Key × T)} {vs : List (Key × V)} {g : List Addr} {i : Nat} {p : Key × T}, RepK c ts vs g → ts[i]? = some p → ∃ v gt, vs[i]? = some (p.1, v) ∧ Rep c p.2 v gt
  | [], _, _, i, p, _, h => by simp at h
  | (k, t) :: ts, vs, g, 0, p, ⟨v, r, ga, gb, a, b, d, q⟩, h => by
    simp at h
    subst h a
    exact ⟨v, ga, rfl, d⟩
  | (k, t) :: ts, vs, g, i + 1, p, ⟨v, r, ga, gb, a, b, d, q⟩, h => by
    subst a
    obtain ⟨w, gt, h1, h2⟩ := RepK.at (i := i) q (by simpa using h)
    exact ⟨w, gt, by simpa using h1, h2⟩
section
variable {K : PySem.W.Frag} {ca : Str → Addr} {G : Gh}
theorem walks_vals {p : Addr} {o : Obj} {kvs : List (Key × T)} {vs : List (Key × V)} (hP : G.P p = some (.dK vs)) (g0 : (∀ k, p ∉ G.fp k) ∧ p ∉ G.ad) (hH : G.H p = some (.frz o (.dK vs))) (r : RepK G.toHc kvs vs []) (no : noOwK kvs = true) : Walks K ca (Itd p o vs) (valsOf kvs) G := by
  intro G' σ gd st
  have hH' : G'.H p = some (.frz o (.dK vs)) := st.fr p _ hH g0.1 g0.2
  have r' : RepK G'.toHc kvs vs [] := RepK.ex _ _ _ ⟨st.k, st.c, st.f, st.p, fun _ m => absurd m (by simp), st.ad⟩ r
  have ln : vs.length = kvs.length := r.len
  refine ⟨fun i t h => ?_, hH', by rw [ln]; simp [valsOf]⟩
  unfold valsOf at h
  rw [List.getElem?_map] at h
  cases hq : kvs[i]? with
  | none => rw [hq] at h; cases h
  | some q =>
    rw [hq] at h
    cases h
    obtain ⟨v, gt, h1, h2⟩ := r'.at hq
    have e3 := Rep.noOw _ _ _ (noOwK_mem no q (List.mem_of_getElem? hq)) h2
    rw [e3] at h2
    refine ⟨⟨hH', (List.getElem?_eq_some_iff.mp h1).1⟩, fun x H'' y => ?_⟩
    obtain ⟨rfl, k2, y2⟩ := y
    rw [h1] at y2
    cases y2
    exact ⟨G', rfl, rfl, gd, Step.refl _, .bare h2⟩
theorem walks_items {p : Addr} {o : Obj} {kvs : List (Key × T)} {vs : List (Key × V)} (hP : G.P p = some (.dK vs)) (g0 : (∀ k, p ∉ G.fp k) ∧ p ∉ G.ad) (hH : G.H p = some (.frz o (.dK vs))) (r : RepK G.toHc kvs vs []) (no : noOwK kvs = true) : Walks K ca (Iti p o vs) (itemsD kvs) G := by
  intro G' σ gd st
  have hH' : G'.H p = some (.frz o (.dK vs)) := st.fr p _ hH g0.1 g0.2
  have r' : RepK G'.toHc kvs vs [] := RepK.ex _ _ _ ⟨st.k, st.c, st.f, st.p, fun _ m => absurd m (by simp), st.ad⟩ r
  have ln : vs.length = kvs.length := r.len
  refine ⟨fun i t h => ?_, hH', by rw [ln]; simp [itemsD]⟩
  unfold itemsD at h
  rw [List.getElem?_map] at h
  cases hq : kvs[i]? with
  | none => rw [hq] at h; cases h
  | some q =>
    rw [hq] at h
    cases h
    obtain ⟨v, gt, h1, h2⟩ := r'.at hq
    have e3 := Rep.noOw _ _ _ (noOwK_mem no q (List.mem_of_getElem? hq)) h2
    rw [e3] at h2
    refine ⟨⟨hH', (List.getElem?_eq_some_iff.mp h1).1⟩, fun x H'' y => ?_⟩
    obtain ⟨T, k2, v2, y2, rfl, hT, rfl⟩ := y
    rw [h1] at y2
    cases y2
    obtain ⟨g2, s2⟩ := gd.newF (o := .tup [kV q.1, v]) hT
    have rk : Rep G'.toHc (kT q.1) (kV q.1) [] := by
      cases q.1 with
      | inl i => exact ⟨rfl, rfl⟩
      | inr x => exact ⟨rfl, rfl⟩
    exact ⟨G'.newF T (.tup [kV q.1, v]), rfl, rfl, g2, s2, gd.newT hT ⟨_, _, [], [], rfl, rfl, rk, v, [], [], [], rfl, rfl, h2, ⟨rfl, rfl⟩⟩ List.nodup_nil fun _ m => absurd m (by simp)⟩
end
section
variable {X : Cx} {ca : Str → Addr} {pos : Pos}
/-- the statement's rule, however what is walked is read -/
theorem forD_of {i : Nat} {its : List (Key × T) → List T} {wi : TI} {Jt : Addr → Obj → List (Key × V) → It} {dg : DG} {is : List Nat} {db : DS} {st : Stmt}
    (hw : ∀ (σ : L2.St) (H : Hp) (R : It → Hp → Prop) (p : Addr) (o : Obj) (vs : List (Key × V)), σ[i]? = some (some (.ref p)) → H p = some (.frz o (.dK vs)) → R (Jt p o vs) H → wi σ H R)
    (hk : ∀ (G : Gh) (p : Addr) (o : Obj) (kvs : List (Key × T)) (vs : List (Key × V)), G.P p = some (.dK vs) → (∀ k, p ∉ G.fp k) ∧ p ∉ G.ad → G.H p = some (.frz o (.dK vs)) → RepK G.toHc kvs vs [] → noOwK kvs = true → Walks X.K ca (Jt p o vs) (its kvs) G)
    (h : PS X st (tFor wi (liftG X.K ca is dg) (liftS X.K ca db))) : SX ca X st (sForD i its dg db) := PS.imp (PS.or h (ps_lock h)) fun D σ H w => by
  obtain ⟨G, rfl, g, f, S', e1, k⟩ := w
  obtain ⟨t, h0, e1⟩ := Option.bind_eq_some_iff.mp e1
  obtain ⟨v, hv, g2, s2, tm⟩ := g.ice (slot_some h0)
  have nf := noOw_frz t
  have rp := tm.rep
  generalize htf : t.frz = tf at e1 nf rp
  split at e1
  case h_2 => cases e1
  rename_i m kvs
  have key : ∃ p vs, v = .ref p ∧ (G.ice i t).P p = some (.dK vs) ∧ RepK (G.ice i t).toHc kvs vs [] ∧ noOwK kvs = true := by
    cases m with
    | sc => exact (show False from rp).elim
    | fz => obtain ⟨p, vs, a, b, d, q⟩ := rp; exact ⟨p, vs, a, g2.fp _ _ b, d, nf⟩
    | br => obtain ⟨p, vs, a, b, d, q⟩ := rp; exact ⟨p, vs, a, b, d, nf⟩
    | ow => cases nf
  obtain ⟨p, vs, rfl, hP, rk, no⟩ := key
  have e1' : forGo dg db (its kvs) (G.ice i t).S = some (f, S') := by
    show forGo dg db (its kvs) (G.τ.set i (some t.frz), G.O) = _
    rw [htf]; exact e1
  have nf : ∀ k, p ∉ (G.ice i t).fp k := fun k m => by rw [g2.pn k p m] at hP; cases hP
  have na : p ∉ (G.ice i t).ad := fun m => by rw [g2.adp p m] at hP; cases hP
  rcases g2.ph p _ hP with hH | ⟨od, vs', ev, hH⟩
  · refine .inr ⟨p, .dK vs, hH, trivial, fun od => ?_⟩
    have gL := g2.lock (o := .frz od (.dK vs)) hP (.inr ⟨od, rfl⟩)
    have rkL : RepK ((G.ice i t).lock p (.frz od (.dK vs))).toHc kvs vs [] := RepK.ex (c := (G.ice i t).toHc) _ _ _ ⟨rfl, rfl, Same.refl _, Same.refl _, fun _ m => absurd m (by simp), ⟨[], by show (G.ice i t).ad = _; simp⟩⟩ rk
    refine hw σ _ _ p od vs hv upd_same (for_gen gL (hk _ p od kvs vs hP ⟨nf, na⟩ upd_same rkL no) e1' fun G' σ' a1 a2 a3 => ?_)
    have hl : G'.H p = some (.frz od (.dK vs)) := a3.fr p _ upd_same nf na
    have hP' : G'.P p = some (.dK vs) := a3.p _ _ hP
    have gU := a2.lock (o := .dK vs) hP' (.inl rfl)
    have sU : Step true (G.ice i t) (G'.lock p (.dK vs)) := Step.unlock hP hH a3
    have k2 := k (G'.lock p (.dK vs)) σ' a1 gU (s2.trans sU)
    cases f with
    | nx => exact ⟨hl, k2⟩
    | bk => exact ⟨hl, k2⟩
    | ct => exact ⟨hl, k2⟩
    | rt tt =>
      intro v gg mm nn
      have pg : p ∉ gg := fun m => by rw [(mm.out p m).2.2] at hP'; cases hP'
      refine ⟨hl, k2 v gg ⟨Rep.ex (c := G'.toHc) _ _ _ ⟨rfl, rfl, Same.refl _, Same.refl _, fun a m u e => by show upd G'.H p _ a = _; rw [upd_ne fun z => pg (by rw [← z]; exact m)]; exact e, ⟨[], by show G'.ad = _; simp⟩⟩ mm.rep, mm.nd, mm.out⟩ ?_⟩
      have n2 : New (G.ice i t) gg := fun a m => by
        rcases nn a m with h | h
        · have h : upd (G.ice i t).H p (.frz od (.dK vs)) a = none := h
          rw [upd_ne fun z => pg (by rw [← z]; exact m)] at h
          exact .inl h
        · exact .inr h
      exact n2.step s2
  · cases ev
    refine .inl (hw σ _ _ p od vs hv hH (for_gen (G1 := G.ice i t) g2 (hk (G.ice i t) p od kvs vs hP ⟨nf, na⟩ hH rk no) e1' fun G' σ' a1 a2 a3 => ?_))
    have k2 := k G' σ' a1 a2 (s2.trans a3)
    cases f with
    | nx => exact k2
    | bk => exact k2
    | ct => exact k2
    | rt tt => exact fun v gg mm nn => k2 v gg mm (nn.step s2)
theorem sx_forVals {i : Nat} {o tg : Expr} {body : List Stmt} {apos cpos : Pos} {dg : DG} {is : List Nat} {db : DS} (hp : PassesOwn (model X.prog X.w) X.A X.env X.xe) (hc : X.calm = true) (ho : PE X o (tVar i)) (hg : GX ca X tg is dg) (hb : BX ca X body db) (h1 : attributeBase o "values" X.env (eval o X.env) = eval o X.env := by rfl) (h2 : (apos.endLine == cpos.line) = true := by rfl)
    (hs : ∀ x, foldedSetIterable (.Call (.Attribute o "values" apos) [] [] cpos) X.env x = pure x := by intro _; rfl) : SX ca X (.For tg (.Call (.Attribute o "values" apos) [] [] cpos) body [] pos) (sForD i valsOf dg db) :=
  forD_of (Jt := Itd) (fun σ H R p o vs h1 h2 h3 => ⟨.ref p, h1, p, o, vs, rfl, h2, h3⟩) (fun G p o kvs vs a b c d e => walks_vals a b c d e) (ps_for hp hc (pi_values ho h1 h2) hg hb hs)
theorem sx_forItems {i : Nat} {o : Expr} {elts : List Expr} {kk : Nat} {tpos : Pos} {body : List Stmt} {apos cpos : Pos} {dg : DG} {is : List Nat} {db : DS} (hp : PassesOwn (model X.prog X.w) X.A X.env X.xe) (hc : X.calm = true) (ho : PE X o (tVar i)) (hg : GX ca X (.Tuple elts kk tpos) is dg) (hb : BX ca X body db) (h1 : attributeBase o "items" X.env (eval o X.env) = eval o X.env := by rfl) (h2 : (apos.endLine == cpos.line) = true := by rfl)
    (hs : ∀ x, foldedSetIterable (.Call (.Attribute o "items" apos) [] [] cpos) X.env x = pure x := by intro _; rfl) : SX ca X (.For (.Tuple elts kk tpos) (.Call (.Attribute o "items" apos) [] [] cpos) body [] pos) (sForD i itemsD dg db) :=
  forD_of (Jt := Iti) (fun σ H R p o vs h1 h2 h3 => ⟨.ref p, h1, p, o, vs, rfl, h2, h3⟩) (fun G p o kvs vs a b c d e => walks_items a b c d e) (ps_for hp hc (pi_items ho h1 h2) hg hb hs)
end
end TL

set_option Elab.async false
set_option linter.all false
set_option maxRecDepth 100000
/-! TL20: sorted(xs), xs alike data. -/
namespace TL
open PySem PySem.Spec PyProof.Rows L2

/-- the things xs by their data ds -/
def sortT {α : Type} (xs : List α) (ds : List PyData) : List α := ((xs.zip ds).mergeSort (PySem.W.dataLe false Prod.snd)).map Prod.fst
def headT : PyData → Bool
  | .tuple (_ :: _) => true
  | _ => false
def bareD : PyData → Bool
  | .none => false
  | .tuple _ => false
  | _ => true
/-- data that can be sorted: all of them alike; tuples that begin with something, or none of them a tuple or None -/
def okSort (ds : List PyData) : Bool := (ds.all fun d => ds.all fun e => PySem.W.alike d e) && (ds.all headT || ds.all bareD) && ds.all fun d => decide (d.depth ≤ 50)
theorem okSort_iff {ds : List PyData} (h : okSort ds = true) : PySem.W.AllAlike ds ∧ PySem.W.Sortable ds ∧ ∀ d ∈ ds, d.depth ≤ 50 := by
  obtain ⟨h1, h3⟩ := Bool.and_eq_true_iff.mp h
  obtain ⟨h1, h2⟩ := Bool.and_eq_true_iff.mp h1
  refine ⟨fun d m e n => List.all_eq_true.mp (List.all_eq_true.mp h1 d m) e n, ?_, fun d m => of_decide_eq_true (List.all_eq_true.mp h3 d m)⟩
  rcases Bool.or_eq_true_iff.mp h2 with q | q
  · refine .inl fun d m => ?_
    have z := List.all_eq_true.mp q d m
    unfold headT at z
    split at z
    · exact ⟨_, _, rfl⟩
    · cases z
  · refine .inr fun d m => ?_
    have z := List.all_eq_true.mp q d m
    refine ⟨?_, ?_⟩
    · rintro rfl; cases z
    · rintro xs rfl; cases z
theorem sortT_len {α : Type} {xs : List α} {ds : List PyData} (h : xs.length = ds.length) : (sortT xs ds).length = xs.length := by
  unfold sortT
  rw [List.length_map, List.length_mergeSort, List.length_zip, h, Nat.min_self]
/-- one shuffle for all: the things and what they stand for -/
theorem sortT_both {α β : Type} {xs : List α} {ys : List β} {ds : List PyData} (h : xs.length = ds.length) (h2 : ys.length = xs.length) : ∃ S : List (α × β), S.Perm (xs.zip ys) ∧ sortT xs ds = S.map Prod.fst ∧ sortT ys ds = S.map Prod.snd := by
  let zz := (xs.zip ys).zip ds
  let S := zz.mergeSort (PySem.W.dataLe false Prod.snd)
  have e1 : (S.map fun z => (z.1.1, z.2)) = (xs.zip ds).mergeSort (PySem.W.dataLe false Prod.snd) := by
    refine (List.map_mergeSort (r := PySem.W.dataLe false Prod.snd) (s := PySem.W.dataLe false Prod.snd) (f := fun z : (α × β) × PyData => (z.1.1, z.2)) (l := zz) (fun a _ b _ => rfl)).trans ?_
    congr 1
    apply List.ext_getElem
    · simp [zz, h2]
    · intro i p q; simp [zz]
  have e2 : (S.map fun z => (z.1.2, z.2)) = (ys.zip ds).mergeSort (PySem.W.dataLe false Prod.snd) := by
    refine (List.map_mergeSort (r := PySem.W.dataLe false Prod.snd) (s := PySem.W.dataLe false Prod.snd) (f := fun z : (α × β) × PyData => (z.1.2, z.2)) (l := zz) (fun a _ b _ => rfl)).trans ?_
    congr 1
    apply List.ext_getElem
    · simp [zz, h2]
    · intro i p q; simp [zz]
  refine ⟨S.map Prod.fst, ?_, ?_, ?_⟩
  · refine ((List.mergeSort_perm zz _).map Prod.fst).trans ?_
    rw [List.map_fst_zip (by simp [h, h2])]
  · unfold sortT
    rw [← e1, List.map_map, List.map_map] <;> rfl
  · unfold sortT
    rw [← e2, List.map_map, List.map_map] <;> rfl
theorem Reps.sortT {c : Hc} {ts : List T} {vs : List V} {ds : List PyData} (r : Reps c ts vs []) (n : noOws ts = true) (h : ts.length = ds.length) : Reps c (sortT ts ds) (TL.sortT vs ds) [] := by
  obtain ⟨S, p, e1, e2⟩ := sortT_both (ys := vs) h r.len
  rw [e1, e2]
  refine r.sub n (by rw [List.length_map, List.length_map]) fun i u w hu hw => ?_
  rw [List.getElem?_map] at hu hw
  cases hs : S[i]? with
  | none => rw [hs] at hu; cases hu
  | some z =>
    rw [hs] at hu hw
    cases hu
    cases hw
    obtain ⟨j, hj, e⟩ := List.mem_iff_getElem.mp (p.mem_iff.mp (List.mem_of_getElem? hs))
    rw [List.getElem_zip] at e
    rw [List.length_zip] at hj
    refine ⟨j, ?_, ?_⟩
    · rw [List.getElem?_eq_getElem (by omega), ← e]
    · rw [List.getElem?_eq_getElem (by omega), ← e]
theorem dp_len {K : PySem.W.Frag} {H : Hp} : ∀ {vs : List V} {ds : List PyData}, DpAll K H vs ds → vs.length = ds.length
  | _, _, .nil => rfl
  | _, _, .cons _ h => by rw [List.length_cons, List.length_cons, dp_len h]
theorem toPs_len : ∀ {ts : List T} {ds : List PyData}, toPs ts = some ds → ts.length = ds.length
  | [], ds, h => by cases h; rfl
  | t :: ts, ds, h => by
    obtain ⟨d, h1, h⟩ := Option.bind_eq_some_iff.mp h
    obtain ⟨es, h2, h⟩ := Option.bind_eq_some_iff.mp h
    cases h
    rw [List.length_cons, List.length_cons, toPs_len h2]
theorem vals_each : ∀ {xs : List V} {us : List Value} {ds : List PyData}, Vals xs us → xs.length = ds.length → PySem.W.EachIs (fun v (b : V × PyData) => RelV b.1 v) us (xs.zip ds)
  | _, _, [], .nil, _ => .nil
  | _, _, d :: ds, .nil, h => by cases h
  | _, _, [], .cons _ _, h => by cases h
  | _, _, d :: ds, .cons r t, h => .cons r (vals_each t (by simpa using h))
theorem reads_each {h : Heap} : ∀ {xs : List V} {us : List Value} {ds : List PyData} {as : List Addr}, ReadsAll h us ds as → xs.length = us.length → PySem.W.EachIs (fun v (b : V × PyData) => ∃ as, Reads h v b.2 as) us (xs.zip ds)
  | [], _, _, _, .nil, _ => .nil
  | _ :: _, _, _, _, .nil, h => by cases h
  | [], _, _, _, .cons _ _, h => by cases h
  | _ :: _, _, _, _, .cons r t, h => .cons ⟨_, r⟩ (reads_each t (by simpa using h))
theorem each_vals : ∀ {us : List Value} {bs : List (V × PyData)}, PySem.W.EachIs (fun v (b : V × PyData) => RelV b.1 v) us bs → Vals (bs.map Prod.fst) us
  | _, _, .nil => .nil
  | _, _, .cons r t => .cons r (each_vals t)
/-- sorted(xs): xs a list of alike data -/
def rSortD (K : PySem.W.Frag) : List V → Hp → VK → Prop := fun vs H Q => ∃ (a : Addr) (xs : List V) (ds : List PyData), vs = [V.ref a] ∧ SqL K H a xs ∧ DpAll K H xs ds ∧ okSort ds = true ∧ ∀ p, H p = none → Q (.ref p) (upd H p (.lst (sortT xs ds)))
section
variable {X : Cx} {ca : Str → Addr}
theorem cr_sortedD (hu : X.A.units + 64 < cLine) : CallR X (.builtin "sorted") (rSortD X.K) := by
  intro pins s σ H vs us Q I r h
  obtain ⟨a, xs, ds, rfl, hs, hd, ok, q⟩ := h
  obtain ⟨its, rv, hl, hz⟩ := I.list hs
  obtain rfl := Vals.ref1 r
  obtain ⟨as, hr⟩ := Dp.readsAll I ds xs its hd rv
  obtain ⟨k1, k2, k3⟩ := okSort_iff ok
  have hlen : xs.length = ds.length := dp_len hd
  have em : (xs.zip ds).map Prod.snd = ds := List.map_snd_zip (by omega)
  have hzl : (xs.zip ds).length = xs.length := by rw [List.length_zip]; omega
  refine PySem.W.sorted_data (enc := Prod.snd) hl.isList (vals_each rv hlen) (reads_each hr rv.length) (by rw [em]; exact k1) (by rw [em]; exact k2) (by rw [hzl]; exact hz) (fun b hb => ?_) fun out ho eo => ?_
  · have := k3 b.2 (List.of_mem_zip hb).2
    omega
  · obtain ⟨ep, he⟩ := PyProof.Rows.sortedAll_at s.heap its out.toArray
    have rv2 : Vals (sortT xs ds) out := each_vals eo
    exact ⟨.ref _, upd H (s.heap.objs.size + 1) (.lst (sortT xs ds)), I.laid (t' := s.toks) (fun _ _ => PyProof.Rows.sortedAll_old) (Nat.le_succ _) ⟨by rw [sortT_len hlen]; exact hz, out, ep, rv2, he⟩, rfl, q _ (I.hok.fresh (Nat.le_succ _))⟩
def fSorted : List T → Option T
  | [.lst _ xs] => if noOws xs then (toPs xs).bind fun ds => if okSort ds then some (.lst .ow (sortT xs ds)) else none else none
  | _ => none
theorem on_sorted : OpN X ca (rSortD X.K) fSorted := by
  intro σ G ts z vs Q g l e k
  unfold fSorted at e
  split at e
  · rename_i m xs
    split at e
    · rename_i no
      obtain ⟨ds, h1, e⟩ := Option.bind_eq_some_iff.mp e
      split at e
      · rename_i ok
        cases e
        obtain ⟨v, gv, rfl, r⟩ := look1 l
        obtain ⟨p, ws, gs, rfl, sq, rs, _, _⟩ := r.lstL g.fp g.ph
        have rs := rs.bare no
        refine ⟨p, ws, ds, rfl, by rw [← g.k]; exact sq, by rw [← g.k]; exact Reps.dp g.fp g.ph xs ws _ ds h1 rs, ok, ?_⟩
        exact finL g k (rs.sortT no (toPs_len h1))
      · cases e
    · cases e
  · cases e
end
end TL

set_option Elab.async false
set_option linter.all false
set_option maxRecDepth 100000
/-! TL21: sorted(xs, key=f), f a def of the module. -/
namespace TL
open PySem PySem.Spec PyProof.Rows L2

def keysGo (d : DF) : List T → List Ob → Option (List T × List Ob)
  | [], O => some ([], O)
  | t :: ts, O => (d [t] O).bind fun q => if q.1.noOw && q.1.noBr then (keysGo d ts q.2).bind fun r => some (q.1 :: r.1, r.2) else none
def dSortK (d : DF) (a : DE) : DE := fun S => (a S).bind fun p => match p.1 with
  | .lst _ xs => if noOws xs then (keysGo d xs p.2.2).bind fun q => (toPs q.1).bind fun ds => if okSort ds then some (.lst .ow (sortT xs ds), (p.2.1, q.2)) else none else none
  | _ => none
theorem keysGo_len {d : DF} : ∀ {ts : List T} {O : List Ob} {q : List T × List Ob}, keysGo d ts O = some q → q.1.length = ts.length
  | [], O, q, h => by cases h; rfl
  | t :: ts, O, q, h => by
    obtain ⟨r, h1, h⟩ := Option.bind_eq_some_iff.mp h
    split at h
    · obtain ⟨z, h2, h⟩ := Option.bind_eq_some_iff.mp h
      cases h
      rw [List.length_cons, List.length_cons, keysGo_len h2]
    · cases h
theorem gone (h : Heap) (k : Addr) : (h.update k fun o => ⟨o.cls, o.dict, .freed, o.slots⟩).get? k = none := by
  cases h
  rename_i objs l
  simp only [Heap.update, Heap.get?, Array.getElem?_modify]
  cases q : objs[k]? <;> simp

section
variable {X : Cx} {ca : Str → Addr}
/-- the key of one item -/
theorem key_call {k : Nat} {f : Addr} {fd : FuncData} {ps : List Str} {d : DF} {pins : List (Addr × Obj)} {σ0 σ : L2.St} {s : Shared} {G : Gh} {A : Around} {t z : T} {v : V} {u : Value} {O' : List Ob} (hp : ps.length = 1)
    (F : FnOk X.prog X.w X.K X.mg X.base CX0 k f fd ps (spT X.K ca ps.length d)) (hb : Binds X.K fd ps []) (hA : A.frames = X.A.frames) (hr : Room k A) (I : Inv X pins σ0 G.H s) (g : Good X.K ca σ G) (m : Tmp G v t []) (r : RelV v u) (h : d [t] G.O = some (z, O')) (zb : z.noBr = true) :
    wpAny (model X.prog X.w) A (call (.ref f) [u]) (EP X pins σ0 fun v' H' => ∃ G' g', G'.H = H' ∧ Good X.K ca σ G' ∧ Step true G G' ∧ G'.S = (G.τ, O') ∧ Tmp G' v' z g' ∧ New G g') (fun _ _ => False) s := by
  have sp : spT X.K ca ps.length d [v] G.H (fun v' H' => ∃ G' g', G'.H = H' ∧ Good X.K ca σ G' ∧ Step true G G' ∧ G'.S = (G.τ, O') ∧ Tmp G' v' z g' ∧ New G g') E0 :=
    call_core (as := [.tmp t]) (gv := []) g g (Step.refl (ef := true) G) ⟨v, [], [], [], rfl, rfl, m, ⟨rfl, rfl⟩, by simp⟩ New.nil rfl h zb (by rw [hp]; rfl) fun G' v' g' b1 b2 b3 b4 b5 => ⟨G', g', rfl, b2, b3, b1, b4, b5⟩
  have r2 : Vals [v] [u] := .cons r .nil
  have e0 : Env0 X.prog X.w X.K X.mg X.base A X.stack s G.H := { I.env0 with frames := hA.trans I.env0.frames }
  refine wpAny_call (codeAny_mono (F.run A X.stack s G.H ⟨[u], []⟩ [u] [v] _ E0 hr e0 (hb s [u] I.kIn (by simp [hp])) r2 sp) fun r s' hq => ?_)
  cases r with
  | error e => exact False.elim hq
  | ok fl =>
    cases fl with
    | ret u => exact I.after hq
    | next => exact False.elim hq
    | brk => exact False.elim hq
    | cont => exact False.elim hq
def rSortK (X : Cx) (ca : Str → Addr) (f : Addr) (d : DF) : List V → List V → Hp → VK → Prop := fun vs zs H Q => zs = [.ref f] ∧ ∃ (σ : L2.St) (G : Gh), G.H = H ∧ Good X.K ca σ G ∧ ∃ a m ts g, vs = [.ref a] ∧ Tmp G (.ref a) (.lst m ts) g ∧ noOws ts = true ∧
  ∃ ks O' ds, keysGo d ts G.O = some (ks, O') ∧ toPs ks = some ds ∧ okSort ds = true ∧ ∀ G' v g', G'.S = (G.τ, O') → Good X.K ca σ G' → Step true G G' → Tmp G' v (.lst .ow (sortT ts ds)) g' → New G g' → Q v G'.H
/-- where the keys stand so far -/
structure KeyAt (X : Cx) (ca : Str → Addr) (d : DF) (pins : List (Addr × Obj)) (σ0 σ : L2.St) (G : Gh) (a kS : Addr) (e1 : Nat) (all : List T) (O' : List Ob) (rest : List T) (s : Shared) (Gi : Gh) (ks : List T) (kvs : List V) (kA : Array Value) (c : Nat) : Prop where
  I : Inv X pins σ0 Gi.H s
  fa : FpOk X pins Gi.H a
  fk : FpOk X pins Gi.H kS
  nk : s.heap.get? kS = some (seqObj "list" kA c)
  na : s.heap.get? a = some (seqObj "list" #[] e1)
  g : Good X.K ca σ Gi
  st : Step true G Gi
  τ : Gi.τ = G.τ
  go : ∃ more, keysGo d rest Gi.O = some (more, O') ∧ ks ++ more = all
  rp : Reps Gi.toHc ks kvs []
  vs : Vals kvs kA.toList
theorem FpOk.moved {pins : List (Addr × Obj)} {H H' : Hp} {b : Addr} (f : FpOk X pins H b) (h : H' b = none) : FpOk X pins H' b := ⟨h, f.2⟩
theorem cr_sortedK {k : Nat} {f : Addr} {fd : FuncData} {ps : List Str} {d : DF} (hp : ps.length = 1) (F : FnOk X.prog X.w X.K X.mg X.base CX0 k f fd ps (spT X.K ca ps.length d)) (hb : Binds X.K fd ps []) (hr : Room (k + 2) X.A) : CallRK X (.builtin "sorted") [Str.ofString "key"] (rSortK X ca f d) := by
  intro pins s σ0 H vs zs us ws Q I r rz h
  obtain ⟨rfl, σ, G, rfl, g, a0, m, ts, gt, rfl, tm, no, all, O', ds, hk, hd, ok, k⟩ := h
  obtain ⟨p, vs, gs, e1, sq, rs, _, _⟩ := tm.rep.lstL g.fp g.ph
  cases e1
  have rs := rs.bare no
  obtain ⟨k1, k2, k3⟩ := okSort_iff ok
  obtain ⟨its, rv, hl, hz⟩ := I.list (a := a0) (xs := vs) (by rw [← g.k]; exact sq)
  obtain rfl := Vals.ref1 r
  obtain ⟨w1, rfl, e1⟩ := vals1 rz
  obtain rfl : w1 = Value.ref f := e1
  have hzi : its.length ≤ sizeLine := by rw [← rv.length]; exact hz
  have htv : ts.length = vs.length := rs.len.symm
  have hal : all.length = ts.length := keysGo_len hk
  have had : all.length = ds.length := toPs_len hd
  have hur := hr.units
  refine PySem.W.sorted_of_sort hl.isList hzi (ksk_s1 _ _) (fun _ => ksk_l1 _ _) fun E' => ?_
  generalize ha : s.heap.objs.size + 1 = a
  have hc0 := PySem.W.copyHeap_at s.heap its
  rw [ha] at hc0
  have old0 : ∀ b o, s.heap.get? b = some o → (PySem.W.copyHeap s.heap its).get? b = some o := fun b o e => PySem.W.copyHeap_old e
  have hne : ∀ b o, s.heap.get? b = some o → b ≠ a := fun b o e => by rw [← ha]; exact Nat.ne_of_lt (Nat.lt_succ_of_lt (Heap.lt_size e))
  obtain ⟨ec, ho1⟩ : ∃ ec, ((PySem.W.copyHeap s.heap its).update a (Obj.mapSeq fun _ => (#[] : Array Value))).get? a = some (seqObj "list" #[] ec) := ⟨_, get?_update_seq hc0 fun _ => #[]⟩
  show wpAny (model X.prog X.w) X.A.in1.in1 (ksk_tree a (.ref f) false) _ _ _
  unfold ksk_tree
  refine wpAny_bind (listItems_at hc0 rfl ?_)
  refine wpAny_bind (listUpdate_at hc0 rfl ?_ (by rw [List.size_toArray]; exact hzi) (Nat.zero_le _))
  refine wpAny_bind (seqEpoch_at ho1 rfl ?_)
  refine wpAny_bind (wpAny_newTuple ?_ (by show its.length ≤ _; exact hzi))
  refine wpAny_bind (wpAny_newList ?_ (Nat.zero_le _))
  refine wpAny_holding ?_
  generalize hkS : (((PySem.W.copyHeap s.heap its).update a (Obj.mapSeq fun _ => (#[] : Array Value))).push (seqObj "tuple" its.toArray 0)).objs.size = kS
  have hsz0 : (PySem.W.copyHeap s.heap its).objs.size = s.heap.objs.size + 2 := by
    unfold PySem.W.copyHeap
    rw [size_push', Heap.size_update, size_push']
  have hkv : kS = s.heap.objs.size + 3 := by rw [← hkS, size_push', Heap.size_update, hsz0]
  let s1 : Shared := { s with heap := (((PySem.W.copyHeap s.heap its).update a (Obj.mapSeq fun _ => (#[] : Array Value))).push (seqObj "tuple" its.toArray 0)).push (seqObj "list" #[] 0) }
  show wpAny (model X.prog X.w) X.A.in1.in1 (ksk_rest a (.ref f) false its.toArray ec (.ref kS)) _ E' s1
  have keep1 : ∀ b o, s.heap.get? b = some o → s1.heap.get? b = some o := fun b o e => by
    refine Heap.get?_push_of_some _ (Heap.get?_push_of_some _ ?_)
    rw [Heap.get?_update_ne _ _ _ _ (hne b o e)]
    exact old0 b o e
  have I1 : Inv X pins σ0 G.H s1 := I.kept (t' := s.toks) keep1
  have fa : FpOk X pins G.H a := I.fpOk (show s.heap.objs.size ≤ a by omega) (I.hok.fresh (show s.heap.objs.size ≤ a by omega))
  have fk : FpOk X pins G.H kS := I.fpOk (show s.heap.objs.size ≤ kS by omega) (I.hok.fresh (show s.heap.objs.size ≤ kS by omega))
  have hka : kS ≠ a := by omega
  have nk1 : s1.heap.get? kS = some (seqObj "list" #[] 0) := by
    rw [← hkS]
    exact Heap.get?_push_size _ rfl
  have na1 : s1.heap.get? a = some (seqObj "list" #[] ec) := Heap.get?_push_of_some _ (Heap.get?_push_of_some _ ho1)
  have start : KeyAt X ca d pins σ0 σ G a kS ec all O' ts s1 G [] [] #[] 0 := ⟨I1, fa, fk, nk1, na1, g, Step.refl _, rfl, ⟨all, hk, rfl⟩, ⟨rfl, rfl⟩, .nil⟩
  unfold ksk_rest
  refine wpAny_bind (wpAny_rule ?_)
  first
    | rw [List.forIn_toArray]
    | (rw [← Array.forIn_toList]; simp only [List.toList_toArray])
    | rw [← Array.forIn_toList]
  refine wpAny_bind (ksk_fold (fun i s' => ∃ Gi ks kvs kA c, ks.length = i ∧ KeyAt X ca d pins σ0 σ G a kS ec all O' (ts.drop i) s' Gi ks kvs kA c) its 0 s1 ⟨G, [], [], #[], 0, rfl, start⟩ ?step ?done)
  case step =>
    rintro j x s' hx ⟨Gi, ks, kvs, kA, c, hl1, K⟩
    simp only [Nat.zero_add] at hl1 K ⊢
    have hj : j < its.length := (List.getElem?_eq_some_iff.mp hx).1
    have hjt : j < ts.length := by rw [htv, rv.length]; exact hj
    have edrop : ts.drop j = ts[j] :: ts.drop (j + 1) := List.drop_eq_getElem_cons hjt
    obtain ⟨more, go, eall⟩ := K.go
    rw [edrop] at go
    obtain ⟨q, h1, go⟩ := Option.bind_eq_some_iff.mp go
    split at go
    case isFalse => cases go
    rename_i hq
    obtain ⟨zno, zbr⟩ := Bool.and_eq_true_iff.mp hq
    obtain ⟨mo, h2, go⟩ := Option.bind_eq_some_iff.mp go
    cases go
    -- the item
    have rs' : Reps Gi.toHc ts vs [] := Reps.ex _ _ _ ⟨K.st.k, K.st.c, K.st.f, K.st.p, fun _ mm => absurd mm (by simp), K.st.ad⟩ rs
    obtain ⟨v, hv, tmv⟩ := tmp_item rs' no (List.getElem?_eq_getElem hjt)
    obtain ⟨u, hu, ru⟩ := rv.get hv
    rw [hx] at hu
    cases hu
    have hob : ∀ b ∈ [a, kS], ∃ o, s'.heap.get? b = some o ∧ ∀ v, o.data ≠ .cell v := fun b hb => by
      rcases List.mem_cons.mp hb with e | hb
      · exact ⟨_, by rw [e]; exact K.na, fun v z => by cases z⟩
      · exact ⟨_, by rw [List.mem_singleton.mp hb]; exact K.nk, fun v z => by cases z⟩
    have hfp : ∀ b ∈ [a, kS], FpOk X pins Gi.H b := fun b hb => by
      rcases List.mem_cons.mp hb with e | hb
      · rw [e]; exact K.fa
      · rw [List.mem_singleton.mp hb]; exact K.fk
    have Ip := K.I.pinned hfp hob
    refine wpAny_bind (wpAny_attempt (wpAny_mono (key_call hp F hb (A := X.A.in1.in1) rfl hr.in1.in1 Ip K.g tmv ru h1 zbr) (fun u2 s2 he => ?_) fun _ _ hF => hF.elim))
    obtain ⟨v2, H2, I2, r2, G2, g2, rfl, gd2, st2, S2, tm2, nw2⟩ := he
    have pa := I2.pin _ (List.mem_append_right _ (List.mem_append_right _ (mem_pinsAt (b := a) (by simp) K.na)))
    have pk := I2.pin _ (List.mem_append_right _ (List.mem_append_right _ (mem_pinsAt (b := kS) (by simp) K.nk)))
    have eg : g2 = [] := Rep.noOw _ _ _ zno tm2.rep
    subst eg
    try dsimp only
    have hz2 : kA.size ≤ its.length := by
      have q1 : kvs.length = kA.size := K.vs.length.trans Array.length_toList
      have q2 : kvs.length = ks.length := K.rp.len
      omega
    obtain ⟨c2, hc2⟩ : ∃ c2, (s2.heap.update kS (Obj.mapSeq (·.push u2))).get? kS = some (seqObj "list" (kA.push u2) c2) := ⟨_, get?_update_seq pk.1 (·.push u2)⟩
    refine wpAny_bind (listUpdate_at pk.1 rfl ?_ (Nat.le_trans hz2 hzi) (Nat.le_trans (Nat.le_of_eq (Array.size_push ..)) (Nat.succ_le_succ (Nat.le_trans hz2 hzi))))
    have fk2 : FpOk X pins G2.H kS := FpOk.moved K.fk pk.2.1
    have fa2 : FpOk X pins G2.H a := FpOk.moved K.fa pa.2.1
    have S2' : G2.τ = Gi.τ ∧ G2.O = q.2 := by
      have e1 := congrArg Prod.fst S2
      have e2 := congrArg Prod.snd S2
      exact ⟨e1, e2⟩
    refine wpAny_pure ⟨rfl, G2, ks ++ [q.1], kvs ++ [v2], kA.push u2, c2, by rw [List.length_append, hl1]; rfl, ?_⟩
    refine { I := I2.unpinned.turned (t' := s2.toks) (it := kS) (fun b o hb e => ?_) fk2.1 fk2.2.1 fk2.2.2.2.1 fk2.2.2.2.2.1 fk2.2.2.2.2.2, fa := fa2, fk := fk2, nk := hc2, na := ?_, g := gd2, st := (K.st.trans st2).weak (by simp), τ := S2'.1.trans K.τ, go := ⟨mo.1, by rw [S2'.2]; exact h2, by rw [← eall]; simp⟩, rp := ?_, vs := ?_ }
    · show (s2.heap.update kS _).get? b = some o
      rw [Heap.get?_update_ne _ _ _ _ hb]
      exact e
    · show (s2.heap.update kS _).get? a = _
      rw [Heap.get?_update_ne _ _ _ _ (Ne.symm hka)]
      exact pa.1
    · have rk : Reps G2.toHc ks kvs [] := Reps.ex _ _ _ ⟨st2.k, st2.c, st2.f, st2.p, fun _ mm => absurd mm (by simp), st2.ad⟩ K.rp
      exact rk.append (g' := []) ⟨v2, [], [], [], rfl, rfl, tm2.rep, rfl, rfl⟩
    · rw [Array.toList_push]
      exact K.vs.append (.cons r2 .nil)
  case done =>
    rintro s' ⟨Gn, ks, kvs, kA, c, hl1, K⟩
    simp only [Nat.zero_add] at hl1 K
    obtain ⟨more, go, eall⟩ := K.go
    have edrop : ts.drop its.length = [] := List.drop_eq_nil_of_le (by rw [htv, rv.length]; exact Nat.le_refl _)
    rw [edrop] at go
    cases go
    rw [List.append_nil] at eall
    subst eall
    have hda : DpAll X.K Gn.H kvs ds := by
      rw [← K.g.k]
      exact Reps.dp K.g.fp K.g.ph ks kvs [] ds hd K.rp
    obtain ⟨as, hrd⟩ := Dp.readsAll K.I ds kvs kA.toList hda K.vs
    have hkl : kA.toList.length = its.length := by
      rw [← K.vs.length, K.rp.len, hl1]
    have hkl2 : kA.size = its.length := by rw [← Array.length_toList]; exact hkl
    have hdl : ds.length = its.length := by rw [← had, hl1]
    have hke : PySem.W.EachIs (fun v e => ∃ as, Reads s'.heap v e as) kA.toList ds := by
      have e0 := PySem.W.readsAll_each (h := s'.heap) (fun z : PyData => z) (vs := kA.toList) (bs := ds) (by rw [List.map_id']; exact hrd)
      exact e0
    refine wpAny_bind (listItems_at K.nk rfl ?_)
    let h1 : Heap := s'.heap.update kS fun o => ⟨o.cls, o.dict, .freed, o.slots⟩
    have hh1 : ∀ b o, h1.get? b = some o → b ≠ kS ∧ s'.heap.get? b = some o := fun b o e => by
      by_cases q : b = kS
      · rw [q] at e
        rw [show h1.get? kS = none from gone _ _] at e
        cases e
      · refine ⟨q, ?_⟩
        rw [show h1.get? b = s'.heap.get? b from Heap.get?_update_ne _ _ _ _ q] at e
        exact e
    refine PySem.W.keyH_end (κ := PySem.W.dataKind s'.heap ds) (h₁ := h1) (vs := its) (b := false) (fun b o _ e => (hh1 b o e).2) (gone _ _) K.nk K.na hka (PySem.W.SortsAt.data hke k1 k2 fun d hd => ?_) hkl2 hzi fun h' tk c' kp hn => ?_
    · have := k3 d hd
      show X.A.units + 1 + 1 + d.depth < cLine
      omega
    refine ⟨rfl, ?_⟩
    have ko : PySem.W.KeyedOut false ((vs.zip ds).map Prod.snd) its (PySem.W.sortVals (PySem.W.dataKind s'.heap ds) false kA.toList its) := by
      rw [List.map_snd_zip (by rw [← hdl] at *; rw [rv.length]; omega)]
      exact ⟨s'.heap, kA.toList, k1, rfl, hke⟩
    have eo := PySem.W.keyedOut_each (R := fun v (b : V × PyData) => RelV b.1 v) (bs := vs.zip ds) Prod.snd ko (vals_each rv (by rw [rv.length, hdl]))
    have rv2 := each_vals eo
    -- behind the sort: both records have turned, the list is ours
    have I3 : Inv X pins σ0 Gn.H { s' with heap := h', toks := tk } := K.I.turnedL (ch := [a, kS]) (fun b o hb e => by
      have n1 : b ≠ a := fun z => hb (by simp [z])
      have n2 : b ≠ kS := fun z => hb (by simp [z])
      refine kp b o n1 ?_
      rw [show h1.get? b = s'.heap.get? b from Heap.get?_update_ne _ _ _ _ n2]
      exact e) fun b hb => by
      rcases List.mem_cons.mp hb with e | hb
      · rw [e]; exact K.fa
      · rw [List.mem_singleton.mp hb]; exact K.fk
    have hlen : (TL.sortT vs ds).length ≤ sizeLine := by rw [sortT_len (by rw [rv.length, hdl])]; exact hz
    have I4 := I3.take (h' := h') (t' := tk) (it := a) (o := .lst (TL.sortT vs ds)) (fun _ _ _ e => e) K.fa ⟨hlen, _, c', rv2, hn⟩
    refine ⟨.ref a, _, I4, rfl, ?_⟩
    have rs' : Reps Gn.toHc ts vs [] := Reps.ex _ _ _ ⟨K.st.k, K.st.c, K.st.f, K.st.p, fun _ mm => absurd mm (by simp), K.st.ad⟩ rs
    have hdt : ts.length = ds.length := by rw [hdl, htv, rv.length]
    have rso := rs'.sortT no hdt
    obtain ⟨g5, st5⟩ := K.g.newH (o := .lst (TL.sortT vs ds)) K.fa.1
    have nw : New Gn [a] := New.nil.cons K.fa.1
    exact k (Gn.newH a _) (.ref a) [a] (Prod.ext K.τ rfl) g5 ((K.st.trans st5).weak (by simp)) (K.g.newL K.fa.1 rso List.nodup_nil fun _ mm => absurd mm (by simp)) (nw.step K.st)
theorem ex_sortK {e : Expr} {q : Str} {ps : List Str} {kl : Nat} {d : DF} {da : DE} {p p2 pos : Pos} {kpos : Pos} {ef : Bool} (C : Callee X.prog X.w X.K X.mg X.base ca q ps kl d) (hp : ps.length = 1) (hr : Room (kl + 2) X.A) (hm : X.mg "sorted" = none) (h : EX ca X e ef da) (hg : Gl X "sorted" := by rfl) (hgq : Gl X q := by rfl) (hdq : (q == ("__debug__" : Str)) = false := by decide)
    (hs : starEach [e] X.env = [(false, eval e X.env)] := by rfl) (he : backTo pos (starEach [e] X.env) = (false, eval e X.env) :: backTo pos (starEach [] X.env) := by rfl) (hpl : (backTo pos (starEach [e] X.env)).any (·.1) = false := by rfl)
    (hall : (backToKw pos (keywordEach [⟨some "key", .Name q p2, kpos⟩] X.env)).all (·.1.isSome) = true := by rfl) (hnone : (backToKw pos (keywordEach [⟨some "key", .Name q p2, kpos⟩] X.env)).any (·.1.isNone) = false := by rfl) (hks : (backToKw pos (keywordEach [⟨some "key", .Name q p2, kpos⟩] X.env)).filterMap (·.1) = [Str.ofString "key"] := by rfl) :
    EX ca X (.Call (.Name "sorted" p) [e] [⟨some "key", .Name q p2, kpos⟩] pos) true (dSortK d da) := by
  obtain ⟨f, fd, hmf, hk, hb, F⟩ := C.ex
  refine PE.imp (pe_callBK (cr_sortedK hp F hb hr) hg hm (by decide +kernel) (pa_cons h pa_nil hs) (pk_cons (pe_glob (v := .ref f) hgq hmf rfl hdq) pk_nil) (by decide) (by decide) he hpl hall hnone hks) fun σ H Q w => ?_
  obtain ⟨G, rfl, g, z, S', e1, k⟩ := w
  obtain ⟨pq, h1, e1⟩ := Option.bind_eq_some_iff.mp e1
  split at e1
  · rename_i m ts heq
    split at e1
    · rename_i no
      obtain ⟨q2, h2, e1⟩ := Option.bind_eq_some_iff.mp e1
      obtain ⟨ds, h3, e1⟩ := Option.bind_eq_some_iff.mp e1
      split at e1
      · rename_i ok
        cases e1
        refine ⟨G, rfl, g, pq.1, pq.2, h1, fun G1 v gv a1 a2 a3 a4 a5 => ?_⟩
        rw [heq] at a4
        obtain ⟨p1, vs, gs, rfl, _, _, _, _⟩ := a4.rep.lstL a2.fp a2.ph
        refine ⟨rfl, σ, G1, rfl, a2, p1, m, ts, gv, rfl, a4, no, q2.1, q2.2, ds, by rw [show G1.O = pq.2.2 by rw [← a1]]; exact h2, h3, ok, fun G2 v2 g2 b1 b2 b3 b4 b5 => k G2 v2 g2 ?_ b2 ((a3.trans b3).weak (by simp)) b4 (b5.step a3)⟩
        rw [b1]
        show (G1.τ, q2.2) = (pq.2.1, q2.2)
        rw [← a1]
      · cases e1
    · cases e1
  · cases e1
end
end TL

set_option Elab.async false
set_option linter.all false
set_option maxRecDepth 100000
/-! TL22: sorted(d.values()). -/
namespace TL
open PySem PySem.Spec PyProof.Rows L2

def tSortVals (K : PySem.W.Frag) (td : TE) : TE := fun σ H Q => td σ H fun x H1 => ∃ a kvs ds, x = V.ref a ∧ Rd H1 a (.dK kvs) ∧ DpAll K H1 (kvs.map Prod.snd) ds ∧ okSort ds = true ∧ ∀ p, H1 p = none → Q (.ref p) (upd H1 p (.lst (sortT (kvs.map Prod.snd) ds)))
section
variable {X : Cx} {ca : Str → Addr}
theorem kv_vals {κ : Type} : ∀ {kvs : List (κ × V)} {vs : List (κ × Value)}, KV kvs vs → Vals (kvs.map Prod.snd) (vs.map Prod.snd) := fun {kvs vs} r => by
  unfold KV at r
  induction r with
  | nil => exact .nil
  | cons r t ih => exact .cons r.2 ih
variable {o : Expr} {p pos apos mpos : Pos} {td : TE}
theorem pe_sortVals (hc : X.calm = true) (hu : X.A.units + 64 < cLine) (hm : X.mg "sorted" = none) (hd : PE X o td) (hg : Gl X "sorted" := by rfl) (hbase : attributeBase o "values" X.env (eval o X.env) = eval o X.env := by rfl) (hline : (apos.endLine == mpos.line) = true := by rfl)
    (hse : starEach [Expr.Call (.Attribute o "values" apos) [] [] mpos] X.env = [(false, eval (Expr.Call (.Attribute o "values" apos) [] [] mpos) X.env)] := by rfl) :
    PE X (.Call (.Name "sorted" p) [.Call (.Attribute o "values" apos) [] [] mpos] [] pos) (tSortVals X.K td) := by
  refine ⟨fun pins s σ H Q I h => ?_⟩
  refine wpAny_Call_Name_kw (ld_blt I hg hm (u := .builtin "sorted") (by first | rfl | decide +kernel) ?_ (by first | decide +kernel | decide) (by first | decide +kernel | decide))
  rw [hse]
  refine PySem.callWith_builtin1 (wpAny_Call_method0_late hbase hline (thn (hd.run pins s σ H _ I h) fun v s1 ⟨x, H1, I1, r1, a, kvs, ds, ex, hrd, hda, ok, q⟩ => ?_))
  subst ex
  obtain rfl : v = Value.ref a := r1
  obtain ⟨hz, hsys, vs, rel, dof⟩ := dk_rd I1.hok hrd
  obtain ⟨ep, dat⟩ := dof.dictAt
  have there := dat
  obtain ⟨ob, es, ho, exd, _, _, _, _⟩ := there
  refine ⟨"dict", "dict.values", F.plainAttrs_dict, F.slot_dict_values, F.type_dict_values, ⟨ob, ho, exd.1⟩, fun b e => ?_, Calls.callWith_builtin rfl (PySem.evalArgs_none ?_)⟩
  · cases e
    exact ⟨ob, ho, exd.2.1⟩
  refine call_meetsIn F.slot_dict_values ⟨ob, ho, exd.1⟩ F.entry_dict_values (F.args_dict_values_1 _) (meets_dict_values (mixKind X.prog X.w) a hsys) ⟨⟨vs, dof⟩, ?_⟩
  let hV : Heap := s1.heap.push { cls := .type "dict_values", data := .fields #[.ref a] }
  have kV : ∀ b u, s1.heap.get? b = some u → hV.get? b = some u := fun b u e => Heap.get?_push_of_some _ e
  have lenV : vs.length = kvs.length := (KV.length rel).symm
  refine Calls.call_function_entry PyProof.Rows.kind_sorted PyProof.Rows.plain_sorted PyProof.Rows.entry_sorted (PyProof.Rows.args_sorted1 _) ?_
  unfold Builtin.«sorted»
  refine wpAny_bind (m := checkCount "sorted" 1 1 _) (wpAny_pure ?_)
  refine wpAny_bind (PySem.W.kdu_collect (A := X.A.in1) (PySem.W.kdl_values (knd := mixKind X.prog X.w) (kvs := vs) (ep := ep) (d := a) (r := s1.heap.objs.size)) (I.ok.hd hc) ⟨⟨_, Heap.get?_push_size _ rfl, rfl, rfl⟩, dat.keep kV⟩ (by rw [lenV]; exact hz) fun h' tk acc hk hacc => ?_)
  have eacc : acc.toList = vs.map (·.2) := PySem.W.kdl_vals_eq acc.toList (by rw [Array.length_toList]; exact hacc.1) fun j v e => hacc.2 j v (by rw [← Array.getElem?_toList]; exact e)
  have rv : Vals (kvs.map Prod.snd) acc.toList := by rw [eacc]; exact kv_vals rel
  have I2 : Inv X pins σ H1 { s1 with heap := h', toks := tk } := I1.kept fun b u e => hk b u (kV b u e)
  have hlz : acc.toList.length ≤ sizeLine := by rw [← rv.length, List.length_map]; exact hz
  refine wpAny_bind (wpAny_newList ?_ hlz)
  have hoL : (h'.push (seqObj "list" acc.toList.toArray 0)).get? h'.objs.size = some (seqObj "list" acc.toList.toArray 0) := Heap.get?_push_size _ rfl
  show wpAny _ _ _ _ _ { s1 with heap := h'.push (seqObj "list" acc.toList.toArray 0), toks := tk }
  obtain ⟨k1, k2, k3⟩ := okSort_iff ok
  have hlen : (kvs.map Prod.snd).length = ds.length := dp_len hda
  have em : ((kvs.map Prod.snd).zip ds).map Prod.snd = ds := List.map_snd_zip (by omega)
  have I3 : Inv X pins σ H1 { s1 with heap := h'.push (seqObj "list" acc.toList.toArray 0), toks := tk } := I2.kept (t' := tk) fun b u e => Heap.get?_push_of_some _ e
  have old : ∀ b u, h'.get? b = some u → (PySem.W.sortingHeap (h'.push (seqObj "list" acc.toList.toArray 0)) h'.objs.size acc.toList).get? b = some u := fun b u e => PySem.W.sortingHeap_old (Nat.ne_of_lt (Heap.lt_size e)) (Heap.get?_push_of_some _ e)
  obtain ⟨as, hr⟩ := Dp.readsAll I2 ds _ acc.toList hda rv
  have er := (reads_each hr rv.length).mono (R' := fun v (b : V × PyData) => ∃ as, Reads (PySem.W.sortingHeap (h'.push (seqObj "list" acc.toList.toArray 0)) h'.objs.size acc.toList) v b.2 as) fun v b ⟨as, r⟩ => ⟨as, PyProof.Rows.Reads.keeps old r⟩
  have er2 : PySem.W.EachIs (fun v d => ∃ as, Reads (PySem.W.sortingHeap (h'.push (seqObj "list" acc.toList.toArray 0)) h'.objs.size acc.toList) v d as) acc.toList ds := by
    have z := PySem.W.each_map (R := fun v d => ∃ as, Reads (PySem.W.sortingHeap (h'.push (seqObj "list" acc.toList.toArray 0)) h'.objs.size acc.toList) v d as) (enc := (Prod.snd : V × PyData → PyData)) er
    rw [em] at z
    exact z
  refine wpAny_bind (wpAny_holding (wpAny_call_entry PyProof.Rows.slot_list_sort ⟨_, hoL, rfl⟩ PyProof.Rows.entry_list_sort
    (PySem.W.list_sort_vals (κ := PySem.W.dataKind _ ds) (s := { s1 with heap := h'.push (seqObj "list" acc.toList.toArray 0), toks := tk }) hoL (PySem.W.SortsAt.data er2 k1 k2 fun d hd => ?_) hlz ⟨_, rfl, ?_⟩)
    (PyProof.Rows.args_list_sort _)))
  · have := k3 d hd
    show X.A.units + 1 + 1 + d.depth < cLine
    omega
  have e1 : PySem.W.EachIs (fun v (b : V × PyData) => RelV b.1 v) acc.toList ((kvs.map Prod.snd).zip ds) := vals_each rv hlen
  have eo := PySem.W.sortVals_data (R := fun v (b : V × PyData) => RelV b.1 v) (enc := (Prod.snd : V × PyData → PyData)) false e1 er (by rw [em]; exact k1)
  rw [em] at eo
  have rv2 := each_vals eo
  obtain ⟨e', he'⟩ := PyProof.Rows.sortedHeap_at (vs := acc.toList) (out := (PySem.W.sortVals (PySem.W.dataKind (PySem.W.sortingHeap (h'.push (seqObj "list" acc.toList.toArray 0)) h'.objs.size acc.toList) ds) false acc.toList acc.toList).toArray) hoL
  have hl2 : (TL.sortT (kvs.map Prod.snd) ds).length ≤ sizeLine := by rw [sortT_len hlen, List.length_map]; exact hz
  refine wpAny_pure ⟨_, rfl, .ref h'.objs.size, upd H1 h'.objs.size (.lst (TL.sortT (kvs.map Prod.snd) ds)), I2.laid (t' := tk) (fun b u e => ?_) (Nat.le_refl _) ⟨hl2, _, e', rv2, he'⟩, rfl, q _ (I2.hok.fresh (Nat.le_refl _))⟩
  have hb : b < h'.objs.size := Heap.lt_size e
  rw [PyProof.Rows.sortedHeap_old (Nat.ne_of_lt hb) (by rw [size_push']; exact Nat.lt_succ_of_lt hb)]
  exact Heap.get?_push_of_some _ e
/-- the mirror: the dict stands in a slot -/
def dSortVals (a : DO) : DE := fun S => (a S).bind fun p => (p.1.res p.2).bind fun x => match x with
  | .dic _ kvs => if noOwK kvs then (toPs (valsOf kvs)).bind fun ds => if okSort ds then some (.lst .ow (sortT (valsOf kvs) ds), p.2) else none else none
  | _ => none
theorem RepK.valsR {c : Hc} : ∀ {ts : List (Key × T)} {vs : List (Key × V)} {g : List Addr}, noOwK ts = true → RepK c ts vs g → Reps c (valsOf ts) (vs.map Prod.snd) []
  | [], _, _, _, ⟨e, _⟩ => by cases e; exact ⟨rfl, rfl⟩
  | (k, t) :: ts, _, _, h, ⟨v, r, ga, gb, e, _, d, q⟩ => by
    have h2 := Bool.and_eq_true_iff.mp (show (t.noOw && noOwK ts) = true from h)
    cases e
    refine ⟨v, r.map Prod.snd, [], [], rfl, rfl, ?_, RepK.valsR h2.2 q⟩
    have eg := Rep.noOw _ _ _ h2.1 d
    rw [eg] at d
    exact d
theorem ex_sortVals {da : DO} {ea : Bool} (hc : X.calm = true) (hu : X.A.units + 64 < cLine) (hm : X.mg "sorted" = none) (ha : OX ca X o ea da) (hg : Gl X "sorted" := by rfl) (hbase : attributeBase o "values" X.env (eval o X.env) = eval o X.env := by rfl) (hline : (apos.endLine == mpos.line) = true := by rfl)
    (hse : starEach [Expr.Call (.Attribute o "values" apos) [] [] mpos] X.env = [(false, eval (Expr.Call (.Attribute o "values" apos) [] [] mpos) X.env)] := by rfl) :
    EX ca X (.Call (.Name "sorted" p) [.Call (.Attribute o "values" apos) [] [] mpos] [] pos) ea (dSortVals da) := by
  refine PE.imp (pe_sortVals hc hu hm ha hg hbase hline hse) fun σ H Q w => ?_
  obtain ⟨G, rfl, g, z, S', e1, k⟩ := w
  obtain ⟨pq, h1, e1⟩ := Option.bind_eq_some_iff.mp e1
  obtain ⟨x, h2, e1⟩ := Option.bind_eq_some_iff.mp e1
  split at e1
  · rename_i m kvs
    split at e1
    · rename_i no
      obtain ⟨ds, h3, e1⟩ := Option.bind_eq_some_iff.mp e1
      split at e1
      · rename_i ok
        cases e1
        refine ⟨G, rfl, g, pq.1, pq.2, h1, fun G1 v gv a1 a2 a3 a4 a5 => ?_⟩
        have h2 : pq.1.res G1.S = some (.dic m kvs) := by rw [a1]; exact h2
        obtain ⟨gt, r⟩ := ArgAt.rep a2 a4 h2
        obtain ⟨a, vs, gs, rfl, rd, rk, _⟩ := r.dicD a2.fp a2.ph
        have rr := RepK.valsR no rk
        refine ⟨a, vs, ds, rfl, rd, ?_, ok, ?_⟩
        · rw [← a2.k]
          exact Reps.dp a2.fp a2.ph _ _ [] ds h3 rr
        · have hl : (valsOf kvs).length = ds.length := toPs_len h3
          have no2 : noOws (valsOf kvs) = true := noOws_of fun t mm => by
            obtain ⟨q, m1, e⟩ := List.mem_map.mp mm
            rw [← e]
            exact noOwK_mem no q m1
          exact finL a2 (fun G2 u g2 b1 b2 b3 b4 b5 => k G2 u g2 (b1.trans a1) b2 ((a3.trans b3).weak (by cases ea <;> simp)) b4 (b5.step a3)) (rr.sortT no2 hl)
      · cases e1
    · cases e1
  · cases e1
end
end TL

set_option Elab.async false
set_option linter.all false
set_option maxRecDepth 100000
/-! TL23: comprehensions over d.values(), d.items(), d a name. -/
namespace TL
open PySem PySem.Spec PyProof.Rows L2

def dLcD (own : List Nat) (i : Nat) (its : List (Key × T) → List T) (g : DG) (tt : DT) (te : DE) : DE := fun S => (slot S i).bind fun t => match t.frz with
  | .dic _ kvs => (lcGo own g tt te (its kvs) [] (wipeS (setS S i (some t.frz)) own)).bind fun q => some (.lst .ow q.1, q.2)
  | _ => none
section
variable {X : Cx} {ca : Str → Addr} {pos : Pos} {ef et ee : Bool}
theorem PE.or {e : Expr} {t1 t2 : TE} (h1 : PE X e t1) (h2 : PE X e t2) : PE X e fun σ H Q => t1 σ H Q ∨ t2 σ H Q := ⟨fun pins s σ H Q I w => by
  rcases w with w | w
  · exact h1.run pins s σ H Q I w
  · exact h2.run pins s σ H Q I w⟩
theorem lcD_of {i : Nat} {its : List (Key × T) → List T} {wi : TI} {Jt : Addr → Obj → List (Key × V) → It} {own : List Nat} {dg : DG} {is : List Nat} {dt : DT} {de : DE} {e : Expr} (hsub : ∀ i ∈ is, i ∈ own)
    (hw : ∀ (σ : L2.St) (H : Hp) (R : It → Hp → Prop) (p : Addr) (o : Obj) (vs : List (Key × V)), σ[i]? = some (some (.ref p)) → H p = some (.frz o (.dK vs)) → R (Jt p o vs) H → wi σ H R)
    (hk : ∀ (G : Gh) (p : Addr) (o : Obj) (kvs : List (Key × T)) (vs : List (Key × V)), G.P p = some (.dK vs) → (∀ k, p ∉ G.fp k) ∧ p ∉ G.ad → G.H p = some (.frz o (.dK vs)) → RepK G.toHc kvs vs [] → noOwK kvs = true → Walks X.K ca (Jt p o vs) (its kvs) G)
    (h : PE X e (tLc wi (liftG X.K ca is dg) (liftT X.K ca et dt) (liftE X.K ca ee de) own)) : EX ca X e true (dLcD own i its dg dt de) := PE.imp (PE.or h (pe_lock h)) fun σ H Q w => by
  obtain ⟨G, rfl, g, r, S', e1, k⟩ := w
  obtain ⟨t, h0, e1⟩ := Option.bind_eq_some_iff.mp e1
  obtain ⟨v, hv, g2, s2, tm⟩ := g.ice (slot_some h0)
  have nf := noOw_frz t
  have rp := tm.rep
  generalize htf : t.frz = tf at e1 nf rp
  split at e1
  case h_2 => cases e1
  rename_i m kvs
  have key : ∃ p vs, v = .ref p ∧ (G.ice i t).P p = some (.dK vs) ∧ RepK (G.ice i t).toHc kvs vs [] ∧ noOwK kvs = true := by
    cases m with
    | sc => exact (show False from rp).elim
    | fz => obtain ⟨p, vs, a, b, d, q⟩ := rp; exact ⟨p, vs, a, g2.fp _ _ b, d, nf⟩
    | br => obtain ⟨p, vs, a, b, d, q⟩ := rp; exact ⟨p, vs, a, b, d, nf⟩
    | ow => cases nf
  obtain ⟨p, vs, rfl, hP, rk, no⟩ := key
  obtain ⟨z, h4, e1⟩ := Option.bind_eq_some_iff.mp e1
  cases e1
  have h4' : lcGo own dg dt de (its kvs) [] (wipeS (G.ice i t).S own) = some z := by
    show lcGo own dg dt de (its kvs) [] (wipeS (G.τ.set i (some t.frz), G.O) own) = some z
    rw [htf]; exact h4
  have nf : ∀ k, p ∉ (G.ice i t).fp k := fun k m => by rw [g2.pn k p m] at hP; cases hP
  have na : p ∉ (G.ice i t).ad := fun m => by rw [g2.adp p m] at hP; cases hP
  rcases g2.ph p _ hP with hH | ⟨od, vs', ev, hH⟩
  · refine .inr ⟨p, .dK vs, hH, trivial, fun od => ?_⟩
    have gL := g2.lock (o := .frz od (.dK vs)) hP (.inr ⟨od, rfl⟩)
    have rkL : RepK ((G.ice i t).lock p (.frz od (.dK vs))).toHc kvs vs [] := RepK.ex (c := (G.ice i t).toHc) _ _ _ ⟨rfl, rfl, Same.refl _, Same.refl _, fun _ m => absurd m (by simp), ⟨[], by show (G.ice i t).ad = _; simp⟩⟩ rk
    refine hw σ _ _ p od vs hv upd_same (TL.lc_core (et := et) (ee := ee) (Q := fun v H' => H' p = some (.frz od (.dK vs)) ∧ Q v (upd H' p (.dK vs))) hsub gL (hk _ p od kvs vs hP ⟨nf, na⟩ upd_same rkL no) h4' fun G' v gg a1 a2 a3 mm nn => ?_)
    have hl : G'.H p = some (.frz od (.dK vs)) := a3.fr p _ upd_same nf na
    have hP' : G'.P p = some (.dK vs) := a3.p _ _ hP
    have gU := a2.lock (o := .dK vs) hP' (.inl rfl)
    have sU : Step true (G.ice i t) (G'.lock p (.dK vs)) := Step.unlock hP hH a3
    have pg : p ∉ gg := fun m => by rw [(mm.out p m).2.2] at hP'; cases hP'
    refine ⟨hl, k (G'.lock p (.dK vs)) v gg a1 gU (s2.trans sU) ⟨Rep.ex (c := G'.toHc) _ _ _ ⟨rfl, rfl, Same.refl _, Same.refl _, fun a m u e => by show upd G'.H p _ a = _; rw [upd_ne fun z => pg (by rw [← z]; exact m)]; exact e, ⟨[], by show G'.ad = _; simp⟩⟩ mm.rep, mm.nd, mm.out⟩ ?_⟩
    have n2 : New (G.ice i t) gg := fun a m => by
      rcases nn a m with h | h
      · have h : upd (G.ice i t).H p (.frz od (.dK vs)) a = none := h
        rw [upd_ne fun z => pg (by rw [← z]; exact m)] at h
        exact .inl h
      · exact .inr h
    exact n2.step s2
  · cases ev
    exact .inl (hw σ _ _ p od vs hv hH (TL.lc_core (G1 := G.ice i t) (et := et) (ee := ee) (Q := Q) hsub g2 (hk (G.ice i t) p od kvs vs hP ⟨nf, na⟩ hH rk no) h4' fun G' v gg a1 a2 a3 mm nn => k G' v gg a1 a2 (s2.trans a3) mm (nn.step s2)))
theorem ex_lcVals {i : Nat} {o elt tg : Expr} {ifs : List Expr} {scope : Scope} {own : List (Str × Nat)} {apos cpos : Pos} {dg : DG} {is : List Nat} {dt : DT} {de : DE} (hsub : ∀ i ∈ is, i ∈ own.map (·.2)) (hc : X.calm = true) (hN : X.N.Nodup) (ho : PE X o (tVar i)) (ok : BlkOk X.N X.env.scope scope own)
    (hg : ∀ (s : Shared) (H : Hp) (C : Addr) (cl : List (Str × Addr)) (fp : List Addr), GX ca (X.blk s H scope (compEnvC scope cl C X.env) fp) tg is dg) (ht : ∀ (s : Shared) (H : Hp) (C : Addr) (cl : List (Str × Addr)) (fp : List Addr), TsX ca (X.blk s H scope (compEnvC scope cl C X.env) fp) ifs et dt)
    (he : ∀ (s : Shared) (H : Hp) (C : Addr) (cl : List (Str × Addr)) (fp : List Addr), EX ca (X.blk s H scope (compEnvC scope cl C X.env) fp) elt ee de) (h1 : attributeBase o "values" X.env (eval o X.env) = eval o X.env := by rfl) (h2 : (apos.endLine == cpos.line) = true := by rfl)
    (hs : ∀ x, foldedSetIterable (.Call (.Attribute o "values" apos) [] [] cpos) X.env x = pure x := by intro _; rfl) :
    EX ca X (.ListComp elt [⟨tg, .Call (.Attribute o "values" apos) [] [] cpos, ifs, 0⟩] scope pos) true (dLcD (own.map (·.2)) i valsOf dg dt de) :=
  lcD_of (Jt := Itd) hsub (fun σ H R p o vs h1 h2 h3 => ⟨.ref p, h1, p, o, vs, rfl, h2, h3⟩) (fun G p o kvs vs a b c d e => walks_vals a b c d e) (pe_lc hc hN (pi_values ho h1 h2) ok hg ht he hs)
theorem ex_lcItems {i : Nat} {o elt : Expr} {elts : List Expr} {kk : Nat} {tpos : Pos} {ifs : List Expr} {scope : Scope} {own : List (Str × Nat)} {apos cpos : Pos} {dg : DG} {is : List Nat} {dt : DT} {de : DE} (hsub : ∀ i ∈ is, i ∈ own.map (·.2)) (hc : X.calm = true) (hN : X.N.Nodup) (ho : PE X o (tVar i)) (ok : BlkOk X.N X.env.scope scope own)
    (hg : ∀ (s : Shared) (H : Hp) (C : Addr) (cl : List (Str × Addr)) (fp : List Addr), GX ca (X.blk s H scope (compEnvC scope cl C X.env) fp) (.Tuple elts kk tpos) is dg) (ht : ∀ (s : Shared) (H : Hp) (C : Addr) (cl : List (Str × Addr)) (fp : List Addr), TsX ca (X.blk s H scope (compEnvC scope cl C X.env) fp) ifs et dt)
    (he : ∀ (s : Shared) (H : Hp) (C : Addr) (cl : List (Str × Addr)) (fp : List Addr), EX ca (X.blk s H scope (compEnvC scope cl C X.env) fp) elt ee de) (h1 : attributeBase o "items" X.env (eval o X.env) = eval o X.env := by rfl) (h2 : (apos.endLine == cpos.line) = true := by rfl)
    (hs : ∀ x, foldedSetIterable (.Call (.Attribute o "items" apos) [] [] cpos) X.env x = pure x := by intro _; rfl) :
    EX ca X (.ListComp elt [⟨.Tuple elts kk tpos, .Call (.Attribute o "items" apos) [] [] cpos, ifs, 0⟩] scope pos) true (dLcD (own.map (·.2)) i itemsD dg dt de) :=
  lcD_of (Jt := Iti) hsub (fun σ H R p o vs h1 h2 h3 => ⟨.ref p, h1, p, o, vs, rfl, h2, h3⟩) (fun G p o kvs vs a b c d e => walks_items a b c d e) (pe_lc hc hN (pi_items ho h1 h2) ok hg ht he hs)
end
end TL

set_option Elab.async false
set_option linter.all false
set_option maxRecDepth 100000
/-! TL24: zip of three lists. -/
namespace TL
open PySem PySem.Spec PyProof.Rows L2

/-- the three lists as they stand at each turn -/
def Itz3 (K : PySem.W.Frag) (a b c : Addr) : It :=
  ⟨fun i H => ∃ (xs ys zs : List V) (x y z : V), SqL K H a xs ∧ SqL K H b ys ∧ SqL K H c zs ∧ xs[i]? = some x ∧ ys[i]? = some y ∧ zs[i]? = some z,
    fun i H v H' => ∃ T x y z, v = .ref T ∧ H T = none ∧ H' = upd H T (.tup [x, y, z]) ∧ (∀ xs, SqL K H a xs → xs[i]? = some x) ∧ (∀ ys, SqL K H b ys → ys[i]? = some y) ∧ ∀ zs, SqL K H c zs → zs[i]? = some z,
    fun i H => ∃ xs ys zs : List V, SqL K H a xs ∧ SqL K H b ys ∧ SqL K H c zs ∧ i = min (min xs.length ys.length) zs.length⟩
theorem sub5 {N d : Nat} (m : d ∈ [N + 5, N + 4, N, N + 1, N + 2]) : d ∈ [N + 5, N + 3, N + 4, N, N + 1, N + 2] := by
  simp only [List.mem_cons, List.not_mem_nil, or_false] at m ⊢
  omega
theorem turn_zip3 {P : Program} {w : World} {K : PySem.W.Frag} {elts : List Expr} {kk : Nat} {tpos : Pos} {a b c : Addr} {N : Nat} (la : a < N) (lb : b < N) (lc : c < N) :
    Turn P w K (.Tuple elts kk tpos) (Itz3 K a b c) [N + 5, N + 3, N + 4, N, N + 1, N + 2] (N + 5) (fun i h => IsZip h (N + 5) (N + 3) (N + 4) .none ∧ IsTupOf3 h (N + 3) (.ref N) (.ref (N + 1)) (.ref (N + 2)) ∧ (∃ u1 u2 u3, IsTupOf3 h (N + 4) u1 u2 u3) ∧ h.IsListIter N a i ∧ h.IsListIter (N + 1) b i ∧ h.IsListIter (N + 2) c i) where
  mem := by simp
  obj := fun i h st e he => by
    obtain ⟨hz, hTI, ⟨u1, u2, u3, hTO⟩, ⟨o1, e1, _, d1⟩, ⟨o2, e2, _, d2⟩, ⟨o3, e3, _, d3⟩⟩ := st
    have e' : e = N + 5 ∨ e = N + 3 ∨ e = N + 4 ∨ e = N ∨ e = N + 1 ∨ e = N + 2 := by simpa using he
    rcases e' with q | q | q | q | q | q
    · rw [q]; exact ⟨_, hz, fun v q => nomatch q⟩
    · rw [q]; exact ⟨_, hTI, fun v q => nomatch q⟩
    · rw [q]; exact ⟨_, hTO, fun v q => nomatch q⟩
    · rw [q]; exact ⟨o1, e1, fun v q => by rw [d1] at q; cases q⟩
    · rw [q]; exact ⟨o2, e2, fun v q => by rw [d2] at q; cases q⟩
    · rw [q]; exact ⟨o3, e3, fun v q => by rw [d3] at q; cases q⟩
  keep := fun i h h' st k => by
    obtain ⟨hz, hTI, ⟨u1, u2, u3, hTO⟩, h1, h2, h3⟩ := st
    exact ⟨k (N + 5) (by simp) _ hz, k (N + 3) (by simp) _ hTI, ⟨u1, u2, u3, k (N + 4) (by simp) _ hTO⟩, h1.at fun o q => k N (by simp) o q, h2.at fun o q => k (N + 1) (by simp) o q, h3.at fun o q => k (N + 2) (by simp) o q⟩
  item := by
    intro X hP hw hK hc i pins s σ H E I hf st hg
    subst hP hw hK
    obtain ⟨hz, hTI, hTO, h1, h2, h3⟩ := st
    obtain ⟨xs, ys, zs, x, y, z, hqx, hqy, hqz, hx, hy, hzz⟩ := hg
    obtain ⟨its, rv, p, _⟩ := I.list hqx
    obtain ⟨its2, rv2, p2, _⟩ := I.list hqy
    obtain ⟨its3, rv3, p3, _⟩ := I.list hqz
    obtain ⟨u, hu, ru⟩ := rv.get hx
    obtain ⟨u2, hu2, ru2⟩ := rv2.get hy
    obtain ⟨u3, hu3, ru3⟩ := rv3.get hzz
    have hh : X.A.in1.handled = none := I.ok.hd hc
    have W := WalksT.zipD3 (A := X.A) (zip_sep3 (N := N) (fp1 := [a]) (fp2 := [b]) (fp3 := [c]) (by simpa using la) (by simpa using lb) (by simpa using lc))
      (Draws.list (prog := X.prog) (w := X.w) hh N a (Nat.ne_of_lt la) its.toArray) (Draws.list hh (N + 1) b (Nat.ne_of_lt (Nat.lt_succ_of_lt lb)) its2.toArray) (Draws.list hh (N + 2) c (Nat.ne_of_lt (Nat.lt_succ_of_lt (Nat.lt_succ_of_lt lc))) its3.toArray)
    have b1 : i < its.length := (List.getElem?_eq_some_iff.mp hu).1
    have b2 : i < its2.length := (List.getElem?_eq_some_iff.mp hu2).1
    have b3 : i < its3.length := (List.getElem?_eq_some_iff.mp hu3).1
    refine W.item i s _ E (by simp only [List.size_toArray]; omega) ⟨hz, hTI, hTO, ⟨h1, p.isList⟩, ⟨h2, p2.isList⟩, ⟨h3, p3.isList⟩⟩ fun T vals h' tk hPt hle hT hM hk => ⟨.ref T, rfl, W.go elts kk tpos i T { s with heap := h', toks := tk } _ E hM fun h'' hst hk2 => ?_⟩
    obtain ⟨x1, x2, x3, q1, q2, q3, rfl⟩ := hPt
    have q1 : u = x1 := by
      have q1 : its.toArray[i]? = some x1 := q1
      rw [← Array.getElem?_toList] at q1
      exact Option.some.inj (hu.symm.trans q1)
    have q2 : u2 = x2 := by
      have q2 : its2.toArray[i]? = some x2 := q2
      rw [← Array.getElem?_toList] at q2
      exact Option.some.inj (hu2.symm.trans q2)
    have q3 : u3 = x3 := by
      have q3 : its3.toArray[i]? = some x3 := q3
      rw [← Array.getElem?_toList] at q3
      exact Option.some.inj (hu3.symm.trans q3)
    subst q1 q2 q3
    have hTw := W.apart i T h' hM
    obtain ⟨oT, t1, t2, tn, t3⟩ := hT
    have hT2 : h''.get? T = some oT := hk2 T oT hTw t1
    have new : ObjOk X.prog X.w (upd H T (.tup [x, y, z])) h'' T (.tup [x, y, z]) := ⟨by show 3 ≤ sizeLine; decide, [u, u2, u3], .cons ru (.cons ru2 (.cons ru3 .nil)), ⟨oT, hT2, t2, tn, t3⟩⟩
    have kk2 : ∀ d o, d ∉ [N + 5, N + 3, N + 4, N, N + 1, N + 2] → s.heap.get? d = some o → h''.get? d = some o := fun d o hd e => by
      have nd : d ∉ [N + 5, N + 4, N, N + 1, N + 2] := fun m => hd (sub5 m)
      exact hk2 d o nd (hk d o nd e)
    have I1 : Inv X pins σ (upd H T (.tup [x, y, z])) { s with heap := h'', toks := tk } := I.turnedNew (t' := tk) kk2 hf hle new
    obtain ⟨s1, s2, s3, s4, s5, s6⟩ := hst
    refine ⟨.ref T, _, I1, rfl, ⟨T, x, y, z, rfl, I.hok.fresh hle, rfl, fun l hl => by rw [I.list_inj hl hqx]; exact hx, fun l hl => by rw [I.list_inj hl hqy]; exact hy, fun l hl => by rw [I.list_inj hl hqz]; exact hzz⟩, ⟨s1, s2, s3, s4.1, s5.1, s6.1⟩, fun d hd => ?_⟩
    have hd0 := (hf d hd).1
    have hdT : d ≠ T := fun e => by
      have lt : ∀ {o}, s.heap.get? d = some o → False := fun {o} q => absurd (Heap.lt_size q) (by rw [e]; exact Nat.not_lt.mpr hle)
      obtain ⟨u1', u2', u3', hTO⟩ := hTO
      have e' : d = N + 5 ∨ d = N + 3 ∨ d = N + 4 ∨ d = N ∨ d = N + 1 ∨ d = N + 2 := by simpa using hd
      rcases e' with q | q | q | q | q | q
      · exact lt (by rw [q]; exact hz)
      · exact lt (by rw [q]; exact hTI)
      · exact lt (by rw [q]; exact hTO)
      · obtain ⟨_, g1, _⟩ := h1; exact lt (by rw [q]; exact g1)
      · obtain ⟨_, g1, _⟩ := h2; exact lt (by rw [q]; exact g1)
      · obtain ⟨_, g1, _⟩ := h3; exact lt (by rw [q]; exact g1)
    rw [upd_ne hdT]
    exact hd0
  done := by
    intro X hP hw hK hc i pins s σ H E I hf st hg
    subst hP hw hK
    obtain ⟨hz, hTI, hTO, h1, h2, h3⟩ := st
    obtain ⟨xs, ys, zs, hqx, hqy, hqz, hend⟩ := hg
    obtain ⟨its, rv, p, _⟩ := I.list hqx
    obtain ⟨its2, rv2, p2, _⟩ := I.list hqy
    obtain ⟨its3, rv3, p3, _⟩ := I.list hqz
    have hh : X.A.in1.handled = none := I.ok.hd hc
    have W := WalksT.zipD3 (A := X.A) (zip_sep3 (N := N) (fp1 := [a]) (fp2 := [b]) (fp3 := [c]) (by simpa using la) (by simpa using lb) (by simpa using lc))
      (Draws.list (prog := X.prog) (w := X.w) hh N a (Nat.ne_of_lt la) its.toArray) (Draws.list hh (N + 1) b (Nat.ne_of_lt (Nat.lt_succ_of_lt lb)) its2.toArray) (Draws.list hh (N + 2) c (Nat.ne_of_lt (Nat.lt_succ_of_lt (Nat.lt_succ_of_lt lc))) its3.toArray)
    have e : i = min (min its.toArray.size its2.toArray.size) its3.toArray.size := by
      rw [hend, rv.length, rv2.length, rv3.length]; simp
    subst e
    exact W.done s _ E ⟨hz, hTI, hTO, ⟨h1, p.isList⟩, ⟨h2, p2.isList⟩, ⟨h3, p3.isList⟩⟩ fun h' tk hk => ⟨rfl, I.turnedL (t' := tk) (ch := [N + 5, N + 3, N + 4, N, N + 1, N + 2]) (fun d o hd e => hk d o (fun m => hd (sub5 m)) e) hf⟩
  self := fun A i s Q E st h => wpAny_pyIter_zip st.1 h
def iZip3 (K : PySem.W.Frag) (ta : TA) : TI := fun σ H R => ta σ H fun vs H1 => ∃ a b c xs ys zs, vs = [.ref a, .ref b, .ref c] ∧ SqL K H1 a xs ∧ SqL K H1 b ys ∧ SqL K H1 c zs ∧ R (Itz3 K a b c) H1
theorem pi_zip3 {X : Cx} {e e2 e3 : Expr} {ta : TA} {p pos tpos : Pos} {elts : List Expr} {kk : Nat} (hg : Gl X "zip") (hm : X.mg "zip" = none) (ha : PA X [e, e2, e3] ta)
    (hs : starEach [e, e2, e3] X.env = (false, eval e X.env) :: starEach [e2, e3] X.env := by rfl) (hpl : (backTo pos (starEach [e2, e3] X.env)).any (·.1) = false := by rfl) :
    PI X (.Tuple elts kk tpos) (.Call (.Name "zip" p) [e, e2, e3] [] pos) (iZip3 X.K ta) := by
  refine ⟨fun pins s σ H R I h => ?_⟩
  refine Call_ (ld_blt I hg hm PyProof.Rows.boot_zip (PyProof.Rows.callWith_type1 (thn (ha.run pos pins s σ H _ I h) fun us s1 ⟨vs, H1, I1, r1, q1⟩ => ?_) hs hpl))
  obtain ⟨a, b, c, xs, ys, zs, ex, hqx, hqy, hqz, q⟩ := q1
  subst ex
  cases r1 with
  | cons r rr =>
    cases rr with
    | cons r' rr =>
      cases rr with
      | cons r'' rr =>
        cases rr
        cases r
        cases r'
        cases r''
        obtain ⟨its, rv, p1, _⟩ := I1.list hqx
        obtain ⟨its2, rv2, p2, _⟩ := I1.list hqy
        obtain ⟨its3, rv3, p3, _⟩ := I1.list hqz
        refine zip_begins3 (begins_list a its.toArray) (begins_list b its2.toArray) (begins_list c its3.toArray) p1.isList p2.isList p3.isList fun h' hz hTI hTO g1 g2 g3 hsz hk => wpAny_pyIter_zip hz ?_
        have I2 : Inv X pins σ H1 { s1 with heap := h' } := I1.kept (t' := s1.toks) hk
        refine ⟨s1.heap.objs.size + 5, [s1.heap.objs.size + 5, s1.heap.objs.size + 3, s1.heap.objs.size + 4, s1.heap.objs.size, s1.heap.objs.size + 1, s1.heap.objs.size + 2], _, _, H1, rfl, I2, turn_zip3 p1.lt p2.lt p3.lt, ⟨hz, hTI, ⟨_, _, _, hTO⟩, ⟨_, g1, rfl, rfl⟩, ⟨_, g2, rfl, rfl⟩, ⟨_, g3, rfl, rfl⟩⟩, fun d hd => ?_, q⟩
        have e' : d = s1.heap.objs.size + 5 ∨ d = s1.heap.objs.size + 3 ∨ d = s1.heap.objs.size + 4 ∨ d = s1.heap.objs.size ∨ d = s1.heap.objs.size + 1 ∨ d = s1.heap.objs.size + 2 := by simpa using hd
        have hle : s1.heap.objs.size ≤ d := by
          rcases e' with z | z | z | z | z | z <;> rw [z] <;> first | exact Nat.le_refl _ | exact Nat.le_add_right _ _
        exact I1.fpOk hle (I1.hok.fresh hle)
def zipT3 : List T → List T → List T → List T
  | x :: xs, y :: ys, z :: zs => .tup [x, y, z] :: zipT3 xs ys zs
  | _, _, _ => []
theorem zipT3_get : ∀ (xs ys zs : List T) (i : Nat) (t : T), (zipT3 xs ys zs)[i]? = some t → ∃ x y z, xs[i]? = some x ∧ ys[i]? = some y ∧ zs[i]? = some z ∧ t = .tup [x, y, z]
  | [], _, _, _, _, h => by simp [zipT3] at h
  | _ :: _, [], _, _, _, h => by simp [zipT3] at h
  | _ :: _, _ :: _, [], _, _, h => by simp [zipT3] at h
  | x :: xs, y :: ys, z :: zs, 0, t, h => by simp [zipT3] at h; exact ⟨x, y, z, rfl, rfl, rfl, h.symm⟩
  | x :: xs, y :: ys, z :: zs, i + 1, t, h => by
    have h : (zipT3 xs ys zs)[i]? = some t := h
    simpa using zipT3_get xs ys zs i t h
theorem zipT3_len : ∀ (xs ys zs : List T), (zipT3 xs ys zs).length = min (min xs.length ys.length) zs.length
  | [], _, _ => by simp [zipT3]
  | _ :: _, [], _ => by simp [zipT3]
  | _ :: _, _ :: _, [] => by simp [zipT3]
  | x :: xs, y :: ys, z :: zs => by show (zipT3 xs ys zs).length + 1 = _; rw [zipT3_len]; simp only [List.length_cons]; omega
def iZp3 (a : DA) : DI := fun S => (a S).bind fun p => (temps p.1).bind fun ts => match ts with
  | [.lst _ xs, .lst _ ys, .lst _ zs] => if noOws xs && noOws ys && noOws zs then some (zipT3 xs ys zs, p.2) else none
  | _ => none
theorem ix_zip3 {X : Cx} {ca : Str → Addr} {a b c : Expr} {elts : List Expr} {kk : Nat} {p pos tpos : Pos} {ef : Bool} {d : DA} (hm : X.mg "zip" = none) (h : AX ca X [a, b, c] ef d) (hg : Gl X "zip" := by rfl)
    (hs : starEach [a, b, c] X.env = (false, eval a X.env) :: starEach [b, c] X.env := by rfl) (hpl : (backTo pos (starEach [b, c] X.env)).any (·.1) = false := by rfl) : IX ca X (.Tuple elts kk tpos) (.Call (.Name "zip" p) [a, b, c] [] pos) ef (iZp3 d) := PI.imp (pi_zip3 hg hm h hs hpl) fun σ H R w => by
  obtain ⟨G, rfl, g, ts, S', e1, k⟩ := w
  obtain ⟨q, h1, e1⟩ := Option.bind_eq_some_iff.mp e1
  obtain ⟨us, h2, e1⟩ := Option.bind_eq_some_iff.mp e1
  split at e1
  · rename_i m1 xs m2 ys m3 zs
    split at e1
    · rename_i n
      cases e1
      obtain ⟨n, n3⟩ := Bool.and_eq_true_iff.mp n
      obtain ⟨n1, n2⟩ := Bool.and_eq_true_iff.mp n
      refine ⟨G, rfl, g, q.1, q.2, h1, fun G1 vs gv a1 a2 a3 a4 a5 => ?_⟩
      obtain ⟨r, nd, out⟩ := a4.reps h2
      obtain ⟨v, r', ga, gb, rfl, rfl, rx, w, r2, gc, gd, rfl, rfl, ry, u, r3, ge, gf, rfl, rfl, rz, ⟨rfl, rfl⟩⟩ := r
      have hK : G1.K = X.K := a2.k
      have nda := List.nodup_append.mp nd
      have ndb := List.nodup_append.mp nda.2.1
      have tx : Tmp G1 v (.lst m1 xs) ga := ⟨rx, nda.1, fun a h => out a (by simp [h])⟩
      have ty : Tmp G1 w (.lst m2 ys) gc := ⟨ry, ndb.1, fun a h => out a (by simp [h])⟩
      have tz : Tmp G1 u (.lst m3 zs) ge := ⟨rz, (by simpa using ndb.2.1), fun a h => out a (by simp [h])⟩
      obtain ⟨p1, w1, _, rfl, sq1, rr1, _, _⟩ := Rep.lstL a2.fp a2.ph rx
      obtain ⟨p2, w2, _, rfl, sq2, rr2, _, _⟩ := Rep.lstL a2.fp a2.ph ry
      obtain ⟨p3, w3, _, rfl, sq3, rr3, _, _⟩ := Rep.lstL a2.fp a2.ph rz
      refine ⟨p1, p2, p3, w1, w2, w3, rfl, hK ▸ sq1, hK ▸ sq2, hK ▸ sq3, k G1 _ a1 a2 a3 ?_⟩
      intro G' σ' gd st
      obtain ⟨_, v1, _, e1, s1, r1, _, _⟩ := Rep.lstL gd.fp gd.ph (tx.step st).rep
      cases e1
      obtain ⟨_, v2, _, e2, s2, r2, _, _⟩ := Rep.lstL gd.fp gd.ph (ty.step st).rep
      cases e2
      obtain ⟨_, v3, _, e3, s3, r3, _, _⟩ := Rep.lstL gd.fp gd.ph (tz.step st).rep
      cases e3
      have hK' : G'.K = X.K := gd.k
      rw [hK'] at s1 s2 s3
      refine ⟨fun i t h => ?_, v1, v2, v3, s1, s2, s3, ?_⟩
      · obtain ⟨x0, y0, z0, h1, h2, h3, rfl⟩ := zipT3_get _ _ _ _ _ h
        obtain ⟨u1, e1, t1⟩ := tmp_item r1 n1 h1
        obtain ⟨u2, e2, t2⟩ := tmp_item r2 n2 h2
        obtain ⟨u3, e3, t3⟩ := tmp_item r3 n3 h3
        refine ⟨⟨v1, v2, v3, u1, u2, u3, s1, s2, s3, e1, e2, e3⟩, fun x H'' y => ?_⟩
        obtain ⟨Ta, x1, x2, x3, rfl, hT, rfl, y1, y2, y3⟩ := y
        have q1 := y1 v1 s1
        have q2 := y2 v2 s2
        have q3 := y3 v3 s3
        rw [e1] at q1
        rw [e2] at q2
        rw [e3] at q3
        cases q1
        cases q2
        cases q3
        obtain ⟨g2, st2⟩ := gd.newF (o := .tup [u1, u2, u3]) hT
        have rr2 : Reps G'.toHc [x0, y0, z0] [u1, u2, u3] [] := ⟨_, [u2, u3], [], [], rfl, rfl, t1.rep, u2, [u3], [], [], rfl, rfl, t2.rep, u3, [], [], [], rfl, rfl, t3.rep, rfl, rfl⟩
        exact ⟨G'.newF Ta (.tup [u1, u2, u3]), rfl, rfl, g2, st2, gd.newT hT rr2 List.nodup_nil fun _ m => absurd m (by simp)⟩
      · rw [zipT3_len, r1.len, r2.len, r3.len]
    · cases e1
  · cases e1
end TL

set_option Elab.async false
set_option linter.all false
set_option maxRecDepth 100000
/-! TL25: a def that marks all lists of an owned tree, each in its place. -/
namespace TL
open PySem PySem.Spec PyProof.Rows L2

mutual
/-- all owned lists of a tree made longer by a mark; none where something else stands that could be changed -/
def markT (m : Str) : T → Option T
  | .lst .ow xs => (markTs m xs).bind fun ys => if ys.length < sizeLine then some (.lst .ow (ys ++ [.str m])) else none
  | .tup xs => (markTs m xs).bind fun ys => some (.tup ys)
  | .non => some .non
  | .bl b => some (.bl b)
  | .int i => some (.int i)
  | .str x => some (.str x)
  | _ => none
def markTs (m : Str) : List T → Option (List T)
  | [] => some []
  | t :: ts => (markT m t).bind fun z => (markTs m ts).bind fun zs => some (z :: zs)
end
mutual
/-- how deep a tree is -/
def T.deep : T → Nat
  | .lst _ xs => deeps xs + 1
  | .tup xs => deeps xs + 1
  | _ => 1
def deeps : List T → Nat
  | [] => 0
  | t :: ts => max t.deep (deeps ts)
end
/-- the call's mirror: trees of depth n at most -/
def d_mark (m : Str) (n : Nat) : DF := fun ts O => match ts with
  | [t] => if t.deep ≤ n then (markT m t).bind fun z => if z.noBr then some (z, O) else none else none
  | _ => none
def Hc.at (c : Hc) (H : Hp) : Hc := { c with H := H }
/-- the promise: the tree at hand is marked in its place, and told -/
def spM (K : PySem.W.Frag) (m : Str) (n : Nat) : Sp := fun vs H Q _ => ∃ (c : Hc) (v : V) (t z : T) (g : List Addr), vs = [v] ∧ c.H = H ∧ c.K = K ∧ Same c.F c.P ∧ SameL c.P c.H ∧ Rep c t v g ∧ g.Nodup ∧ (∀ a ∈ g, c.P a = none) ∧ t.deep ≤ n ∧ markT m t = some z ∧
  ∀ H', (∀ a o, a ∉ g → H a = some o → H' a = some o) → Rep (c.at H') z v g → Q v H'
theorem ExAt {c : Hc} {H' : Hp} {g : List Addr} (h : ∀ a ∈ g, ∀ o, c.H a = some o → H' a = some o) : Ex c (c.at H') g := ⟨rfl, rfl, Same.refl _, Same.refl _, h, ⟨[], by simp [Hc.at]⟩⟩
theorem Reps.split {c : Hc} : ∀ {A B : List T} {vs : List V} {g : List Addr}, Reps c (A ++ B) vs g → ∃ va vb ga gb, vs = va ++ vb ∧ g = ga ++ gb ∧ Reps c A va ga ∧ Reps c B vb gb
  | [], B, vs, g, r => ⟨[], vs, [], g, rfl, rfl, ⟨rfl, rfl⟩, r⟩
  | t :: A, B, vs, g, ⟨v, r, ga, gb, e1, e2, h, q⟩ => by
    obtain ⟨va, vb, g1, g2, e3, e4, h1, h2⟩ := Reps.split (A := A) q
    refine ⟨v :: va, vb, ga ++ g1, g2, by rw [e1, e3]; rfl, by rw [e2, e4, List.append_assoc], ⟨v, va, ga, g1, rfl, rfl, h, h1⟩, h2⟩
theorem markTs_len {m : Str} : ∀ {xs zs : List T}, markTs m xs = some zs → zs.length = xs.length
  | [], zs, h => by unfold markTs at h; cases h; rfl
  | t :: xs, zs, h => by
    unfold markTs at h
    obtain ⟨z, h1, h⟩ := Option.bind_eq_some_iff.mp h
    obtain ⟨ys, h2, h⟩ := Option.bind_eq_some_iff.mp h
    cases h
    rw [List.length_cons, List.length_cons, markTs_len h2]
theorem deeps_mem : ∀ {xs : List T} {t : T}, t ∈ xs → t.deep ≤ deeps xs
  | x :: xs, t, h => by
    unfold deeps
    rcases List.mem_cons.mp h with e | h
    · rw [e]; exact Nat.le_max_left _ _
    · exact Nat.le_trans (deeps_mem h) (Nat.le_max_right _ _)
theorem sqT_up {K : PySem.W.Frag} {F P H : Hp} {p : Addr} {vs : List V} (fp : Same F P) (ph : SameL P H) (h : SqT K F p vs) : SqT K H p vs := by
  rcases h with (h | ⟨o, h⟩) | h
  · rcases ph _ _ (fp _ _ h) with z | ⟨od, ws, e, _⟩
    · exact .inl (.inl z)
    · cases e
  · rcases ph _ _ (fp _ _ h) with z | ⟨od, ws, e, _⟩
    · exact .inl (.inr ⟨o, z⟩)
    · cases e
  · exact .inr h
/-- is it of that kind? a reading for what stands in slot i -/
def tIs (K : PySem.W.Frag) (i : Nat) (f : String → Bool) : TE := fun σ H Q => ∃ (c : Hc) (v : V) (t : T) (g : List Addr) (n : String), σ[i]? = some (some v) ∧ c.H = H ∧ c.K = K ∧ Same c.F c.P ∧ SameL c.P c.H ∧ Rep c t v g ∧ tyName t = some n ∧ ∀ H', Same H H' → Q (.bl (f n)) H'
section
variable {X : Cx} {e : Expr} {p pos : Pos} {i : Nat}
theorem pe_is1 {b : String} {x : Str} {p2 : Pos} (hm : X.mg "isinstance" = none) (hmx : X.mg x = none) (h : PE X e (tVar i)) (ok : isiOk b = true := by decide +kernel) (hg : Gl X "isinstance" := by rfl) (hgx : Gl X x := by rfl)
    (hv : bootBuiltins x = some (.type b) := by decide +kernel) (hn : x ≠ "__name__" := by decide) (hd : (x == ("__debug__" : Str)) = false := by decide)
    (hs : starEach [e, .Name x p2] X.env = (false, eval e X.env) :: starEach [.Name x p2] X.env := by rfl) (hs2 : starEach [.Name x p2] X.env = (false, eval (.Name x p2) X.env) :: starEach [] X.env := by rfl) (hpl : (backTo pos (starEach [.Name x p2] X.env)).any (·.1) = false := by rfl) :
    PE X (.Call (.Name "isinstance" p) [e, .Name x p2] [] pos) (tIs X.K i fun n => tyIs n b) := by
  have hx : PE X (.Name x p2) (tC (.ty b)) := pe_bltn (v := .ty b) (u := .type b) hgx hmx hv rfl hn hd
  refine PE.imp (pe_callB call_isi hg hm (by decide +kernel) (pa_cons h (pa_cons hx pa_nil hs2) hs) (by decide) (by decide) hs hpl) fun σ H Q w => ?_
  obtain ⟨c, v, t, g, n, h1, rfl, hK, fp, ph, r, hn, k⟩ := w
  refine ⟨v, h1, ?_⟩
  exact ⟨v, .ty b, .type n, .type b, tyIs n b, rfl, .ty b, hK ▸ r.ty fp ph hn, kit_of' hn ok, k _ (Same.refl _)⟩
theorem pe_is2 {b c : String} {x y : Str} {p2 p3 p4 : Pos} {kk : Nat} (hm : X.mg "isinstance" = none) (hmx : X.mg x = none) (hmy : X.mg y = none) (h : PE X e (tVar i)) (okb : isiOk b = true := by decide +kernel) (okc : isiOk c = true := by decide +kernel) (hg : Gl X "isinstance" := by rfl) (hgx : Gl X x := by rfl) (hgy : Gl X y := by rfl)
    (hv : bootBuiltins x = some (.type b) := by decide +kernel) (hvy : bootBuiltins y = some (.type c) := by decide +kernel) (hn : x ≠ "__name__" := by decide) (hd : (x == ("__debug__" : Str)) = false := by decide) (hn2 : y ≠ "__name__" := by decide) (hd2 : (y == ("__debug__" : Str)) = false := by decide)
    (hs : starEach [e, .Tuple [.Name x p2, .Name y p3] kk p4] X.env = (false, eval e X.env) :: starEach [.Tuple [.Name x p2, .Name y p3] kk p4] X.env := by rfl) (hs2 : starEach [.Tuple [.Name x p2, .Name y p3] kk p4] X.env = (false, eval (.Tuple [.Name x p2, .Name y p3] kk p4) X.env) :: starEach [] X.env := by rfl)
    (hs3 : starEach [.Name x p2, .Name y p3] X.env = (false, eval (.Name x p2) X.env) :: starEach [.Name y p3] X.env := by rfl) (hs4 : starEach [.Name y p3] X.env = (false, eval (.Name y p3) X.env) :: starEach [] X.env := by rfl) (hpl : (backTo pos (starEach [.Tuple [.Name x p2, .Name y p3] kk p4] X.env)).any (·.1) = false := by rfl) :
    PE X (.Call (.Name "isinstance" p) [e, .Tuple [.Name x p2, .Name y p3] kk p4] [] pos) (tIs X.K i fun n => tyIs n b || tyIs n c) := by
  have hx : PE X (.Name x p2) (tC (.ty b)) := pe_bltn (v := .ty b) (u := .type b) hgx hmx hv rfl hn hd
  have hy : PE X (.Name y p3) (tC (.ty c)) := pe_bltn (v := .ty c) (u := .type c) hgy hmy hvy rfl hn2 hd2
  have ht : PE X (.Tuple [.Name x p2, .Name y p3] kk p4) (tTup (tCons (tC (.ty b)) (tCons (tC (.ty c)) tNil))) := pe_tup (pa_cons hx (pa_cons hy pa_nil hs4) hs3)
  refine PE.imp (pe_callB call_isiT hg hm (by decide +kernel) (pa_cons h (pa_cons ht pa_nil hs2) hs) (by decide) (by decide) hs hpl) fun σ H Q w => ?_
  obtain ⟨cc, v, t, g, n, h1, rfl, hK, fp, ph, r, hn, k⟩ := w
  refine ⟨v, h1, (by show 2 ≤ sizeLine; decide), fun q hq => ?_⟩
  have up : Same cc.H (upd cc.H q (.tup [.ty b, .ty c])) := same_upd hq
  have r2 : Rep (cc.at (upd cc.H q (.tup [.ty b, .ty c]))) t v g := Rep.ex _ _ _ (ExAt fun a _ o e => up a o e) r
  have ty := Rep.ty (c := cc.at (upd cc.H q (.tup [.ty b, .ty c]))) fp (fun a o e => (ph a o e).imp (fun z => up _ _ z) fun ⟨od, vs, e1, z⟩ => ⟨od, vs, e1, up _ _ z⟩) r2 hn
  have hK2 : (cc.at (upd cc.H q (.tup [.ty b, .ty c]))).K = X.K := hK
  rw [hK2] at ty
  refine ⟨v, q, [.ty b, .ty c], .type n, [.type b, .type c], tyIs n b || tyIs n c, rfl, upd_same, .cons (.ty b) (.cons (.ty c) .nil), ty, ?_, k _ up⟩
  refine kitAny_cons (kit_of' hn okb) (fun hb => ?_) fun hb => by rw [hb]; rfl
  rw [hb, Bool.false_or]
  exact kitAny_cons (kit_of' hn okc) (fun hc => by rw [hc]; exact kitAny_nil) fun hc => hc
end
/-- the body's reading -/
abbrev tTruth (t : TE) : TT := fun σ H Q => t σ H fun x H' => ∃ k, x = .bl k ∧ Q k H'
abbrev tListOf (K : PySem.W.Frag) : TE := tCB (fun xs H Q => ∃ p ys, xs = [.ref p] ∧ (SqL K H p ys ∨ SqT K H p ys) ∧ ∀ l, H l = none → Q (.ref l) (upd H l (.lst ys))) (tCons (tVar 0) tNil)
abbrev iSeqR (K : PySem.W.Frag) (tl : TE) : TI := fun σ H R => tl σ H fun x H1 => (∃ a xs, x = .ref a ∧ SqL K H1 a xs ∧ R (Itl K a) H1) ∨ (∃ a xs, x = .ref a ∧ SqT K H1 a xs ∧ R (Itt K a) H1) ∨ ∃ z, x = .str z ∧ R (Its z) H1
def tMark (K : PySem.W.Frag) (m : Str) (sp : Sp) : TS :=
  tSeq (tIfS (tTruth (tIs K 0 fun n => tyIs n "list" || tyIs n "tuple")) (tFor (iSeqR K (tListOf K)) (gName 1) (tDrop (tCall sp [] E0 (tCons (tVar 1) tNil)))) tNext)
    (tSeq (tIfS (tTruth (tIs K 0 fun n => tyIs n "list")) (tDrop (tBM K "list" rAppend (tVar 0) (tCons (tC (.str m)) tNil))) tNext) (tRet (tVar 0)))
theorem mark_loop {K : PySem.W.Frag} {m : Str} {n : Nat} {c : Hc} {xs zs : List T} {vs : List V} {gs : List Addr} {p : Addr} {D : Ends} {σ : L2.St} {H : Hp} (hK : c.K = K) (hH : c.H = H) (fp : Same c.F c.P) (ph : SameL c.P c.H) (h0 : σ[0]? = some (some (.ref p))) (h1 : σ.length = 2)
    (sq : SqL K H p vs ∨ SqT K H p vs) (r : Reps c xs vs gs) (nd : gs.Nodup) (gp : ∀ a ∈ gs, c.P a = none) (hd : deeps xs ≤ n) (hm : markTs m xs = some zs)
    (k : ∀ σ' H', σ'[0]? = some (some (.ref p)) → σ'.length = 2 → (∀ a o, a ∉ gs → H a = some o → H' a = some o) → Reps (c.at H') zs vs gs → D.nx σ' H') :
    tFor (iSeqR K (tListOf K)) (gName 1) (tDrop (tCall (spM K m n) [] E0 (tCons (tVar 1) tNil))) D σ H := by
  subst hH
  refine ⟨.ref p, h0, p, vs, rfl, sq, fun l hl => .inl ⟨l, vs, rfl, SqL.of upd_same, ?_⟩⟩
  have hlg : l ∉ gs := fun mm => Reps.inH _ _ _ r l mm hl
  have upl : Same c.H (upd c.H l (.lst vs)) := same_upd hl
  refine ⟨fun i mm σ' H' => mm = xs.length - i ∧ i ≤ xs.length ∧ σ'[0]? = some (some (.ref p)) ∧ σ'.length = 2 ∧ (∀ a o, a ∉ gs → upd c.H l (.lst vs) a = some o → H' a = some o) ∧ ∃ ys, markTs m (xs.take i) = some ys ∧ Reps (c.at H') (ys ++ xs.drop i) vs gs, ⟨xs.length, by simp, Nat.zero_le _, h0, h1, fun a o _ e => e, [], by simp [markTs], ?_⟩, ?_⟩
  · rw [List.drop_zero, List.nil_append]
    exact Reps.ex _ _ _ (ExAt fun a _ o e => upl a o e) r
  · rintro i mm σ' H' ⟨rfl, hi, s0, s1, fr, ys, hy, rr⟩
    have sql : SqL K H' l vs := SqL.of (fr l _ hlg upd_same)
    have hlen : vs.length = xs.length := r.len
    by_cases hlt : i < xs.length
    · right
      have hv : vs[i]? = some vs[i] := List.getElem?_eq_getElem (by omega)
      refine ⟨⟨vs, vs[i], sql, hv⟩, fun σ2 H2 => i + 1 ≤ xs.length ∧ σ2[0]? = some (some (.ref p)) ∧ σ2.length = 2 ∧ (∀ a o, a ∉ gs → upd c.H l (.lst vs) a = some o → H2 a = some o) ∧ ∃ ys, markTs m (xs.take (i + 1)) = some ys ∧ Reps (c.at H2) (ys ++ xs.drop (i + 1)) vs gs, fun σ2 H2 z => ⟨xs.length - (i + 1), by omega, rfl, z⟩, fun x H2 y => ?_⟩
      obtain ⟨rfl, hx⟩ := y
      have hx := hx vs sql
      rw [hv] at hx
      cases hx
      -- the item
      rw [List.drop_eq_getElem_cons hlt] at rr
      obtain ⟨va, vb, ga, gb, e1, e2, ra, rb⟩ := rr.split
      obtain ⟨u, vr, gt, gr, rfl, rfl, rt, rrest⟩ := rb
      have hva : va.length = i := by
        have q1 := ra.len
        have q2 := markTs_len hy
        rw [List.length_take] at q2
        omega
      have hu : vs[i] = u := by
        have q : vs[i]? = some u := by rw [e1, List.getElem?_append_right (by omega), hva, Nat.sub_self]; rfl
        rw [hv] at q
        exact Option.some.inj q
      rw [e2] at nd
      have n1 := List.nodup_append.mp nd
      have n2 := List.nodup_append.mp n1.2.1
      -- each part is marked
      have hms : ∃ z, markT m xs[i] = some z ∧ markTs m (xs.take (i + 1)) = some (ys ++ [z]) := by
        have key : ∀ (A : List T) (t : T) (B w : List T), markTs m (A ++ t :: B) = some w → ∀ y, markTs m A = some y → ∃ z, markT m t = some z ∧ markTs m (A ++ [t]) = some (y ++ [z]) := by
          intro A
          induction A with
          | nil =>
            intro t B w h y hy
            unfold markTs at hy
            cases hy
            rw [List.nil_append] at h
            unfold markTs at h
            obtain ⟨z, h1, h⟩ := Option.bind_eq_some_iff.mp h
            exact ⟨z, h1, by simp [markTs, h1]⟩
          | cons a A ih =>
            intro t B w h y hy
            rw [List.cons_append] at h
            unfold markTs at h hy
            obtain ⟨z1, h1, h⟩ := Option.bind_eq_some_iff.mp h
            obtain ⟨w1, h2, h⟩ := Option.bind_eq_some_iff.mp h
            obtain ⟨z2, h3, hy⟩ := Option.bind_eq_some_iff.mp hy
            obtain ⟨y2, h4, hy⟩ := Option.bind_eq_some_iff.mp hy
            cases hy
            obtain ⟨z, q1, q2⟩ := ih t B w1 h2 y2 h4
            refine ⟨z, q1, ?_⟩
            rw [List.cons_append]
            unfold markTs
            rw [h3, q2]
            rfl
        have e3 : xs = xs.take i ++ xs[i] :: xs.drop (i + 1) := by rw [← List.drop_eq_getElem_cons hlt, List.take_append_drop]
        have q := key (xs.take i) xs[i] (xs.drop (i + 1)) zs (by rw [← e3]; exact hm) ys hy
        rw [List.take_add_one, List.getElem?_eq_getElem hlt]
        exact q
      obtain ⟨z, hz1, hz2⟩ := hms
      show tDrop (tCall (spM K m n) [] E0 (tCons (tVar 1) tNil)) _ (σ'.set 1 (some vs[i])) H2
      refine ⟨vs[i], by rw [List.getElem?_set_self (by omega)], ?_⟩
      rw [hu]
      refine ⟨c.at H2, u, xs[i], z, gt, rfl, rfl, hK, fp, ?_, rt, n2.1, fun a mm => gp a (by rw [e2]; simp [mm]), Nat.le_trans (deeps_mem (List.getElem_mem hlt)) hd, hz1, fun H3 f3 r3 => ?_⟩
      · intro a o e
        have e : c.P a = some o := e
        have na : a ∉ gs := fun mm => by rw [gp a mm] at e; cases e
        exact (ph a o e).imp (fun z => fr _ _ na (upl _ _ z)) fun ⟨od, ws, e1, z⟩ => ⟨od, ws, e1, fr _ _ na (upl _ _ z)⟩
      · refine ⟨hlt, by rw [List.getElem?_set_ne (by decide)]; exact s0, by rw [List.length_set]; exact s1, fun a o na e => f3 a o (fun mm => na (by rw [e2]; simp [mm])) (fr a o na e), ys ++ [z], hz2, ?_⟩
        have xa : ∀ a ∈ ga, a ∉ gt := fun a m1 m2 => n1.2.2 a m1 a (by simp [m2]) rfl
        have xb : ∀ a ∈ gr, a ∉ gt := fun a m1 m2 => n2.2.2 a m2 a m1 rfl
        have ra2 : Reps ((c.at H2).at H3) ys va ga := Reps.ex _ _ _ (ExAt fun a mm o e => f3 a o (xa a mm) e) ra
        have rr2 : Reps ((c.at H2).at H3) (xs.drop (i + 1)) vr gr := Reps.ex _ _ _ (ExAt fun a mm o e => f3 a o (xb a mm) e) rrest
        rw [e1, e2, List.append_assoc]
        exact ra2.append ⟨u, vr, gt, gr, rfl, rfl, r3, rr2⟩
    · left
      have e0 : i = xs.length := by omega
      subst e0
      refine ⟨⟨vs, sql, by omega⟩, ?_⟩
      rw [List.take_length] at hy
      rw [hm] at hy
      cases hy
      rw [List.drop_length, List.append_nil] at rr
      exact k σ' H' s0 s1 (fun a o na e => fr a o na (upl a o e)) rr
theorem iteT {b : Bool} {p q : Prop} [Decidable (b = true)] (h : b = true) (hp : p) : if b = true then p else q := by rw [if_pos h]; exact hp
theorem iteF {b : Bool} {p q : Prop} [Decidable (b = true)] (h : b = false) (hq : q) : if b = true then p else q := by rw [if_neg (by rw [h]; decide)]; exact hq
theorem mark_sem {K : PySem.W.Frag} {m : Str} {n : Nat} {x y : Str} {vs : List V} {H : Hp} {Q : VK} {E : XK} (h : spM K m (n + 1) vs H Q E) : tMark K m (spM K m n) { nx := fun _ H' => Q .non H', rt := Q } (L2.start [x, y] vs) H := by
  obtain ⟨c, v, t, z, g, rfl, rfl, hK, fp, ph, r, nd, gp, hd, hm, k⟩ := h
  have hs : L2.start [x, y] [v] = [some v, none] := rfl
  rw [hs]
  -- a thing without lists
  have flat : ∀ nm : String, tyName t = some nm → (tyIs nm "list" || tyIs nm "tuple") = false → z = t → tMark K m (spM K m n) { nx := fun _ H' => Q .non H', rt := Q } [some v, none] c.H := by
    intro nm hn hf ez
    subst ez
    refine ⟨c, v, z, g, nm, rfl, rfl, hK, fp, ph, r, hn, fun H1 s1 => ⟨_, rfl, ?_⟩⟩
    refine iteF hf ?_
    have r1 : Rep (c.at H1) z v g := Rep.ex _ _ _ (ExAt fun a _ o e => s1 a o e) r
    have hf2 := (Bool.or_eq_false_iff.mp hf).1
    refine ⟨c.at H1, v, z, g, nm, rfl, rfl, hK, fp, fun a o e => (ph a o e).imp (fun w => s1 _ _ w) fun ⟨od, ws, e1, w⟩ => ⟨od, ws, e1, s1 _ _ w⟩, r1, hn, fun H2 s2 => ⟨_, rfl, ?_⟩⟩
    refine iteF hf2 ?_
    exact ⟨v, rfl, k H2 (fun a o _ e => s2 a o (s1 a o e)) (Rep.ex _ _ _ (ExAt (c := c.at H1) fun a _ o e => s2 a o e) r1)⟩
  cases t with
  | non => unfold markT at hm; cases hm; exact flat _ rfl (by decide) rfl
  | bl b => unfold markT at hm; cases hm; exact flat _ rfl (by decide) rfl
  | int b => unfold markT at hm; cases hm; exact flat _ rfl (by decide) rfl
  | str b => unfold markT at hm; cases hm; exact flat _ rfl (by decide) rfl
  | hnd b => simp [markT] at hm
  | dic b q => simp [markT] at hm
  | tup xs =>
    unfold markT at hm
    obtain ⟨zs, hz, hm⟩ := Option.bind_eq_some_iff.mp hm
    cases hm
    obtain ⟨p, ws, rfl, q3, rs⟩ := r
    refine ⟨c, .ref p, .tup xs, g, "tuple", rfl, rfl, hK, fp, ph, ⟨p, ws, rfl, q3, rs⟩, rfl, fun H1 s1 => ⟨_, rfl, ?_⟩⟩
    have e1 : (tyIs "tuple" "list" || tyIs "tuple" "tuple") = true := by decide
    refine iteT e1 ?_
    have ph1 : SameL c.P H1 := fun a o e => (ph a o e).imp (fun w => s1 _ _ w) fun ⟨od, ws, e1, w⟩ => ⟨od, ws, e1, s1 _ _ w⟩
    have rs1 : Reps (c.at H1) xs ws g := Reps.ex _ _ _ (ExAt fun a _ o e => s1 a o e) rs
    have sq1 : SqT c.K H1 p ws := sqT_up fp ph1 q3
    have hdx : deeps xs ≤ n := by
      have q : deeps xs + 1 ≤ n + 1 := by simpa [T.deep] using hd
      omega
    refine mark_loop (c := c.at H1) hK rfl fp ph1 rfl rfl (.inr (by rw [← hK]; exact sq1)) rs1 nd gp hdx hz fun σ2 H2 t1 t2 f2 r2 => ?_
    have ph2 : SameL c.P H2 := fun a o e => by
      have na : a ∉ g := fun mm => by rw [gp a mm] at e; cases e
      exact (ph1 a o e).imp (fun w => f2 _ _ na w) fun ⟨od, ws, e1, w⟩ => ⟨od, ws, e1, f2 _ _ na w⟩
    have rz : Rep (c.at H2) (.tup zs) (.ref p) g := ⟨p, ws, rfl, q3, r2⟩
    refine ⟨c.at H2, .ref p, .tup zs, g, "tuple", t1, rfl, hK, fp, ph2, rz, rfl, fun H3 s3 => ⟨_, rfl, ?_⟩⟩
    have e2 : tyIs "tuple" "list" = false := by decide
    refine iteF e2 ?_
    refine ⟨.ref p, t1, k H3 (fun a o na e => s3 a o (f2 a o na (s1 a o e))) (Rep.ex _ _ _ (ExAt (c := c.at H2) fun a _ o e => s3 a o e) rz)⟩
  | lst mk xs =>
    cases mk with
    | fz => simp [markT] at hm
    | br => simp [markT] at hm
    | sc => simp [markT] at hm
    | ow =>
      unfold markT at hm
      obtain ⟨zs, hz, hm⟩ := Option.bind_eq_some_iff.mp hm
      split at hm
      case isFalse => cases hm
      rename_i hlt
      cases hm
      obtain ⟨p, ws, gs, rfl, hp, rs, rfl⟩ := r
      refine ⟨c, .ref p, .lst .ow xs, p :: gs, "list", rfl, rfl, hK, fp, ph, ⟨p, ws, gs, rfl, hp, rs, rfl⟩, rfl, fun H1 s1 => ⟨_, rfl, ?_⟩⟩
      have e1 : (tyIs "list" "list" || tyIs "list" "tuple") = true := by decide
      refine iteT e1 ?_
      have ph1 : SameL c.P H1 := fun a o e => (ph a o e).imp (fun w => s1 _ _ w) fun ⟨od, ws, e1, w⟩ => ⟨od, ws, e1, s1 _ _ w⟩
      have rs1 : Reps (c.at H1) xs ws gs := Reps.ex _ _ _ (ExAt fun a _ o e => s1 a o e) rs
      have ndc := List.nodup_cons.mp nd
      have hdx : deeps xs ≤ n := by
        have q : deeps xs + 1 ≤ n + 1 := by simpa [T.deep] using hd
        omega
      refine mark_loop (c := c.at H1) hK rfl fp ph1 rfl rfl (.inl (SqL.of (s1 _ _ hp))) rs1 ndc.2 (fun a mm => gp a (List.mem_cons_of_mem _ mm)) hdx hz fun σ2 H2 t1 t2 f2 r2 => ?_
      have ph2 : SameL c.P H2 := fun a o e => by
        have na : a ∉ gs := fun mm => by rw [gp a (List.mem_cons_of_mem _ mm)] at e; cases e
        exact (ph1 a o e).imp (fun w => f2 _ _ na w) fun ⟨od, ws, e1, w⟩ => ⟨od, ws, e1, f2 _ _ na w⟩
      have hp2 : H2 p = some (.lst ws) := f2 p _ ndc.1 (s1 _ _ hp)
      refine ⟨c.at H2, .ref p, .lst .ow zs, p :: gs, "list", t1, rfl, hK, fp, ph2, ⟨p, ws, gs, rfl, hp2, r2, rfl⟩, rfl, fun H3 s3 => ⟨_, rfl, ?_⟩⟩
      have e2 : tyIs "list" "list" = true := by decide
      refine iteT e2 ?_
      have hp3 := s3 _ _ hp2
      refine ⟨.ref p, t1, ?_, p, ws, .str m, rfl, rfl, hp3, by rw [rs.len, ← markTs_len hz]; exact hlt, ?_⟩
      · exact .inl ⟨rfl, ws, SqL.of hp3⟩
      · have r3 : Reps (c.at (upd H3 p (.lst (ws ++ [.str m])))) zs ws gs := Reps.ex _ _ _ (ExAt (c := c.at H2) fun a mm o e => by
          rw [upd_ne fun w => ndc.1 (by rw [← w]; exact mm)]
          exact s3 a o e) r2
        refine ⟨.ref p, t1, k _ (fun a o na e => ?_) ⟨p, ws ++ [V.str m], gs, rfl, upd_same, ?_, rfl⟩⟩
        · rw [upd_ne fun w => na (by rw [w]; simp)]
          exact s3 a o (f2 a o (fun mm => na (List.mem_cons_of_mem _ mm)) (s1 a o e))
        · have r4 := r3.append (us := [.str m]) (ws := [.str m]) (g' := []) ⟨.str m, [], [], [], rfl, rfl, ⟨rfl, rfl⟩, rfl, rfl⟩
          rw [List.append_nil] at r4
          exact r4

section
variable {P : Program} {w : World} {K : PySem.W.Frag} {mg : Str → Option Value} {base : Heap} {ca : Str → Addr}
theorem spM_len {m : Str} {n : Nat} : ∀ vs H Q E, spM K m n vs H Q E → vs.length = 1 := fun vs H Q E h => by
  obtain ⟨c, v, t, z, g, rfl, _⟩ := h
  rfl
theorem mark_none {f : Addr} {fd : FuncData} {ps : List Str} {m : Str} {k : Nat} : FnOk P w K mg base CX0 k f fd ps (spM K m 0) := by
  have no : ∀ {vs : List V} {H : Hp} {Q : VK} {E : XK}, ¬ spM K m 0 vs H Q E := fun h => by
    obtain ⟨c, v, t, z, g, _, _, _, _, _, _, _, _, hd, _⟩ := h
    cases t <;> simp [T.deep] at hd
  exact ⟨fun vs H Q E h => absurd h no, fun A outer s H args us vs Q E _ _ _ _ h => absurd h no⟩
/-- the def by its body -/
theorem fn_okMark {x a b : Str} {st : Stmt} {f : Addr} {fd : FuncData} {m : Str} {c : Nat} (F : FnP K x st f fd) (S : FnScope [a, b] [a] (defScope st))
    (hb : ∀ (sp : Sp) (k : Nat), c ≤ k → FnOk P w K mg base CX0 k f fd [a] sp → ∀ (cdv : Value) (A : Around) (outer : List Env) (s : Shared) (H : Hp) (E : XK), Room k (A.deeper (PyProof.Rows.envOfC x (defScope st) s.heap.objs.size f cdv)) → PSs (cxOf CX0 P w K mg base [a, b] x (defScope st) f cdv A outer s H E).nox (defBody st) (tMark K m sp)) :
    ∀ n, FnOk P w K mg base CX0 (c + n) f fd [a] (spM K m n)
  | 0 => mark_none
  | n + 1 => F.ok S (fun vs H Q E h => spM_len vs H Q E h) (fun cdv A outer s H vs Q E hr h => ⟨_, PSs.nox (hb _ (c + n) (by omega) (fn_okMark F S hb n) cdv A outer s H E hr), mark_sem h⟩)
/-- as a promise over trees -/
theorem mark_spT {m : Str} {n : Nat} (vs : List V) (H : Hp) (Q : VK) (E : XK) (h : spT K ca 1 (d_mark m n) vs H Q E) : spM K m n vs H Q E := by
  obtain ⟨hl, G, rfl, g, ts, r, O', hτ, hd, hbr, kk⟩ := h
  unfold d_mark at hd
  split at hd
  case h_2 => cases hd
  rename_i t
  split at hd
  case isFalse => cases hd
  rename_i hdp
  obtain ⟨z, hz, hd⟩ := Option.bind_eq_some_iff.mp hd
  split at hd
  case isFalse => cases hd
  rename_i hzb
  cases hd
  match vs, hl with
  | [v], _ =>
    obtain ⟨v', hv, rp⟩ := g.sl 0 t (by rw [hτ]; rfl)
    cases hv
    refine ⟨G.toHc, v, t, r, G.fp (.s 0), rfl, rfl, g.k, g.fp, g.ph, rp, g.nd _, fun a m => g.pn _ a m, hdp, hz, fun H' fr rz => ?_⟩
    have hne : ∀ {k a}, k ≠ Own.s 0 → a ∈ G.fp k → a ∉ G.fp (.s 0) := fun {k a} h m m' => h (g.dj _ _ a m m')
    have hF : ∀ {a o}, G.P a = some o → a ∉ G.fp (.s 0) := fun {a o} e m => by rw [g.pn _ a m] at e; cases e
    let G' : Gh := { G with H := H', fp := fun k => if k = .s 0 then [] else G.fp k, τ := [none] }
    have exo : ∀ gg : List Addr, (∀ a ∈ gg, a ∉ G.fp (.s 0)) → Ex G.toHc G'.toHc gg := fun gg hn => ⟨rfl, rfl, Same.refl _, Same.refl _, fun a m o e => fr a o (hn a m) e, ⟨[], by show G.ad = _; simp⟩⟩
    have g' : Good K ca [none] G' := by
      refine { k := g.k, c := g.c, len := rfl, fp := g.fp, ph := fun a o e => (g.ph a o e).imp (fun z => fr _ _ (hF e) z) fun ⟨od, ws, e1, z⟩ => ⟨od, ws, e1, fr _ _ (hF e) z⟩, nd := fun k => ?_, dj := fun k k' a m m' => ?_, pn := fun k a m => ?_, adn := g.adn, adp := g.adp, ado := fun a m k q => ?_, sl := fun i t e => ?_, sn := fun i _ => ?_, ob := fun n b e => ?_, on := fun n e => ?_, ln := g.ln }
      · show (if k = .s 0 then [] else G.fp k).Nodup
        split
        · exact List.nodup_nil
        · exact g.nd k
      · have m : a ∈ (if k = .s 0 then [] else G.fp k) := m
        have m' : a ∈ (if k' = .s 0 then [] else G.fp k') := m'
        split at m
        · exact absurd m (by simp)
        · split at m'
          · exact absurd m' (by simp)
          · exact g.dj k k' a m m'
      · have m : a ∈ (if k = .s 0 then [] else G.fp k) := m
        split at m
        · exact absurd m (by simp)
        · exact g.pn k a m
      · have q : a ∈ (if k = .s 0 then [] else G.fp k) := q
        split at q
        · exact absurd q (by simp)
        · exact g.ado a m k q
      · have e : [(none : Option T)][i]? = some (some t) := e
        cases i with
        | zero => cases e
        | succ i => cases e
      · show (if Own.s i = .s 0 then [] else G.fp (.s i)) = []
        split
        · rfl
        · rename_i hi
          refine g.sn i fun t e => ?_
          rw [hτ] at e
          cases i with
          | zero => exact hi rfl
          | succ i => cases e
      · obtain ⟨p, h1, h2⟩ := g.ob n b e
        refine ⟨p, h1, ?_⟩
        have e3 : G'.fp (.o n) = G.fp (.o n) := if_neg (t := []) (show ¬ (Own.o n = Own.s 0) from fun h => by cases h)
        rw [e3]
        refine RepO.ex (exo _ fun a mm => ?_) h2
        rcases List.mem_cons.mp mm with e | mm
        · rw [e]
          exact fun q => g.ado p (List.mem_of_getElem? h1) _ q
        · exact hne (k := .o n) (fun h => by cases h) mm
      · show (if Own.o n = .s 0 then [] else G.fp (.o n)) = []
        rw [if_neg (show ¬ (Own.o n = Own.s 0) from fun h => by cases h)]
        exact g.on n e
    have hdom : ∀ a, G.H a ≠ none → H' a ≠ none := fun a ha => by
      by_cases q : a ∈ G.fp (.s 0)
      · exact Rep.inH (c := G.toHc.at H') _ _ _ rz a q
      · cases e : G.H a with
        | none => exact absurd e ha
        | some o => rw [fr a o q e]; simp
    have gn : ∀ k a, a ∈ G'.fp k → (∃ k', a ∈ G.fp k') ∨ G.H a = none := fun k a m => by
      have m : a ∈ (if k = .s 0 then [] else G.fp k) := m
      split at m
      · exact absurd m (by simp)
      · exact .inl ⟨k, m⟩
    have st : Step true G G' := { k := rfl, c := rfl, f := Same.refl _, p := Same.refl _, fnew := fun _ _ e => .inl e, pnew := fun _ _ e => .inl e, fr := fun a o e hg _ => fr a o (hg _) e, dom := hdom, ad := ⟨[], by show G.ad = _; simp⟩, anew := fun _ m => .inl m, gnew := gn, q := fun e => by cases e }
    refine kk G' [none] v (G.fp (.s 0)) g' st ⟨rz, g.nd _, fun a m => ⟨fun k q => ?_, fun q => g.ado a q _ m, g.pn _ a m⟩⟩ (fun a m => .inr ⟨_, m⟩) rfl
    have q : a ∈ (if k = .s 0 then [] else G.fp k) := q
    split at q
    · exact absurd q (by simp)
    · rename_i hk
      exact hk (g.dj _ _ a q m)
theorem fn_mark {x a b : Str} {st : Stmt} {f : Addr} {fd : FuncData} {m : Str} {c : Nat} (F : FnP K x st f fd) (S : FnScope [a, b] [a] (defScope st))
    (hb : ∀ (sp : Sp) (k : Nat), c ≤ k → FnOk P w K mg base CX0 k f fd [a] sp → ∀ (cdv : Value) (A : Around) (outer : List Env) (s : Shared) (H : Hp) (E : XK), Room k (A.deeper (PyProof.Rows.envOfC x (defScope st) s.heap.objs.size f cdv)) → PSs (cxOf CX0 P w K mg base [a, b] x (defScope st) f cdv A outer s H E).nox (defBody st) (tMark K m sp)) (n : Nat) :
    FnOk P w K mg base CX0 (c + n) f fd [a] (spT K ca 1 (d_mark m n)) := (fn_okMark F S hb n).imp fun vs H Q E h => mark_spT vs H Q E h
end
end TL

set_option Elab.async false
set_option linter.all false
set_option maxRecDepth 100000
/-! TL26: mirrors read out: dicts, sorts; trees marked, copied; == of data. -/
namespace TL
open PySem PySem.Spec L2

section
variable (S : SS)
@[simp] theorem fIxA_lst (m : Mk) (xs : List T) (y : T) : fIxA (.lst m xs) y = fIx (.lst m xs) y := rfl
@[simp] theorem fIxA_tup (xs : List T) (y : T) : fIxA (.tup xs) y = fIx (.tup xs) y := rfl
@[simp] theorem fIxA_str (x : Str) (y : T) : fIxA (.str x) y = fIx (.str x) y := rfl
@[simp] theorem fIxA_dic (m : Mk) (kvs : List (Key × T)) (y : T) : fIxA (.dic m kvs) y = (keyT y).bind fun k => (getK kvs k).bind fun t => if t.noOw then some t else none := rfl
@[simp] theorem keyT_int (i : Int) : keyT (.int i) = some (.inl i) := rfl
@[simp] theorem keyT_str (x : Str) : keyT (.str x) = some (.inr x) := rfl
@[simp] theorem fInB_tup (neg : Bool) (x : T) (xs : List T) : fInB neg x (.tup xs) = fIn neg x (.tup xs) := rfl
@[simp] theorem fInB_lst (neg : Bool) (x : T) (m : Mk) (xs : List T) : fInB neg x (.lst m xs) = fIn neg x (.lst m xs) := rfl
@[simp] theorem fInB_str (neg : Bool) (x : T) (z : Str) : fInB neg x (.str z) = fIn neg x (.str z) := rfl
@[simp] theorem fIn_tup (neg : Bool) (x : T) (xs : List T) : fIn neg x (.tup xs) = if flatT x && xs.all flatT then some (.bl (if neg then !inF x xs else inF x xs)) else none := rfl
@[simp] theorem fIn_lst (neg : Bool) (x : T) (m : Mk) (xs : List T) : fIn neg x (.lst m xs) = if flatT x && xs.all flatT then some (.bl (if neg then !inF x xs else inF x xs)) else none := rfl
@[simp] theorem flatT_int (i : Int) : flatT (.int i) = true := rfl
@[simp] theorem flatT_str (i : Str) : flatT (.str i) = true := rfl
@[simp] theorem inF_nil (x : T) : inF x [] = false := rfl
@[simp] theorem inF_cons (x y : T) (xs : List T) : inF x (y :: xs) = (eqF y x || inF x xs) := rfl
@[simp] theorem eqF_str (a b : Str) : eqF (.str a) (.str b) = (a == b) := rfl
@[simp] theorem eqF_int (a b : Int) : eqF (.int a) (.int b) = (a == b) := rfl
@[simp] theorem fSl_tup (xs : List T) (lo hi : Option Int) : fSl (.tup xs) lo hi = if noOws xs ∧ isWhole xs.length lo hi = false then some (.tup (cutT xs lo hi)) else none := rfl
@[simp] theorem fSl_str (z : Str) (lo hi : Option Int) : fSl (.str z) lo hi = if z.length ≤ sizeLine then some (.str (cutS z lo hi)) else none := rfl
@[simp] theorem r_dDNew : dDNew S = some (.dic .ow [], S) := rfl
@[simp] theorem r_dicGo_nil : dicGo [] S = some ([], S) := rfl
@[simp] theorem r_dDic (ds : List (DE × DE)) : dDic ds S = (dicGo ds S).bind fun p => if (p.1.map (·.1)).Nodup ∧ p.1.length ≤ 15 then some (.dic .ow p.1, p.2) else none := rfl
@[simp] theorem r_dSortK (d : DF) (a : DE) : dSortK d a S = (a S).bind fun p => match p.1 with
  | .lst _ xs => if noOws xs then (keysGo d xs p.2.2).bind fun q => (toPs q.1).bind fun ds => if okSort ds then some (.lst .ow (sortT xs ds), (p.2.1, q.2)) else none else none
  | _ => none := rfl
@[simp] theorem r_dSortVals (a : DO) : dSortVals a S = (a S).bind fun p => (p.1.res p.2).bind fun x => match x with
  | .dic _ kvs => if noOwK kvs then (toPs (valsOf kvs)).bind fun ds => if okSort ds then some (.lst .ow (sortT (valsOf kvs) ds), p.2) else none else none
  | _ => none := rfl
@[simp] theorem r_dLcD (own : List Nat) (i : Nat) (its : List (Key × T) → List T) (g : DG) (tt : DT) (te : DE) : dLcD own i its g tt te S = (slot S i).bind fun t => match t.frz with
  | .dic _ kvs => (lcGo own g tt te (its kvs) [] (wipeS (setS S i (some t.frz)) own)).bind fun q => some (.lst .ow q.1, q.2)
  | _ => none := rfl
@[simp] theorem r_iZp3 (a : DA) : iZp3 a S = (a S).bind fun p => (temps p.1).bind fun ts => match ts with
  | [.lst _ xs, .lst _ ys, .lst _ zs] => if noOws xs && noOws ys && noOws zs then some (zipT3 xs ys zs, p.2) else none
  | _ => none := rfl
@[simp] theorem r_sPar3 (i j l : Nat) (a : DA) : sPar3 i j l a S = (a S).bind fun p => match p.1 with
  | [.tmp t, .tmp u, .tmp v] => if i < p.2.1.length ∧ j < p.2.1.length ∧ l < p.2.1.length then some (.nx, setS (setS (setS p.2 i (some t)) j (some u)) l (some v)) else none
  | _ => none := rfl
end
@[simp] theorem frz_dic (m : Mk) (kvs : List (Key × T)) : T.frz (.dic m kvs) = .dic m.frz (frzK kvs) := rfl
@[simp] theorem brw_dic (m : Mk) (kvs : List (Key × T)) : T.brw (.dic m kvs) = .dic m.brw (brwK kvs) := rfl
@[simp] theorem frzK_nil : frzK [] = [] := rfl
@[simp] theorem frzK_cons (k : Key) (t : T) (ts : List (Key × T)) : frzK ((k, t) :: ts) = (k, t.frz) :: frzK ts := rfl
@[simp] theorem brwK_nil : brwK [] = [] := rfl
@[simp] theorem brwK_cons (k : Key) (t : T) (ts : List (Key × T)) : brwK ((k, t) :: ts) = (k, t.brw) :: brwK ts := rfl
@[simp] theorem noOwK_nil : noOwK [] = true := rfl
@[simp] theorem noOwK_cons (k : Key) (t : T) (ts : List (Key × T)) : noOwK ((k, t) :: ts) = (t.noOw && noOwK ts) := rfl
@[simp] theorem noBrK_nil : noBrK [] = true := rfl
@[simp] theorem noBrK_cons (k : Key) (t : T) (ts : List (Key × T)) : noBrK ((k, t) :: ts) = (t.noBr && noBrK ts) := rfl
@[simp] theorem noOw_dic_ow (xs : List (Key × T)) : T.noOw (.dic .ow xs) = false := rfl
@[simp] theorem noOw_dic_fz (xs : List (Key × T)) : T.noOw (.dic .fz xs) = noOwK xs := rfl
@[simp] theorem noOw_dic_br (xs : List (Key × T)) : T.noOw (.dic .br xs) = noOwK xs := rfl
@[simp] theorem noBr_dic_ow (xs : List (Key × T)) : T.noBr (.dic .ow xs) = noBrK xs := rfl
@[simp] theorem noBr_dic_fz (xs : List (Key × T)) : T.noBr (.dic .fz xs) = noBrK xs := rfl
@[simp] theorem view_dic (S : SS) (m : Mk) (xs : List (Key × T)) : view S (.dic m xs) = .dic m xs := rfl
@[simp] theorem kids_dic (m : Mk) (xs : List (Key × T)) : T.kids (.dic m xs) = noOwK xs := rfl
@[simp] theorem getK_nil (k : Key) : getK [] k = none := rfl
theorem getK_cons (k k' : Key) (t : T) (ts : List (Key × T)) : getK ((k', t) :: ts) k = if k' = k then some t else getK ts k := by
  unfold getK
  by_cases h : k' = k
  · rw [List.find?_cons_of_pos (by simp [h]), if_pos h]; rfl
  · rw [List.find?_cons_of_neg (by simp [h]), if_neg h]
theorem getD_ow {τ : List (Option T)} {O : List Ob} {i : Nat} {xs : List (Key × T)} (h : τ[i]? = some (some (.dic .ow xs))) : getD' (τ, O) i = some xs := by
  unfold getD' slot
  show (match (τ[i]?).join with | some (.dic .ow xs) => some xs | some (.hnd n) => _ | _ => none) = _
  rw [h]; rfl
theorem putD_ow {τ : List (Option T)} {O : List Ob} {i : Nat} {xs ys : List (Key × T)} (h : τ[i]? = some (some (.dic .ow xs))) : putD (τ, O) i ys = some (τ.set i (some (.dic .ow ys)), O) := by
  unfold putD slot
  show (match (τ[i]?).join with | some (.hnd n) => _ | _ => some (setS (τ, O) i (some (.dic .ow ys)))) = _
  rw [h]; rfl
theorem getD_lst {τ : List (Option T)} {O : List Ob} {i : Nat} {m : Mk} {xs : List T} (h : τ[i]? = some (some (.lst m xs))) : getD' (τ, O) i = none := by
  unfold getD' slot
  show (match (τ[i]?).join with | some (.dic .ow xs) => some xs | some (.hnd n) => _ | _ => none) = _
  rw [h]; rfl
theorem getD_hl {τ : List (Option T)} {O : List Ob} {i n : Nat} {xs : List T} (h : τ[i]? = some (some (.hnd n))) (h2 : O[n]? = some (.lst xs)) : getD' (τ, O) i = none := by
  unfold getD' slot
  show (match (τ[i]?).join with | some (.dic .ow xs) => some xs | some (.hnd n) => (match O[n]? with | some (.dic xs) => some xs | _ => none) | _ => none) = _
  rw [h]
  show (match O[n]? with | some (.dic xs) => some xs | _ => none) = _
  rw [h2]
/-- x[k] = .. of a list that a slot owns -/
theorem gIxA_ow {τ : List (Option T)} {O : List Ob} {i : Nat} {xs : List T} (h : τ[i]? = some (some (.lst .ow xs))) (d : DE) (t : T) : gIxA i d t (τ, O) = gIx i d t (τ, O) := by
  unfold gIxA
  rw [getD_lst h]
theorem gIxA_hnd {τ : List (Option T)} {O : List Ob} {i n : Nat} {xs : List T} (h : τ[i]? = some (some (.hnd n))) (h2 : O[n]? = some (.lst xs)) (d : DE) (t : T) : gIxA i d t (τ, O) = gIx i d t (τ, O) := by
  unfold gIxA
  rw [getD_hl h h2]
theorem gIxA_dic {τ : List (Option T)} {O : List Ob} {i : Nat} {kvs : List (Key × T)} (h : τ[i]? = some (some (.dic .ow kvs))) (d : DE) (t : T) : gIxA i d t (τ, O) = (d (τ, O)).bind fun p => (keyT p.1).bind fun k => (getD' p.2 i).bind fun kvs => if kvs.length < sizeLine ∧ (kvs.map (·.1)).Nodup then putD p.2 i (putT kvs k t) else none := by
  unfold gIxA
  rw [getD_ow h]

/-! ### trees of flat things -/
theorem noOws_map {α : Type} {f : α → T} (h : ∀ a, (f a).noOw = true) (l : List α) : noOws (l.map f) = true := noOws_of fun t m => by
  obtain ⟨a, _, rfl⟩ := List.mem_map.mp m; exact h a
theorem noBrs_map {α : Type} {f : α → T} (h : ∀ a, (f a).noBr = true) : ∀ l : List α, noBrs (l.map f) = true
  | [] => rfl
  | a :: l => by rw [List.map_cons, noBrs_cons, h a, noBrs_map h l]; rfl
theorem brws_map {α : Type} {f : α → T} (h : ∀ a, (f a).brw = f a) : ∀ l : List α, brws (l.map f) = l.map f
  | [] => rfl
  | a :: l => by rw [List.map_cons, brws_cons, h a, brws_map h l]
theorem frzs_map {α : Type} {f : α → T} (h : ∀ a, (f a).frz = f a) : ∀ l : List α, frzs (l.map f) = l.map f
  | [] => rfl
  | a :: l => by rw [List.map_cons, frzs_cons, h a, frzs_map h l]
@[simp] theorem noOws_map_str (l : List Str) : noOws (l.map T.str) = true := noOws_map (fun _ => rfl) l
@[simp] theorem noBrs_map_str (l : List Str) : noBrs (l.map T.str) = true := noBrs_map (fun _ => rfl) l
@[simp] theorem brws_map_str (l : List Str) : brws (l.map T.str) = l.map T.str := brws_map (fun _ => rfl) l
@[simp] theorem frzs_map_str (l : List Str) : frzs (l.map T.str) = l.map T.str := frzs_map (fun _ => rfl) l
@[simp] theorem noOws_map_bl (l : List Bool) : noOws (l.map T.bl) = true := noOws_map (fun _ => rfl) l
@[simp] theorem noBrs_map_bl (l : List Bool) : noBrs (l.map T.bl) = true := noBrs_map (fun _ => rfl) l
@[simp] theorem atI_map_str (l : List Str) (i : Int) : atI (l.map T.str) i = (atI l i).map T.str := atI_map _ _ _

/-! ### the same anew: all lists owned -/
mutual
def T.owT : T → T
  | .lst _ xs => .lst .ow (owTs xs)
  | .tup xs => .tup (owTs xs)
  | .dic _ _ => .non
  | .hnd _ => .non
  | .non => .non
  | .bl b => .bl b
  | .int i => .int i
  | .str x => .str x
def owTs : List T → List T
  | [] => []
  | t :: ts => t.owT :: owTs ts
end
mutual
/-- lists, tuples, texts, numbers, truths, None; no list too long -/
def T.plainT : T → Bool
  | .lst _ xs => plainTs xs && decide (xs.length < sizeLine)
  | .tup xs => plainTs xs && decide (xs.length < sizeLine ∧ noOws (owTs xs) = true)
  | .dic _ _ => false
  | .hnd _ => false
  | .str x => PyData.strOk x
  | .non => true
  | .bl _ => true
  | .int _ => true
def plainTs : List T → Bool
  | [] => true
  | t :: ts => t.plainT && plainTs ts
end
theorem owTs_len : ∀ xs : List T, (owTs xs).length = xs.length
  | [] => rfl
  | _ :: xs => congrArg (· + 1) (owTs_len xs)
theorem owTs_map (xs : List T) : owTs xs = xs.map T.owT := by
  induction xs with
  | nil => rfl
  | cons x xs ih => show x.owT :: owTs xs = _; rw [ih]; rfl
theorem frzs_len' : ∀ xs : List T, (frzs xs).length = xs.length
  | [] => rfl
  | _ :: xs => congrArg (· + 1) (frzs_len' xs)
theorem frzs_map' (xs : List T) : frzs xs = xs.map T.frz := by
  induction xs with
  | nil => rfl
  | cons x xs ih => show x.frz :: frzs xs = _; rw [ih]; rfl
mutual
theorem owT_frz : ∀ t : T, t.frz.owT = t.owT
  | .lst m xs => congrArg (T.lst .ow) (owTs_frz xs)
  | .tup xs => congrArg T.tup (owTs_frz xs)
  | .non => rfl
  | .bl _ => rfl
  | .int _ => rfl
  | .str _ => rfl
  | .hnd _ => rfl
  | .dic m kvs => rfl
theorem owTs_frz : ∀ ts : List T, owTs (frzs ts) = owTs ts
  | [] => rfl
  | t :: ts => by show t.frz.owT :: owTs (frzs ts) = _; rw [owT_frz t, owTs_frz ts]; rfl
end
mutual
theorem owT_owT : ∀ t : T, t.owT.owT = t.owT
  | .lst m xs => congrArg (T.lst .ow) (owTs_owT xs)
  | .tup xs => congrArg T.tup (owTs_owT xs)
  | .non => rfl
  | .bl _ => rfl
  | .int _ => rfl
  | .str _ => rfl
  | .hnd _ => rfl
  | .dic m kvs => rfl
theorem owTs_owT : ∀ ts : List T, owTs (owTs ts) = owTs ts
  | [] => rfl
  | t :: ts => by show t.owT.owT :: owTs (owTs ts) = _; rw [owT_owT t, owTs_owT ts]; rfl
end
mutual
theorem plainT_frz : ∀ t : T, t.frz.plainT = t.plainT
  | .lst m xs => by show (plainTs (frzs xs) && decide ((frzs xs).length < sizeLine)) = _; rw [plainTs_frz xs, frzs_len']; rfl
  | .tup xs => by show (plainTs (frzs xs) && decide ((frzs xs).length < sizeLine ∧ noOws (owTs (frzs xs)) = true)) = _; rw [plainTs_frz xs, frzs_len', owTs_frz]; rfl
  | .non => rfl
  | .bl _ => rfl
  | .int _ => rfl
  | .str _ => rfl
  | .hnd _ => rfl
  | .dic m kvs => rfl
theorem plainTs_frz : ∀ ts : List T, plainTs (frzs ts) = plainTs ts
  | [] => rfl
  | t :: ts => by show (t.frz.plainT && plainTs (frzs ts)) = _; rw [plainT_frz t, plainTs_frz ts]; rfl
end
mutual
theorem plainT_owT : ∀ t : T, t.plainT = true → t.owT.plainT = true
  | .lst m xs, h => by
    have h : (plainTs xs && decide (xs.length < sizeLine)) = true := h
    obtain ⟨h1, h2⟩ := Bool.and_eq_true_iff.mp h
    show (plainTs (owTs xs) && decide ((owTs xs).length < sizeLine)) = true
    rw [plainTs_owT xs h1, owTs_len, h2]; rfl
  | .tup xs, h => by
    have h : (plainTs xs && decide (xs.length < sizeLine ∧ noOws (owTs xs) = true)) = true := h
    obtain ⟨h1, h2⟩ := Bool.and_eq_true_iff.mp h
    show (plainTs (owTs xs) && decide ((owTs xs).length < sizeLine ∧ noOws (owTs (owTs xs)) = true)) = true
    rw [plainTs_owT xs h1, owTs_len, owTs_owT, h2]; rfl
  | .non, _ => rfl
  | .bl _, _ => rfl
  | .int _, _ => rfl
  | .str _, h => h
  | .hnd _, h => by cases h
  | .dic m kvs, h => by cases h
theorem plainTs_owT : ∀ ts : List T, plainTs ts = true → plainTs (owTs ts) = true
  | [], _ => rfl
  | t :: ts, h => by
    obtain ⟨h1, h2⟩ := Bool.and_eq_true_iff.mp (show (t.plainT && plainTs ts) = true from h)
    show (t.owT.plainT && plainTs (owTs ts)) = true
    rw [plainT_owT t h1, plainTs_owT ts h2]; rfl
end
mutual
theorem noBr_owT : ∀ t : T, t.plainT = true → t.owT.noBr = true
  | .lst m xs, h => noBrs_owT xs (Bool.and_eq_true_iff.mp (show (plainTs xs && decide (xs.length < sizeLine)) = true from h)).1
  | .tup xs, h => noBrs_owT xs (Bool.and_eq_true_iff.mp (show (plainTs xs && decide (xs.length < sizeLine ∧ noOws (owTs xs) = true)) = true from h)).1
  | .non, _ => rfl
  | .bl _, _ => rfl
  | .int _, _ => rfl
  | .str _, h => rfl
  | .hnd _, h => by cases h
  | .dic m kvs, h => by cases h
theorem noBrs_owT : ∀ ts : List T, plainTs ts = true → noBrs (owTs ts) = true
  | [], _ => rfl
  | t :: ts, h => by
    obtain ⟨h1, h2⟩ := Bool.and_eq_true_iff.mp (show (t.plainT && plainTs ts) = true from h)
    show (t.owT.noBr && noBrs (owTs ts)) = true
    rw [noBr_owT t h1, noBrs_owT ts h2]; rfl
end
mutual
theorem deep_frz : ∀ t : T, t.frz.deep = t.deep
  | .lst m xs => by show deeps (frzs xs) + 1 = deeps xs + 1; rw [deeps_frz xs]
  | .tup xs => by show deeps (frzs xs) + 1 = deeps xs + 1; rw [deeps_frz xs]
  | .non => rfl
  | .bl _ => rfl
  | .int _ => rfl
  | .str _ => rfl
  | .hnd _ => rfl
  | .dic m kvs => rfl
theorem deeps_frz : ∀ ts : List T, deeps (frzs ts) = deeps ts
  | [] => rfl
  | t :: ts => by show max t.frz.deep (deeps (frzs ts)) = max t.deep (deeps ts); rw [deep_frz t, deeps_frz ts]
end
theorem plainTs_mem : ∀ {xs : List T} {t : T}, plainTs xs = true → t ∈ xs → t.plainT = true
  | x :: xs, t, h, m => by
    obtain ⟨h1, h2⟩ := Bool.and_eq_true_iff.mp (show (x.plainT && plainTs xs) = true from h)
    rcases List.mem_cons.mp m with rfl | m
    · exact h1
    · exact plainTs_mem h2 m
theorem plainTs_of : ∀ {xs : List T}, (∀ t ∈ xs, t.plainT = true) → plainTs xs = true
  | [], _ => rfl
  | x :: xs, h => by
    show (x.plainT && plainTs xs) = true
    rw [h x (by simp), plainTs_of fun t m => h t (List.mem_cons_of_mem _ m)]; rfl
theorem deeps_le {n : Nat} : ∀ {xs : List T}, (∀ t ∈ xs, t.deep ≤ n) → deeps xs ≤ n
  | [], _ => Nat.zero_le _
  | x :: xs, h => Nat.max_le.mpr ⟨h x (by simp), deeps_le fun t m => h t (List.mem_cons_of_mem _ m)⟩
mutual
/-- plain trees but for marks are the same in the sense of Sm -/
theorem Sm_owT : ∀ (n : Nat) (t u : T), t.plainT = true → t.deep ≤ n → t.owT = u.owT → u.plainT = true → Sm n t u
  | 0, t, u, _, hd, _, _ => by cases t <;> simp [T.deep] at hd
  | n + 1, .int i, u, _, _, h, hu => by cases u <;> simp [T.owT] at h <;> first | exact h | (cases hu)
  | n + 1, .str i, u, _, _, h, hu => by cases u <;> simp [T.owT] at h <;> first | exact h | (cases hu)
  | n + 1, .bl i, u, _, _, h, hu => by cases u <;> simp [T.owT] at h <;> first | exact h | (cases hu)
  | n + 1, .non, u, _, _, h, hu => by cases u <;> simp [T.owT] at h <;> first | trivial | (cases hu)
  | n + 1, .dic _ _, _, h, _, _, _ => by cases h
  | n + 1, .hnd _, _, h, _, _, _ => by cases h
  | n + 1, .lst m xs, u, hp, hd, h, hu => by
    cases u with
    | lst m' ys =>
      have h : owTs xs = owTs ys := by simpa [T.owT] using h
      have hl : xs.length = ys.length := by rw [← owTs_len xs, ← owTs_len ys, h]
      obtain ⟨p1, p2⟩ := Bool.and_eq_true_iff.mp (show (plainTs xs && decide (xs.length < sizeLine)) = true from hp)
      have q1 := (Bool.and_eq_true_iff.mp (show (plainTs ys && decide (ys.length < sizeLine)) = true from hu)).1
      exact ⟨hl, Nat.le_of_lt (of_decide_eq_true p2), Sms_owT n xs ys p1 (by have : deeps xs + 1 ≤ n + 1 := hd; omega) h q1⟩
    | _ => simp [T.owT] at h
  | n + 1, .tup xs, u, hp, hd, h, hu => by
    cases u with
    | tup ys =>
      have h : owTs xs = owTs ys := by simpa [T.owT] using h
      have hl : xs.length = ys.length := by rw [← owTs_len xs, ← owTs_len ys, h]
      obtain ⟨p1, p2⟩ := Bool.and_eq_true_iff.mp (show (plainTs xs && decide (xs.length < sizeLine ∧ noOws (owTs xs) = true)) = true from hp)
      have q1 := (Bool.and_eq_true_iff.mp (show (plainTs ys && decide (ys.length < sizeLine ∧ noOws (owTs ys) = true)) = true from hu)).1
      exact ⟨hl, Nat.le_of_lt (of_decide_eq_true p2).1, Sms_owT n xs ys p1 (by have : deeps xs + 1 ≤ n + 1 := hd; omega) h q1⟩
    | _ => simp [T.owT] at h
theorem Sms_owT : ∀ (n : Nat) (xs ys : List T), plainTs xs = true → deeps xs ≤ n → owTs xs = owTs ys → plainTs ys = true → ∀ (i : Nat) (x y : T), xs[i]? = some x → ys[i]? = some y → Sm n x y
  | n, [], ys, _, _, h, _ => fun i x y e _ => by cases e
  | n, a :: xs, [], _, _, h, _ => fun i x y e e2 => by cases e2
  | n, a :: xs, b :: ys, hp, hd, h, hq => fun i x y e e2 => by
    obtain ⟨p1, p2⟩ := Bool.and_eq_true_iff.mp (show (a.plainT && plainTs xs) = true from hp)
    obtain ⟨q1, q2⟩ := Bool.and_eq_true_iff.mp (show (b.plainT && plainTs ys) = true from hq)
    obtain ⟨d1, d2⟩ := Nat.max_le.mp (show max a.deep (deeps xs) ≤ n from hd)
    obtain ⟨h1, h2⟩ := List.cons.inj (show a.owT :: owTs xs = b.owT :: owTs ys from h)
    cases i with
    | zero => cases e; cases e2; exact Sm_owT n _ _ p1 d1 h1 q1
    | succ i => exact Sms_owT n xs ys p2 d2 h2 q2 i x y e e2
end

/-! ### == of a plain thing with itself -/
mutual
def T.dataT : T → Bool
  | .lst _ xs => dataTs xs
  | .tup xs => dataTs xs
  | .dic _ _ => false
  | .hnd _ => false
  | .str x => PyData.strOk x
  | .non => true
  | .bl _ => true
  | .int _ => true
def dataTs : List T → Bool
  | [] => true
  | t :: ts => t.dataT && dataTs ts
end
mutual
theorem plain_data : ∀ t : T, t.plainT = true → t.dataT = true
  | .lst m xs, h => plains_data xs (Bool.and_eq_true_iff.mp (show (plainTs xs && decide (xs.length < sizeLine)) = true from h)).1
  | .tup xs, h => plains_data xs (Bool.and_eq_true_iff.mp (show (plainTs xs && decide (xs.length < sizeLine ∧ noOws (owTs xs) = true)) = true from h)).1
  | .non, _ => rfl
  | .bl _, _ => rfl
  | .int _, _ => rfl
  | .str _, h => h
  | .hnd _, h => by cases h
  | .dic m kvs, h => by cases h
theorem plains_data : ∀ ts : List T, plainTs ts = true → dataTs ts = true
  | [], _ => rfl
  | t :: ts, h => by
    obtain ⟨h1, h2⟩ := Bool.and_eq_true_iff.mp (show (t.plainT && plainTs ts) = true from h)
    show (t.dataT && dataTs ts) = true
    rw [plain_data t h1, plains_data ts h2]; rfl
end
mutual
theorem data_toP : ∀ t : T, t.dataT = true → ∃ d, t.toP = some d ∧ d.canLay0 = true ∧ d.depth ≤ t.deep ∧ PyData.eqv d d = true
  | .lst m xs, h => by
    obtain ⟨ds, h1, h2, h3, h4⟩ := datas_toP xs h
    refine ⟨.list ds, by unfold T.toP; rw [h1]; rfl, by rw [PyData.canLay0]; exact h2, ?_, by rw [PyData.eqv]; exact h4⟩
    show PyData.depth (.list ds) ≤ deeps xs + 1
    rw [PyData.depth]
    omega
  | .tup xs, h => by
    obtain ⟨ds, h1, h2, h3, h4⟩ := datas_toP xs h
    refine ⟨.tuple ds, by unfold T.toP; rw [h1]; rfl, by rw [PyData.canLay0]; exact h2, ?_, by rw [PyData.eqv]; exact h4⟩
    show PyData.depth (.tuple ds) ≤ deeps xs + 1
    rw [PyData.depth]
    omega
  | .non, _ => ⟨.none, rfl, by simp [PyData.canLay0], by simp [PyData.depth], by simp [PyData.eqv]⟩
  | .bl b, _ => ⟨.bool b, rfl, by simp [PyData.canLay0], by simp [PyData.depth], by simp [PyData.eqv]⟩
  | .int i, _ => ⟨.int i, rfl, by simp [PyData.canLay0], by simp [PyData.depth], by simp [PyData.eqv]⟩
  | .str x, h => ⟨.str x, rfl, by rw [PyData.canLay0]; exact h, by simp [PyData.depth], by simp [PyData.eqv]⟩
  | .hnd _, h => by cases h
  | .dic m kvs, h => by cases h
theorem datas_toP : ∀ ts : List T, dataTs ts = true → ∃ ds, toPs ts = some ds ∧ PyData.canLayAll0 ds = true ∧ PyData.depthAll ds ≤ deeps ts ∧ PyData.eqvAll ds ds = true
  | [], _ => ⟨[], rfl, by simp [PyData.canLayAll0], by simp [PyData.depthAll], by simp [PyData.eqvAll]⟩
  | t :: ts, h => by
    obtain ⟨h1, h2⟩ := Bool.and_eq_true_iff.mp (show (t.dataT && dataTs ts) = true from h)
    obtain ⟨d, a1, a2, a3, a4⟩ := data_toP t h1
    obtain ⟨ds, b1, b2, b3, b4⟩ := datas_toP ts h2
    refine ⟨d :: ds, by unfold toPs; rw [a1, Option.bind_some, b1]; rfl, by simp [PyData.canLayAll0, a2, b2], ?_, by simp [PyData.eqvAll, a4, b4]⟩
    show PyData.depthAll (d :: ds) ≤ max t.deep (deeps ts)
    rw [PyData.depthAll]
    omega
end
theorem fNe_self {t u : T} (h : t.dataT = true) (hd : t.deep ≤ 60) (e : t.toP = u.toP) (hl : ∃ m xs, t = .lst m xs) : fNe t u = some (.bl false) := by
  obtain ⟨d, h1, h2, h3, h4⟩ := data_toP t h
  obtain ⟨m, xs, rfl⟩ := hl
  have s : SeqAt.shaped d = true := by
    unfold SeqAt.shaped
    rw [h2, decide_eq_true (show d.depth ≤ 64 by omega)]; rfl
  unfold fNe
  have q : eqT (.lst m xs) u = some true := by
    show (T.toP (.lst m xs)).bind (fun d => u.toP.bind fun e => if SeqAt.shaped d && SeqAt.shaped e then some (PyData.eqv d e) else none) = _
    rw [← e, h1, Option.bind_some, Option.bind_some, s, h4]; rfl
  rw [q]; rfl

/-! ### marked -/
mutual
theorem mark_ok {m : Str} (hm : PyData.strOk m = true) : ∀ t : T, t.plainT = true → ∃ z, markT m t.owT = some z ∧ z.noBr = true ∧ z.dataT = true ∧ z.deep ≤ t.deep + 1 ∧ ((∃ mk xs, t = .lst mk xs) → ∃ ys, z = .lst .ow ys)
  | .lst mk xs, h => by
    obtain ⟨p1, p2⟩ := Bool.and_eq_true_iff.mp (show (plainTs xs && decide (xs.length < sizeLine)) = true from h)
    obtain ⟨zs, h1, h2, h3, h4, h5⟩ := marks_ok hm xs p1
    have hb : ∀ l : List T, noBrs l = true → noBrs (l ++ [.str m]) = true := fun l hl => by
      induction l with
      | nil => rfl
      | cons a l ih =>
        obtain ⟨u1, u2⟩ := Bool.and_eq_true_iff.mp (show (a.noBr && noBrs l) = true from hl)
        show (a.noBr && noBrs (l ++ [.str m])) = true
        rw [u1, ih u2]; rfl
    have hda : ∀ l : List T, dataTs l = true → dataTs (l ++ [.str m]) = true := fun l hl => by
      induction l with
      | nil => show (PyData.strOk m && true) = true; rw [hm]; rfl
      | cons a l ih =>
        obtain ⟨u1, u2⟩ := Bool.and_eq_true_iff.mp (show (a.dataT && dataTs l) = true from hl)
        show (a.dataT && dataTs (l ++ [.str m])) = true
        rw [u1, ih u2]; rfl
    have hde : ∀ l : List T, deeps (l ++ [.str m]) ≤ max (deeps l) 1 := fun l => by
      induction l with
      | nil => show max 1 0 ≤ max 0 1; omega
      | cons a l ih => show max a.deep (deeps (l ++ [.str m])) ≤ max (max a.deep (deeps l)) 1; omega
    refine ⟨T.lst .ow (zs ++ [T.str m]), ?_, hb _ h2, hda _ h3, ?_, fun _ => ⟨_, rfl⟩⟩
    · unfold T.owT markT
      rw [h1, Option.bind_some, if_pos (by rw [h5]; exact of_decide_eq_true p2)]
    · show deeps (zs ++ [.str m]) + 1 ≤ deeps xs + 1 + 1
      have := hde zs
      omega
  | .tup xs, h => by
    obtain ⟨p1, p2⟩ := Bool.and_eq_true_iff.mp (show (plainTs xs && decide (xs.length < sizeLine ∧ noOws (owTs xs) = true)) = true from h)
    obtain ⟨zs, h1, h2, h3, h4, h5⟩ := marks_ok hm xs p1
    refine ⟨.tup zs, ?_, h2, h3, ?_, fun ⟨_, _, e⟩ => by cases e⟩
    · unfold T.owT markT
      rw [h1]; rfl
    · show deeps zs + 1 ≤ deeps xs + 1 + 1
      omega
  | .non, _ => ⟨.non, by unfold T.owT markT; rfl, rfl, rfl, by show 1 ≤ 2; omega, fun ⟨_, _, e⟩ => by cases e⟩
  | .bl b, _ => ⟨.bl b, by unfold T.owT markT; rfl, rfl, rfl, by show 1 ≤ 2; omega, fun ⟨_, _, e⟩ => by cases e⟩
  | .int i, _ => ⟨.int i, by unfold T.owT markT; rfl, rfl, rfl, by show 1 ≤ 2; omega, fun ⟨_, _, e⟩ => by cases e⟩
  | .str x, h => ⟨.str x, by unfold T.owT markT; rfl, rfl, h, by show 1 ≤ 2; omega, fun ⟨_, _, e⟩ => by cases e⟩
  | .hnd _, h => by cases h
  | .dic m kvs, h => by cases h
theorem marks_ok {m : Str} (hm : PyData.strOk m = true) : ∀ ts : List T, plainTs ts = true → ∃ zs, markTs m (owTs ts) = some zs ∧ noBrs zs = true ∧ dataTs zs = true ∧ deeps zs ≤ deeps ts + 1 ∧ zs.length = ts.length
  | [], _ => ⟨[], by unfold owTs markTs; rfl, rfl, rfl, Nat.zero_le _, rfl⟩
  | t :: ts, h => by
    obtain ⟨h1, h2⟩ := Bool.and_eq_true_iff.mp (show (t.plainT && plainTs ts) = true from h)
    obtain ⟨z, a1, a2, a3, a4, _⟩ := mark_ok hm t h1
    obtain ⟨zs, b1, b2, b3, b4, b5⟩ := marks_ok hm ts h2
    refine ⟨z :: zs, ?_, by show (z.noBr && noBrs zs) = true; rw [a2, b2]; rfl, by show (z.dataT && dataTs zs) = true; rw [a3, b3]; rfl, ?_, by rw [List.length_cons, List.length_cons, b5]⟩
    · unfold owTs markTs
      rw [a1, Option.bind_some, b1]; rfl
    · show max z.deep (deeps zs) ≤ max t.deep (deeps ts) + 1
      omega
end
mutual
theorem deep_owT : ∀ t : T, t.plainT = true → t.owT.deep = t.deep
  | .lst m xs, h => by show deeps (owTs xs) + 1 = deeps xs + 1; rw [deeps_owT xs (Bool.and_eq_true_iff.mp (show (plainTs xs && decide (xs.length < sizeLine)) = true from h)).1]
  | .tup xs, h => by show deeps (owTs xs) + 1 = deeps xs + 1; rw [deeps_owT xs (Bool.and_eq_true_iff.mp (show (plainTs xs && decide (xs.length < sizeLine ∧ noOws (owTs xs) = true)) = true from h)).1]
  | .non, _ => rfl
  | .bl _, _ => rfl
  | .int _, _ => rfl
  | .str _, _ => rfl
  | .hnd _, h => by cases h
  | .dic m kvs, h => by cases h
theorem deeps_owT : ∀ ts : List T, plainTs ts = true → deeps (owTs ts) = deeps ts
  | [], _ => rfl
  | t :: ts, h => by
    obtain ⟨h1, h2⟩ := Bool.and_eq_true_iff.mp (show (t.plainT && plainTs ts) = true from h)
    show max t.owT.deep (deeps (owTs ts)) = max t.deep (deeps ts); rw [deep_owT t h1, deeps_owT ts h2]
end
/-- a told thing and its copy, marked: the same -/
theorem e_mark {m : Str} {n : Nat} {mk : Mk} {xs : List T} {O : List Ob} (hm : PyData.strOk m = true) (h : T.plainT (.lst mk xs) = true) (hd : T.deep (.lst mk xs) ≤ n) : ∃ z, (∀ O, d_mark m n [T.owT (.lst mk xs)] O = some (z, O)) ∧ z.noBr = true ∧ z.dataT = true ∧ z.deep ≤ n + 1 ∧ ∃ ys, z = .lst .ow ys := by
  obtain ⟨z, h1, h2, h3, h4, h5⟩ := mark_ok hm _ h
  obtain ⟨ys, rfl⟩ := h5 ⟨mk, xs, rfl⟩
  refine ⟨_, fun O => ?_, h2, h3, by omega, ys, rfl⟩
  unfold d_mark
  show (if (T.owT (.lst mk xs)).deep ≤ n then (markT m (T.owT (.lst mk xs))).bind (fun z => if z.noBr then some (z, O) else none) else none) = _
  rw [if_pos (by rw [deep_owT _ h]; exact hd), h1, Option.bind_some, if_pos h2]
end TL

set_option Elab.async false
set_option linter.all false
set_option maxRecDepth 100000
/-! TL27: entries of a log, in plain Lean: their trees, their order, what is in force. -/
namespace TL
open PySem PySem.Spec L2

/-- a name: one to eight small letters -/
def Nm (s : Str) : Prop := 1 ≤ s.cps.toList.length ∧ s.cps.toList.length ≤ 8 ∧ ∀ c ∈ s.cps.toList, 97 ≤ c ∧ c ≤ 122
theorem Nm.ok {s : Str} (h : Nm s) : PyData.strOk s = true := by
  unfold PyData.strOk
  rw [← Array.all_toList]
  refine List.all_eq_true.mpr fun c m => decide_eq_true ?_
  have := (h.2.2 c m).2
  omega
inductive Part where
  | hand (n : Str) (a b c e : Int) | off (n : Str) | load (n : Str) (w : Int) (c : Str) | canoe (n : Str) (w s : Int) (c : Str) | way (n a b k : Str) (l h : Int)
  | shut (n : Str) (f t : Int) | storm (f t : Int) | store (c : Str) (r : Int) | fill (r : Int) | take (n : Str) | leave (n : Str) | go (n : Str)
def Part.word : Part → Str
  | .hand .. => "hand" | .off .. => "off" | .load .. => "load" | .canoe .. => "canoe" | .way .. => "way" | .shut .. => "shut" | .storm .. => "storm"
  | .store .. => "store" | .fill .. => "fill" | .take .. => "take" | .leave .. => "leave" | .go .. => "go"
def Part.rest : Part → List T
  | .hand n a b c e => [.str n, .int a, .int b, .int c, .int e]
  | .off n => [.str n]
  | .load n w c => [.str n, .int w, .str c]
  | .canoe n w s c => [.str n, .int w, .int s, .str c]
  | .way n a b k l h => [.str n, .str a, .str b, .str k, .int l, .int h]
  | .shut n f t => [.str n, .int f, .int t]
  | .storm f t => [.int f, .int t]
  | .store c r => [.str c, .int r]
  | .fill r => [.int r]
  | .take n => [.str n]
  | .leave n => [.str n]
  | .go n => [.str n]
def Part.t (p : Part) : T := .tup (.str p.word :: p.rest)
def lbs (i : Int) : Prop := 0 ≤ i ∧ i ≤ 1000000
/-- of its form, told on day d -/
def Part.ok (d : Int) : Part → Prop
  | .hand n a b c e => Nm n ∧ lbs a ∧ lbs b ∧ lbs c ∧ 0 ≤ e ∧ e ≤ 9
  | .off n => Nm n
  | .load n w c => Nm n ∧ 1 ≤ w ∧ w ≤ 1000000 ∧ Nm c
  | .canoe n w s c => Nm n ∧ 1 ≤ w ∧ w ≤ 1000000 ∧ lbs s ∧ Nm c
  | .way n a b k l h => Nm n ∧ Nm a ∧ Nm b ∧ (k = "land" ∨ k = "water") ∧ 1 ≤ l ∧ l ≤ 10000 ∧ 1 ≤ h ∧ h ≤ 9
  | .shut n f t => Nm n ∧ d ≤ f ∧ f ≤ t ∧ t ≤ 199
  | .storm f t => d ≤ f ∧ f ≤ t ∧ t ≤ 199
  | .store c r => Nm c ∧ 1 ≤ r ∧ r ≤ 4000
  | .fill r => 1 ≤ r ∧ r ≤ 4000
  | .take n => Nm n
  | .leave n => Nm n
  | .go n => Nm n
structure En where
  num : Int
  day : Int
  part : Part
def En.t (e : En) : T := .tup (.int e.num :: .int e.day :: .str e.part.word :: e.part.rest)
def En.ok (e : En) : Prop := 1 ≤ e.num ∧ e.num ≤ 9999 ∧ 0 ≤ e.day ∧ e.day ≤ 199 ∧ e.part.ok e.day
@[simp] theorem rest_noOw (p : Part) : noOws p.rest = true := by cases p <;> rfl
@[simp] theorem rest_noBr (p : Part) : noBrs p.rest = true := by cases p <;> rfl
@[simp] theorem rest_brw (p : Part) : brws p.rest = p.rest := by cases p <;> rfl
@[simp] theorem rest_frz (p : Part) : frzs p.rest = p.rest := by cases p <;> rfl
@[simp] theorem part_noOw (p : Part) : p.t.noOw = true := rest_noOw p
@[simp] theorem part_noBr (p : Part) : p.t.noBr = true := rest_noBr p
@[simp] theorem en_noOw (e : En) : e.t.noOw = true := rest_noOw e.part
@[simp] theorem en_noBr (e : En) : e.t.noBr = true := rest_noBr e.part
@[simp] theorem en_brw (e : En) : e.t.brw = e.t := by show T.tup (.int e.num :: .int e.day :: .str e.part.word :: brws e.part.rest) = _; rw [rest_brw]; rfl
@[simp] theorem en_frz (e : En) : e.t.frz = e.t := by show T.tup (.int e.num :: .int e.day :: .str e.part.word :: frzs e.part.rest) = _; rw [rest_frz]; rfl
@[simp] theorem ens_noOw (l : List En) : noOws (l.map En.t) = true := noOws_map en_noOw l
@[simp] theorem ens_noBr (l : List En) : noBrs (l.map En.t) = true := noBrs_map en_noBr l
@[simp] theorem ens_brw (l : List En) : brws (l.map En.t) = l.map En.t := brws_map en_brw l
@[simp] theorem ens_frz (l : List En) : frzs (l.map En.t) = l.map En.t := frzs_map en_frz l
@[simp] theorem view_en (S : SS) (e : En) : view S e.t = e.t := rfl
@[simp] theorem kids_en (e : En) : e.t.kids = true := rest_noOw e.part
theorem atI_cons {α : Type} (x : α) (l : List α) (j : Nat) : atI (x :: l) ((j + 1 : Nat) : Int) = atI l (j : Int) := by
  unfold atI ixN
  simp only [List.length_cons]
  by_cases h : j < l.length
  · rw [if_pos (by omega), if_pos (by omega), if_pos (by omega), if_pos (by omega)]
    show (x :: l)[((j + 1 : Nat) : Int).toNat]? = l[(j : Int).toNat]?
    rw [Int.toNat_natCast, Int.toNat_natCast]
    rfl
  · rw [if_pos (by omega), if_neg (by omega), if_pos (by omega), if_neg (by omega)]
    rfl
@[simp] theorem atI_one {α : Type} (x y : α) (l : List α) : atI (x :: y :: l) 1 = some y := atI_nat (j := 1) rfl (by simp)
@[simp] theorem atI_two {α : Type} (x y z : α) (l : List α) : atI (x :: y :: z :: l) 2 = some z := atI_nat (j := 2) rfl (by simp)
@[simp] theorem atI_three {α : Type} (a x y z : α) (l : List α) : atI (a :: x :: y :: z :: l) 3 = some z := atI_nat (j := 3) rfl (by simp)
@[simp] theorem atI_four {α : Type} (a b x y z : α) (l : List α) : atI (a :: b :: x :: y :: z :: l) 4 = some z := atI_nat (j := 4) rfl (by simp)
@[simp] theorem atI_five {α : Type} (a b c x y z : α) (l : List α) : atI (a :: b :: c :: x :: y :: z :: l) 5 = some z := atI_nat (j := 5) rfl (by simp)
@[simp] theorem atI_six {α : Type} (a b c d x y z : α) (l : List α) : atI (a :: b :: c :: d :: x :: y :: z :: l) 6 = some z := atI_nat (j := 6) rfl (by simp)
@[simp] theorem atI_seven {α : Type} (a b c d e x y z : α) (l : List α) : atI (a :: b :: c :: d :: e :: x :: y :: z :: l) 7 = some z := atI_nat (j := 7) rfl (by simp)
@[simp] theorem atI_eight {α : Type} (a b c d e f x y z : α) (l : List α) : atI (a :: b :: c :: d :: e :: f :: x :: y :: z :: l) 8 = some z := atI_nat (j := 8) rfl (by simp)
@[simp] theorem en_0 (e : En) : fIxA e.t (.int 0) = some (.int e.num) := by unfold En.t; simp
@[simp] theorem en_1 (e : En) : fIxA e.t (.int 1) = some (.int e.day) := by unfold En.t; simp
@[simp] theorem en_2 (e : En) : fIxA e.t (.int 2) = some (.str e.part.word) := by unfold En.t; simp
theorem rest_plain {d : Int} {p : Part} (h : p.ok d) : plainTs p.rest = true ∧ p.rest.length ≤ 6 := by
  cases p with
  | hand n a b c e => exact ⟨by show (PyData.strOk n && true) = true; rw [h.1.ok]; rfl, by show 5 ≤ 6; decide⟩
  | off n => exact ⟨by show (PyData.strOk n && true) = true; rw [Nm.ok h]; rfl, by show 1 ≤ 6; decide⟩
  | load n w c => exact ⟨by show (PyData.strOk n && (true && (PyData.strOk c && true))) = true; rw [h.1.ok, h.2.2.2.ok]; rfl, by show 3 ≤ 6; decide⟩
  | canoe n w s c => exact ⟨by show (PyData.strOk n && (true && (true && (PyData.strOk c && true)))) = true; rw [h.1.ok, h.2.2.2.2.ok]; rfl, by show 4 ≤ 6; decide⟩
  | way n a b k l hh =>
    have hk : PyData.strOk k = true := by rcases h.2.2.2.1 with e | e <;> rw [e] <;> decide +kernel
    exact ⟨by show (PyData.strOk n && (PyData.strOk a && (PyData.strOk b && (PyData.strOk k && true)))) = true; rw [h.1.ok, h.2.1.ok, h.2.2.1.ok, hk]; rfl, by show 6 ≤ 6; decide⟩
  | shut n f t => exact ⟨by show (PyData.strOk n && true) = true; rw [h.1.ok]; rfl, by show 3 ≤ 6; decide⟩
  | storm f t => exact ⟨rfl, by show 2 ≤ 6; decide⟩
  | store c r => exact ⟨by show (PyData.strOk c && true) = true; rw [h.1.ok]; rfl, by show 2 ≤ 6; decide⟩
  | fill r => exact ⟨rfl, by show 1 ≤ 6; decide⟩
  | take n => exact ⟨by show (PyData.strOk n && true) = true; rw [Nm.ok h]; rfl, by show 1 ≤ 6; decide⟩
  | leave n => exact ⟨by show (PyData.strOk n && true) = true; rw [Nm.ok h]; rfl, by show 1 ≤ 6; decide⟩
  | go n => exact ⟨by show (PyData.strOk n && true) = true; rw [Nm.ok h]; rfl, by show 1 ≤ 6; decide⟩
theorem word_ok (p : Part) : PyData.strOk p.word = true := by cases p <;> (simp only [Part.word]; decide +kernel)
theorem small_line {n : Nat} (h : n ≤ 1000) : n < sizeLine := Nat.lt_of_le_of_lt h (by decide)
theorem en_plain {e : En} (h : e.ok) : e.t.plainT = true := by
  obtain ⟨h1, h2⟩ := rest_plain h.2.2.2.2
  have h3 : noOws (owTs e.part.rest) = true := by cases e.part <;> rfl
  show (true && (true && (PyData.strOk e.part.word && plainTs e.part.rest)) && decide ((e.part.rest.length + 1 + 1 + 1) < sizeLine ∧ noOws (owTs e.part.rest) = true)) = true
  rw [word_ok, h1, decide_eq_true ⟨small_line (by omega), h3⟩]; rfl
theorem rest_deep (p : Part) : deeps p.rest = 1 := by cases p <;> rfl
theorem en_deep (e : En) : e.t.deep = 2 := by
  show max 1 (max 1 (max 1 (deeps e.part.rest))) + 1 = 2
  rw [rest_deep]; rfl
/-! ### == of entries -/
mutual
/-- data of whole numbers and texts, in lists and tuples -/
def flatD : PyData → Bool
  | .int _ => true
  | .str _ => true
  | .list xs => flatDs xs
  | .tuple xs => flatDs xs
  | _ => false
def flatDs : List PyData → Bool
  | [] => true
  | x :: xs => flatD x && flatDs xs
end
mutual
theorem eqv_flat : ∀ x y : PyData, flatD x = true → flatD y = true → (PyData.eqv x y = true ↔ x = y)
  | .int i, y, _, hy => by cases y <;> simp [PyData.eqv, flatD] at hy ⊢
  | .str i, y, _, hy => by cases y <;> simp [PyData.eqv, flatD] at hy ⊢
  | .list xs, y, hx, hy => by
    cases y with
    | list ys => rw [PyData.eqv]; simp only [flatD] at hx hy; simp [eqvs_flat xs ys hx hy]
    | _ => simp [PyData.eqv, flatD] at hy ⊢
  | .tuple xs, y, hx, hy => by
    cases y with
    | tuple ys => rw [PyData.eqv]; simp only [flatD] at hx hy; simp [eqvs_flat xs ys hx hy]
    | _ => simp [PyData.eqv, flatD] at hy ⊢
  | .none, _, h, _ => by simp [flatD] at h
  | .bool _, _, h, _ => by simp [flatD] at h
  | .dict _, _, h, _ => by simp [flatD] at h
theorem eqvs_flat : ∀ xs ys : List PyData, flatDs xs = true → flatDs ys = true → (PyData.eqvAll xs ys = true ↔ xs = ys)
  | [], [], _, _ => by simp [PyData.eqvAll]
  | [], y :: ys, _, _ => by simp [PyData.eqvAll]
  | x :: xs, [], _, _ => by simp [PyData.eqvAll]
  | x :: xs, y :: ys, hx, hy => by
    obtain ⟨a1, a2⟩ := Bool.and_eq_true_iff.mp (show (flatD x && flatDs xs) = true by simpa [flatDs] using hx)
    obtain ⟨b1, b2⟩ := Bool.and_eq_true_iff.mp (show (flatD y && flatDs ys) = true by simpa [flatDs] using hy)
    rw [PyData.eqvAll, Bool.and_eq_true_iff, eqv_flat x y a1 b1, eqvs_flat xs ys a2 b2, List.cons.injEq]
end
def atomD : T → PyData
  | .int i => .int i
  | .str x => .str x
  | _ => .none
def Part.data (p : Part) : List PyData := p.rest.map atomD
def En.data (e : En) : PyData := .tuple (.int e.num :: .int e.day :: .str e.part.word :: e.part.data)
theorem rest_toPs (p : Part) : toPs p.rest = some p.data := by cases p <;> rfl
theorem en_toP (e : En) : e.t.toP = some e.data := by
  have h : toPs (.int e.num :: .int e.day :: .str e.part.word :: e.part.rest) = some (.int e.num :: .int e.day :: .str e.part.word :: e.part.data) := by
    simp only [toPs, T.toP, rest_toPs, Option.bind_some]
  show (toPs (.int e.num :: .int e.day :: .str e.part.word :: e.part.rest)).bind _ = _
  rw [h]; rfl
theorem data_flat (p : Part) : flatDs p.data = true := by cases p <;> rfl
theorem en_flat (e : En) : flatD e.data = true := by
  show flatDs (.int e.num :: .int e.day :: .str e.part.word :: e.part.data) = true
  simp [flatDs, flatD, data_flat]
theorem data_inj {p q : Part} (hw : p.word = q.word) (h : p.data = q.data) : p = q := by
  cases p <;> cases q <;> first | (exact absurd hw (by simp only [Part.word]; decide +kernel)) | (simp only [Part.data, Part.rest, atomD, List.map_cons, List.map_nil, List.cons.injEq, PyData.int.injEq, PyData.str.injEq, and_true] at h; simp only [h])
theorem en_inj {e f : En} (h : e.data = f.data) : e = f := by
  have h := PyData.tuple.inj h
  simp only [List.cons.injEq, PyData.int.injEq, PyData.str.injEq] at h
  obtain ⟨h1, h2, h3, h4⟩ := h
  have h5 := data_inj h3 h4
  cases e; cases f
  simp_all
theorem en_shaped {e : En} (h : e.ok) : SeqAt.shaped e.data = true := by
  obtain ⟨d, h1, h2, h3, _⟩ := data_toP e.t (plain_data _ (en_plain h))
  rw [en_toP] at h1
  cases h1
  rw [en_deep] at h3
  unfold SeqAt.shaped
  rw [h2, decide_eq_true (show e.data.depth ≤ 64 by omega)]; rfl
def eqE (e f : En) : Bool := PyData.eqv e.data f.data
theorem eqE_iff {e f : En} : eqE e f = true ↔ e = f := (eqv_flat e.data f.data (en_flat e) (en_flat f)).trans ⟨en_inj, fun h => by rw [h]⟩
theorem fNe_en {e f : En} (he : e.ok) (hf : f.ok) : fNe e.t f.t = some (.bl (!eqE e f)) := by
  have q : eqT e.t f.t = some (eqE e f) := by
    show (e.t.toP.bind fun d => f.t.toP.bind fun g => if SeqAt.shaped d && SeqAt.shaped g then some (PyData.eqv d g) else none) = _
    rw [en_toP, en_toP, Option.bind_some, Option.bind_some, en_shaped he, en_shaped hf]
    rfl
  unfold fNe
  rw [q]; rfl

/-! ### the order -/
def leE (e f : En) : Bool := decide (e.day < f.day ∨ (e.day = f.day ∧ e.num ≤ f.num))
def sortE (l : List En) : List En := l.mergeSort leE
def told (l : List En) (d : Int) : List En := sortE (l.filter fun e => decide (e.day ≤ d))
theorem sortE_perm (l : List En) : (sortE l).Perm l := List.mergeSort_perm l leE
theorem sortE_sorted (l : List En) : (sortE l).Pairwise fun a b => leE a b = true := List.pairwise_mergeSort (fun a b c h1 h2 => by
  have h1 := of_decide_eq_true h1
  have h2 := of_decide_eq_true h2
  exact decide_eq_true (by omega)) (fun a b => by
  unfold leE
  by_cases h : a.day < b.day ∨ (a.day = b.day ∧ a.num ≤ b.num)
  · rw [decide_eq_true h]; rfl
  · rw [decide_eq_false h, decide_eq_true (by omega)]; rfl) l
/-- no number twice -/
def Uq (l : List En) : Prop := (l.map En.num).Nodup
theorem Uq.inj {l : List En} (h : Uq l) : ∀ {a b : En}, a ∈ l → b ∈ l → a.num = b.num → a = b := by
  induction l with
  | nil => intro a b m; exact absurd m (by simp)
  | cons x l ih =>
    intro a b m m' e
    obtain ⟨h1, h2⟩ := List.nodup_cons.mp (show (x.num :: l.map En.num).Nodup from h)
    rcases List.mem_cons.mp m with ea | ma
    · rcases List.mem_cons.mp m' with eb | mb
      · rw [ea, eb]
      · exact absurd (List.mem_map.mpr ⟨b, mb, by rw [← e, ea]⟩) h1
    · rcases List.mem_cons.mp m' with eb | mb
      · exact absurd (List.mem_map.mpr ⟨a, ma, by rw [e, eb]⟩) h1
      · exact ih h2 ma mb e
theorem Uq.perm {l m : List En} (h : Uq l) (p : l.Perm m) : Uq m := (p.map En.num).nodup_iff.mp h
theorem Uq.filter {l : List En} (h : Uq l) (p : En → Bool) : Uq (l.filter p) := List.Nodup.sublist ((List.filter_sublist).map En.num) h
theorem sortE_uniq {l m s : List En} (h : Uq l) (hp : s.Perm l) (hs : s.Pairwise fun a b => leE a b = true) (p : l.Perm m) : s = sortE m := by
  refine List.Perm.eq_of_pairwise (le := fun a b => leE a b = true) (fun a b ma mb h1 h2 => ?_) hs (sortE_sorted m) (hp.trans (p.trans (sortE_perm m).symm))
  have h1 := of_decide_eq_true h1
  have h2 := of_decide_eq_true h2
  exact h.inj (hp.mem_iff.mp ma) (p.symm.mem_iff.mp ((sortE_perm m).mem_iff.mp mb)) (by omega)
theorem sortE_same {l m : List En} (h : Uq l) (p : l.Perm m) : sortE l = sortE m := sortE_uniq h (sortE_perm l) (sortE_sorted l) p
theorem told_perm {l m : List En} {d : Int} (h : Uq l) (p : l.Perm m) : told l d = told m d := sortE_same (h.filter _) (p.filter _)
theorem sortE_filter {l : List En} (h : Uq l) (p : En → Bool) : (sortE l).filter p = sortE (l.filter p) :=
  sortE_uniq (h.filter p) ((sortE_perm l).filter p) ((sortE_sorted l).sublist List.filter_sublist) (List.Perm.refl _)
theorem told_mem {l : List En} {d : Int} {e : En} : e ∈ told l d ↔ e ∈ l ∧ e.day ≤ d := by
  unfold told
  rw [(sortE_perm _).mem_iff, List.mem_filter, decide_eq_true_eq]
theorem told_len {l : List En} {d : Int} : (told l d).length ≤ l.length := by
  unfold told
  rw [(sortE_perm _).length_eq]
  exact List.length_filter_le _ _
/-- what is put to a log or left out, and some part of what is told then -/
theorem told_part {l m : List En} {o : En} {d : Int} (hl : Uq l) (p : (o :: m).Perm l) (q : En → Bool) (h : d < o.day ∨ q o = false) : (told l d).filter q = (told m d).filter q := by
  have hm : Uq m := (List.nodup_cons.mp (show (o.num :: m.map En.num).Nodup from hl.perm p.symm)).2
  unfold told
  rw [sortE_filter (hl.filter _), sortE_filter (hm.filter _)]
  have e : ((o :: m).filter fun e => decide (e.day ≤ d)).filter q = (m.filter fun e => decide (e.day ≤ d)).filter q := by
    have e1 : (o :: m).filter (fun e => decide (e.day ≤ d)) = if o.day ≤ d then o :: m.filter (fun e => decide (e.day ≤ d)) else m.filter (fun e => decide (e.day ≤ d)) := by
      rw [List.filter_cons]
      by_cases hd : o.day ≤ d <;> simp [hd]
    rw [e1]
    by_cases hd : o.day ≤ d
    · rw [if_pos hd, List.filter_cons]
      have hq : q o = false := by
        rcases h with h | h
        · omega
        · exact h
      rw [hq]; rfl
    · rw [if_neg hd]
  rw [← e]
  exact (sortE_same ((hl.perm p.symm).filter _ |>.filter _) ((p.filter _).filter _)).symm
def keyE (e : En) : T := .tup [.int e.day, .int e.num]
def keyD (e : En) : PyData := .tuple [.int e.day, .int e.num]
theorem keys_toPs : ∀ l : List En, toPs (l.map keyE) = some (l.map keyD)
  | [] => rfl
  | e :: l => by
    show (toPs (l.map keyE)).bind (fun ds => some (keyD e :: ds)) = _
    rw [keys_toPs l]; rfl
theorem okSort_map {α : Type} {f : α → PyData} (h1 : ∀ a b, PySem.W.alike (f a) (f b) = true) (h2 : ∀ a, headT (f a) = true) (h3 : ∀ a, (f a).depth ≤ 50) (l : List α) : okSort (l.map f) = true := by
  unfold okSort
  have a1 : ((l.map f).all fun d => (l.map f).all fun e => PySem.W.alike d e) = true := List.all_eq_true.mpr fun d m => List.all_eq_true.mpr fun e n => by
    obtain ⟨a, _, rfl⟩ := List.mem_map.mp m
    obtain ⟨b, _, rfl⟩ := List.mem_map.mp n
    exact h1 a b
  have a2 : (l.map f).all headT = true := List.all_eq_true.mpr fun d m => by
    obtain ⟨a, _, rfl⟩ := List.mem_map.mp m
    exact h2 a
  have a3 : ((l.map f).all fun d => decide (d.depth ≤ 50)) = true := List.all_eq_true.mpr fun d m => by
    obtain ⟨a, _, rfl⟩ := List.mem_map.mp m
    exact decide_eq_true (h3 a)
  rw [a1, a2, a3]; rfl
theorem keys_ok (l : List En) : okSort (l.map keyD) = true := okSort_map (fun a b => by simp [keyD, PySem.W.alike, PySem.W.alikeAll]) (fun _ => rfl) (fun a => by simp [keyD, PyData.depth, PyData.depthAll]) l
/-- things sorted by data that hang on one list -/
theorem sortT_map {α β : Type} (f : α → β) (g : α → PyData) (l : List α) : sortT (l.map f) (l.map g) = (l.mergeSort (PySem.W.dataLe false g)).map f := by
  unfold sortT
  have e : (l.map f).zip (l.map g) = l.map fun a => (f a, g a) := by
    induction l with
    | nil => rfl
    | cons a l ih => show (f a, g a) :: (l.map f).zip (l.map g) = _; rw [ih]; rfl
  rw [e, ← List.map_mergeSort (r := PySem.W.dataLe false g) (f := fun a => (f a, g a)) (fun a _ b _ => rfl), List.map_map]
  rfl
theorem sortT_en (l : List En) : sortT (l.map En.t) (l.map keyD) = (sortE l).map En.t := by
  rw [sortT_map]
  unfold sortE
  have e : PySem.W.dataLe false keyD = leE := by
    show PySem.W.dataLe false (fun e : En => PyData.tuple [.int e.day, .int e.num]) = leE
    rw [PySem.W.dataLe_ii En.day En.num]
    rfl
  rw [e]

/-! ### what is in force -/
def Part.party : Part → Bool
  | .hand .. => true
  | .off .. => true
  | _ => false
def Part.isWay : Part → Bool
  | .way .. => true
  | _ => false
def Part.isHand : Part → Bool
  | .hand .. => true
  | _ => false
/-- the first name behind the word -/
def Part.nm : Part → Str
  | .hand n .. => n | .off n => n | .load n .. => n | .canoe n .. => n | .way n .. => n | .shut n .. => n | .storm .. => "" | .store c .. => c | .fill .. => "" | .take n => n | .leave n => n | .go n => n
def putE (d : List (Str × En)) (n : Str) (e : En) : List (Str × En) := if d.any fun p => decide (p.1 = n) then d.map fun p => if p.1 = n then (p.1, e) else p else d ++ [(n, e)]
def kvsE (f : En → T) (d : List (Str × En)) : List (Key × T) := d.map fun p => (.inr p.1, f p.2)
theorem putT_E (f : En → T) (d : List (Str × En)) (n : Str) (e : En) : putT (kvsE f d) (.inr n) (f e) = kvsE f (putE d n e) := by
  unfold putT putE kvsE
  have h : ((d.map fun p => ((Sum.inr p.1 : Key), f p.2)).any fun p => decide (p.1 = .inr n)) = d.any fun p => decide (p.1 = n) := by
    rw [List.any_map]
    congr 1
    funext p
    simp
  rw [h]
  by_cases q : (d.any fun p => decide (p.1 = n)) = true
  · rw [if_pos q, if_pos q, List.map_map, List.map_map]
    refine List.map_congr_left fun p _ => ?_
    show (if (Sum.inr p.1 : Key) = .inr n then _ else _) = _
    by_cases e : p.1 = n
    · rw [if_pos (by rw [e]), ]
      show _ = ((Sum.inr (if p.1 = n then (p.1, _) else p).1 : Key), f (if p.1 = n then (p.1, _) else p).2)
      rw [if_pos e]
    · rw [if_neg (fun h => e (Sum.inr.inj h))]
      show _ = ((Sum.inr (if p.1 = n then (p.1, _) else p).1 : Key), f (if p.1 = n then (p.1, _) else p).2)
      rw [if_neg e]
  · rw [if_neg q, if_neg q, List.map_append]
    rfl
theorem putE_keys {d : List (Str × En)} {n : Str} {e : En} (h : (d.map (·.1)).Nodup) : ((putE d n e).map (·.1)).Nodup := by
  unfold putE
  split
  · have : (d.map fun p => if p.1 = n then (p.1, e) else p).map (·.1) = d.map (·.1) := by
      rw [List.map_map]
      refine List.map_congr_left fun p _ => ?_
      show (if p.1 = n then (p.1, e) else p).1 = p.1
      split <;> rfl
    rw [this]; exact h
  · rename_i q
    rw [List.map_append]
    refine List.nodup_append.mpr ⟨h, by simp, fun a m b m' => ?_⟩
    have e2 : b = n := by simpa using m'
    rintro rfl
    obtain ⟨p, mp, e3⟩ := List.mem_map.mp m
    exact q (List.any_eq_true.mpr ⟨p, mp, decide_eq_true (e3.trans e2)⟩)
theorem putE_mem {d : List (Str × En)} {n : Str} {e : En} {p : Str × En} (h : p ∈ putE d n e) : p ∈ d ∨ p.2 = e := by
  unfold putE at h
  split at h
  · obtain ⟨q, m, rfl⟩ := List.mem_map.mp h
    split
    · exact .inr rfl
    · exact .inl m
  · rcases List.mem_append.mp h with h | h
    · exact .inl h
    · rw [List.mem_singleton.mp h]; exact .inr rfl
theorem putE_len {d : List (Str × En)} {n : Str} {e : En} : (putE d n e).length ≤ d.length + 1 := by
  unfold putE
  split <;> simp
/-- the last ones of a kind, by their names -/
def lastE (q : Part → Bool) (l : List En) (d : List (Str × En)) : List (Str × En) := l.foldl (fun d e => if q e.part then putE d e.part.nm e else d) d
theorem lastE_filter (q : Part → Bool) : ∀ (l : List En) (d : List (Str × En)), lastE q l d = lastE q (l.filter fun e => q e.part) d
  | [], _ => rfl
  | e :: l, d => by
    rw [List.filter_cons]
    by_cases h : q e.part = true
    · rw [if_pos h]
      show lastE q l (if q e.part then putE d e.part.nm e else d) = lastE q _ (if q e.part then putE d e.part.nm e else d)
      exact lastE_filter q l _
    · rw [if_neg h]
      show lastE q l (if q e.part then putE d e.part.nm e else d) = _
      rw [if_neg h]
      exact lastE_filter q l _
theorem lastE_mem {q : Part → Bool} : ∀ {l : List En} {d : List (Str × En)} {p : Str × En}, p ∈ lastE q l d → p ∈ d ∨ (p.2 ∈ l ∧ q p.2.part = true)
  | [], _, _, h => .inl h
  | e :: l, d, p, h => by
    rcases lastE_mem (l := l) (d := if q e.part then putE d e.part.nm e else d) h with h | ⟨h, h2⟩
    · split at h
      · rename_i hq
        rcases putE_mem h with h | h
        · exact .inl h
        · exact .inr ⟨by rw [h]; simp, by rw [h]; exact hq⟩
      · exact .inl h
    · exact .inr ⟨List.mem_cons_of_mem _ h, h2⟩
theorem lastE_keys {q : Part → Bool} : ∀ {l : List En} {d : List (Str × En)}, (d.map (·.1)).Nodup → ((lastE q l d).map (·.1)).Nodup
  | [], _, h => h
  | e :: l, d, h => by
    refine lastE_keys (l := l) (d := if q e.part then putE d e.part.nm e else d) ?_
    split
    · exact putE_keys h
    · exact h
theorem lastE_len {q : Part → Bool} : ∀ {l : List En} {d : List (Str × En)}, (lastE q l d).length ≤ d.length + l.length
  | [], _ => Nat.le_refl _
  | e :: l, d => by
    have h := lastE_len (q := q) (l := l) (d := if q e.part then putE d e.part.nm e else d)
    have h2 : (if q e.part then putE d e.part.nm e else d).length ≤ d.length + 1 := by
      split
      · exact putE_len
      · omega
    have h3 : (lastE q (e :: l) d).length = (lastE q l (if q e.part then putE d e.part.nm e else d)).length := rfl
    rw [h3, List.length_cons]
    omega
/-- the hands, rising; the ways, rising -/
def hrow (e : En) : T := .tup e.part.rest
def hdat (e : En) : PyData := .tuple e.part.data
def handsE (l : List En) : List En := (((lastE Part.party l []).map (·.2)).filter fun e => e.part.isHand).mergeSort (PySem.W.dataLe false hdat)
def wrow (e : En) : T := match e.part with
  | .way n a b k l h => .tup [.str n, .str a, .str b, .str k, .int (l * h)]
  | _ => .tup [.str "", .str "", .str "", .str "", .int 0]
def wdat (e : En) : PyData := match e.part with
  | .way n a b k l h => .tuple [.str n, .str a, .str b, .str k, .int (l * h)]
  | _ => .tuple [.str "", .str "", .str "", .str "", .int 0]
def waysE (l : List En) : List En := ((lastE Part.isWay l []).map (·.2)).mergeSort (PySem.W.dataLe false wdat)
def hasDay (e : En) (w : Str) (d : Int) : Bool := match e.part with
  | .storm f t => decide (f ≤ d) && decide (d ≤ t)
  | .shut n f t => decide (n = w) && (decide (f ≤ d) && decide (d ≤ t))
  | _ => false
def Part.eats : Part → Int
  | .hand _ _ _ _ e => e
  | _ => 0
def eatE (l : List En) : Int := ((handsE l).map fun e => e.part.eats).sum
theorem handsE_mem {l : List En} {e : En} (h : e ∈ handsE l) : e ∈ l ∧ e.part.isHand = true := by
  unfold handsE at h
  rw [(List.mergeSort_perm _ _).mem_iff, List.mem_filter] at h
  obtain ⟨h1, h2⟩ := h
  obtain ⟨p, m, rfl⟩ := List.mem_map.mp h1
  rcases lastE_mem m with m | ⟨m, _⟩
  · exact absurd m (by simp)
  · exact ⟨m, h2⟩
theorem waysE_mem {l : List En} {e : En} (h : e ∈ waysE l) : e ∈ l ∧ e.part.isWay = true := by
  unfold waysE at h
  rw [(List.mergeSort_perm _ _).mem_iff] at h
  obtain ⟨p, m, rfl⟩ := List.mem_map.mp h
  rcases lastE_mem m with m | ⟨m, q⟩
  · exact absurd m (by simp)
  · exact ⟨m, q⟩
theorem handsE_len {l : List En} : (handsE l).length ≤ l.length := by
  unfold handsE
  rw [List.length_mergeSort]
  refine Nat.le_trans (List.length_filter_le _ _) ?_
  rw [List.length_map]
  have := lastE_len (q := Part.party) (l := l) (d := [])
  simpa using this
theorem waysE_len {l : List En} : (waysE l).length ≤ l.length := by
  unfold waysE
  rw [List.length_mergeSort, List.length_map]
  have := lastE_len (q := Part.isWay) (l := l) (d := [])
  simpa using this
/-- parts of what is told -/
theorem handsE_part {l m : List En} (h : (l.filter fun e => e.part.party) = m.filter fun e => e.part.party) : handsE l = handsE m := by
  unfold handsE
  rw [lastE_filter, h, ← lastE_filter]
theorem waysE_part {l m : List En} (h : (l.filter fun e => e.part.isWay) = m.filter fun e => e.part.isWay) : waysE l = waysE m := by
  unfold waysE
  rw [lastE_filter, h, ← lastE_filter]
theorem any_part {l m : List En} {p : En → Bool} (h : l.filter p = m.filter p) : l.any p = m.any p := by
  have key : ∀ l : List En, l.any p = !(l.filter p).isEmpty := fun l => by
    induction l with
    | nil => rfl
    | cons a l ih =>
      rw [List.any_cons, List.filter_cons]
      cases p a with
      | true => rfl
      | false => simp [ih]
  rw [key, key, h]
end TL

set_option Elab.async false
set_option linter.all false
set_option maxRecDepth 100000
/-! TL28: the drawn world. -/
namespace TL
open PySem PySem.Spec L2
def wkvs (hs ls cs ws : List Str) : List (Key × T) := [(.inr "hands", .lst .fz (hs.map T.str)), (.inr "loads", .lst .fz (ls.map T.str)), (.inr "camps", .lst .fz (cs.map T.str)), (.inr "ways", .lst .fz (ws.map T.str))]
section
variable (hs ls cs ws : List Str)
@[simp] theorem wk_hands : getK (wkvs hs ls cs ws) (.inr "hands") = some (.lst .fz (hs.map T.str)) := by unfold wkvs; rw [getK_cons, if_pos rfl]
@[simp] theorem wk_loads : getK (wkvs hs ls cs ws) (.inr "loads") = some (.lst .fz (ls.map T.str)) := by unfold wkvs; rw [getK_cons, if_neg (by decide +kernel), getK_cons, if_pos rfl]
@[simp] theorem wk_camps : getK (wkvs hs ls cs ws) (.inr "camps") = some (.lst .fz (cs.map T.str)) := by unfold wkvs; rw [getK_cons, if_neg (by decide +kernel), getK_cons, if_neg (by decide +kernel), getK_cons, if_pos rfl]
@[simp] theorem wk_ways : getK (wkvs hs ls cs ws) (.inr "ways") = some (.lst .fz (ws.map T.str)) := by unfold wkvs; rw [getK_cons, if_neg (by decide +kernel), getK_cons, if_neg (by decide +kernel), getK_cons, if_neg (by decide +kernel), getK_cons, if_pos rfl]
@[simp] theorem wk_noOw : noOwK (wkvs hs ls cs ws) = true := by unfold wkvs; simp
@[simp] theorem wk_noBr : noBrK (wkvs hs ls cs ws) = true := by unfold wkvs; simp
@[simp] theorem wk_brw : brwK (wkvs hs ls cs ws) = wkvs hs ls cs ws := by unfold wkvs; simp
@[simp] theorem wk_frz : frzK (wkvs hs ls cs ws) = wkvs hs ls cs ws := by unfold wkvs; simp
end
structure WOk (hs ls cs ws : List Str) : Prop where
  h0 : hs ≠ []
  l0 : ls ≠ []
  c0 : 2 ≤ cs.length
  w0 : ws ≠ []
  hl : hs.length ≤ 40
  ll : ls.length ≤ 40
  cl : cs.length ≤ 40
  wl : ws.length ≤ 40
  hn : ∀ s ∈ hs, Nm s
  ln : ∀ s ∈ ls, Nm s
  cn : ∀ s ∈ cs, Nm s
  wn : ∀ s ∈ ws, Nm s
/-- a way's two camps are two -/
def Part.apart : Part → Prop
  | .way _ a b _ _ _ => a ≠ b
  | _ => True
end TL

set_option Elab.async false
set_option linter.all false
set_option maxRecDepth 100000
/-! TL29: drawn names: texts in plain Lean. -/
namespace TL
open PySem PySem.Spec L2
def abc : Str := "abcdefghijklmnopqrstuvwxyz"
def allWords : Str := "hand off load canoe way shut storm store take leave fill go land water strike undo late roll"
def wordL : List Str := ["hand", "off", "load", "canoe", "way", "shut", "storm", "store", "take", "leave", "fill", "go", "land", "water", "strike", "undo", "late", "roll"]
theorem abc_list : abc.cps.toList = (List.range 26).map (· + 97) := by decide +kernel
theorem abc_at {r : Int} (h0 : 0 ≤ r) (h1 : r < 26) : fIxA (.str abc) (.int r) = some (.str ⟨#[r.toNat + 97]⟩) := by
  have hl : abc.length ≤ sizeLine := by decide +kernel
  rw [fIxA_str, fIx_str, if_pos hl, abc_list, atI_nat (j := r.toNat) (by omega) (by simp; omega), List.getElem?_map, List.getElem?_range (by omega)]
  rfl
theorem words_join : allWords = Txt.join " " wordL := by
  rw [join_eq]
  decide +kernel
theorem words_free : ∀ p ∈ wordL, (32 : Nat) ∉ tl p := by decide +kernel
theorem words_cut : Txt.split allWords " " = wordL := by
  have ey : tl (" " : Str) = 32 :: [] := by decide +kernel
  have hk : (" " : Str).cps.all (· < 256) = true := by decide +kernel
  have hne : wordL ≠ [] := by unfold wordL; simp
  have h := split_join ey hk hne words_free
  rw [← words_join] at h
  exact h
theorem words_split : fSplit (.str allWords) (.str " ") = some (.lst .ow (wordL.map T.str)) := by
  have h1 : ((" " : Str).length == 0) = false ∧ allWords.length + 2 ≤ sizeLine := by decide +kernel
  show (if (((" " : Str).length == 0) = false ∧ allWords.length + 2 ≤ sizeLine) then some (T.lst .ow ((Txt.split allWords " ").map T.str)) else none) = _
  rw [if_pos h1, words_cut]
theorem words_nm : ∀ s ∈ wordL, Nm s := by
  have h : (wordL.all fun s => decide (1 ≤ s.cps.toList.length) && decide (s.cps.toList.length ≤ 8) && s.cps.toList.all fun c => decide (97 ≤ c) && decide (c ≤ 122)) = true := by decide +kernel
  intro s m
  have q := List.all_eq_true.mp h s m
  simp only [Bool.and_eq_true, decide_eq_true_eq, List.all_eq_true] at q
  exact ⟨q.1.1, q.1.2, q.2⟩
def ch (c : Nat) : Str := ⟨#[c]⟩
theorem join_chars : ∀ cs : List Nat, (Txt.join "" (cs.map ch)).cps.toList = cs := fun cs => by
  have e : tl (Str.join "" (cs.map ch)) = cs := by
    rw [tl_join]
    have e2 : tl ("" : Str) = [] := by decide +kernel
    rw [e2, List.map_map]
    have : ∀ l : List Nat, joinL [] (l.map (tl ∘ ch)) = l := fun l => by
      induction l with
      | nil => rfl
      | cons a l ih =>
        cases l with
        | nil => rfl
        | cons b l =>
          show [a] ++ [] ++ joinL [] ((b :: l).map (tl ∘ ch)) = _
          rw [ih]; rfl
    exact this cs
  rw [join_eq]
  exact e
theorem cut6 (z : Str) : (cutS z none (some 6)).cps.toList = z.cps.toList.take 6 := by
  have hl : z.length = z.cps.toList.length := len_tl z
  unfold cutS HT.sIx
  show (List.take ((if (6 : Int) < 0 then ((6 : Int) + (z.length : Int)).toNat else min (6 : Int).toNat z.length) - 0) (List.drop 0 z.cps.toList)).toArray.toList = _
  rw [if_neg (by omega), Nat.sub_zero, List.drop_zero, hl]
  show List.take (min 6 z.cps.toList.length) z.cps.toList = _
  rw [List.take_eq_take_iff]
  omega
/-- the name with two other letters at its end -/
def renamed (z : Str) (j : Nat) : Str := cutS z none (some 6) ++ ch (j / 26 + 97) ++ ch (j % 26 + 97)
theorem renamed_list (z : Str) (j : Nat) : (renamed z j).cps.toList = z.cps.toList.take 6 ++ [j / 26 + 97, j % 26 + 97] := by
  have e : tl (renamed z j) = tl (cutS z none (some 6)) ++ tl (ch (j / 26 + 97)) ++ tl (ch (j % 26 + 97)) := by unfold renamed; rw [tl_append, tl_append]
  have e2 : tl (cutS z none (some 6)) = z.cps.toList.take 6 := cut6 z
  rw [e2] at e
  refine e.trans ?_
  simp [tl, ch]
theorem renamed_nm {z : Str} {j : Nat} (h : Nm z) (hj : j < 676) : Nm (renamed z j) := by
  unfold Nm
  rw [renamed_list]
  obtain ⟨h1, h2, h3⟩ := h
  refine ⟨by simp, by simp; omega, fun c m => ?_⟩
  rcases List.mem_append.mp m with m | m
  · exact h3 c (List.mem_of_mem_take m)
  · simp at m
    omega
/-- the two last letters, as one number -/
def code (s : Str) : Nat := match s.cps.toList.reverse with
  | b :: a :: _ => 26 * (a - 97) + (b - 97)
  | _ => 0
theorem renamed_code (z : Str) (j : Nat) : code (renamed z j) = j := by
  unfold code
  rw [renamed_list, List.reverse_append]
  show 26 * (j / 26 + 97 - 97) + (j % 26 + 97 - 97) = j
  omega
theorem pigeon : ∀ (a b : List Nat), a.Nodup → (∀ x ∈ a, x ∈ b) → a.length ≤ b.length
  | [], _, _, _ => Nat.zero_le _
  | x :: a, b, nd, h => by
    obtain ⟨h1, h2⟩ := List.nodup_cons.mp nd
    have hx := h x (by simp)
    have ih := pigeon a (b.erase x) h2 fun y m => (List.mem_erase_of_ne (by rintro rfl; exact h1 m)).mpr (h y (List.mem_cons_of_mem _ m))
    rw [List.length_erase_of_mem hx] at ih
    have : 0 < b.length := List.length_pos_of_mem hx
    rw [List.length_cons]
    omega
theorem renamed_fits {z : Str} (j : Nat) : (cutS z none (some 6)).length + (ch (j / 26 + 97)).length ≤ sizeLine ∧ (cutS z none (some 6) ++ ch (j / 26 + 97)).length + (ch (j % 26 + 97)).length ≤ sizeLine := by
  have h1 : (cutS z none (some 6)).length ≤ 6 := by
    rw [len_tl]
    show (cutS z none (some 6)).cps.toList.length ≤ 6
    rw [cut6, List.length_take]
    omega
  have h2 : ∀ c, (ch c).length = 1 := fun c => rfl
  have h3 : (cutS z none (some 6) ++ ch (j / 26 + 97)).length ≤ 7 := by
    rw [len_tl, tl_append, List.length_append, ← len_tl, ← len_tl, h2]
    omega
  rw [h2, h2]
  exact ⟨Nat.le_trans (show _ ≤ 7 by omega) (by decide), Nat.le_trans (show _ ≤ 8 by omega) (by decide)⟩
theorem inF_strs (s : Str) (l : List Str) : inF (.str s) (l.map T.str) = decide (s ∈ l) := by
  unfold inF
  rw [List.any_map]
  have : ∀ l : List Str, l.any ((fun y => eqF y (.str s)) ∘ T.str) = decide (s ∈ l) := fun l => by
    induction l with
    | nil => simp
    | cons a l ih =>
      rw [List.any_cons, ih]
      show ((a == s) || decide (s ∈ l)) = _
      by_cases h : a = s
      · subst h; simp
      · have h' : s ≠ a := fun e => h e.symm
        simp [h, h']
  exact this l
theorem strs_flat (l : List Str) : (l.map T.str).all flatT = true := List.all_eq_true.mpr fun t m => by
  obtain ⟨s, _, rfl⟩ := List.mem_map.mp m; rfl
end TL

set_option Elab.async false
set_option linter.all false
set_option maxRecDepth 100000
/-! TL30: written dicts of the module (text keys): d[k], d.get(k, x); the head with them. -/
namespace TL
open PySem PySem.Spec L2 PyProof.Rows
def getS (kvs : List (Str × T)) (z : Str) : Option T := (kvs.find? fun p => decide (p.1 = z)).map (·.2)
/-- in the written part the dict at a has at z the tree, or none -/
def KAt (K : PySem.W.Frag) (a : Addr) (z : Str) : Option T → Prop
  | some t => ∃ u v, PySem.W.nsIn K a z = some (some u) ∧ RelV v u ∧ ∀ c : Hc, c.K = K → Rep c t v []
  | none => PySem.W.nsIn K a z = some none
/-- the module's name x stands for a written dict -/
structure GCD (K : PySem.W.Frag) (w : World) (mg : Str → Option Value) (x : Str) (kvs : List (Str × T)) : Prop where
  h : ∃ a es n, mg x = some (.ref a) ∧ KDict K w a es n ∧ ∀ z, KAt K a z (getS kvs z)
def dKIx (kvs : List (Str × T)) (b : DE) : DE := fun S => (b S).bind fun p => match p.1 with
  | .str z => (getS kvs z).bind fun t => some (t, p.2)
  | _ => none
def dKGet2 (kvs : List (Str × T)) (b c : DE) : DE := fun S => (b S).bind fun p => match p.1 with
  | .str z => (c p.2).bind fun r => match getS kvs z with
    | some t => some (t, r.2)
    | none => some r
  | _ => none
section
variable {X : Cx} {ca : Str → Addr} {b c : Expr} {eb ec : Bool} {pos apos npos cpos : Pos} {x : Str} {kvs : List (Str × T)}
theorem ex_kix {db : DE} (D : GCD X.K X.w X.mg x kvs) (hb : EX ca X b eb db) (hs : PlainIx b) (hg : Gl X x := by rfl) (hd : (x == ("__debug__" : Str)) = false := by decide) : EX ca X (.Subscript (.Name x npos) b pos) eb (dKIx kvs db) := by
  obtain ⟨a, es, n, hm, kd, al⟩ := D.h
  refine PE.imp (pe_ix ix_kdict (pe_glob hg hm (v := .ref a) rfl hd) hb hs) fun σ H Q w => ?_
  obtain ⟨G, rfl, g, r', S', e1, k⟩ := w
  obtain ⟨p, h1, e1⟩ := Option.bind_eq_some_iff.mp e1
  split at e1
  case h_2 => cases e1
  rename_i z hz
  obtain ⟨t, h2, e1⟩ := Option.bind_eq_some_iff.mp e1
  cases e1
  refine ⟨G, rfl, g, p.1, p.2, h1, fun G1 y gy a1 a2 a3 a4 a5 => ?_⟩
  have ry := a4.rep
  rw [hz] at ry
  obtain ⟨rfl, _⟩ := ry
  have az := al z
  rw [h2] at az
  obtain ⟨u, v, q1, q2, q3⟩ := az
  exact ⟨a, z, v, rfl, rfl, ⟨es, n, u, kd.at_, kd.lit, q1, q2⟩, k G1 v [] a1 a2 a3 (.bare (q3 _ a2.k)) New.nil⟩
def tKGet2 (K : PySem.W.Frag) (a : Addr) (ty tx : TE) : TE := fun σ H Q => ty σ H fun y H1 => tx σ H1 fun d H2 => ∃ z, y = .str z ∧ ((∃ u v, PySem.W.nsIn K a z = some (some u) ∧ RelV v u ∧ Q v H2) ∨ (PySem.W.nsIn K a z = some none ∧ Q d H2))
theorem pe_kget2 {a : Addr} {es : Array DictEntry} {n : Nat} {o e f : Expr} {ty tx : TE} (D : KDict X.K X.w a es n) (ho : PE X o (fun _ H Q => Q (.ref a) H)) (he : PE X e ty) (hf : PE X f tx) (m : M2 X o "get" apos e f cpos) : PE X (.Call (.Attribute o "get" apos) [e, f] [] cpos) (tKGet2 X.K a ty tx) := by
  refine ⟨fun pins s σ H Q I h => ?_⟩
  refine wpAny_Call_method m.base m.few m.line PySem.F.plainAttrs_dict PySem.F.slot_dict_get PySem.F.type_dict_get (thn (ho.run pins s σ H (fun v H' => v = .ref a ∧ H' = H) I ⟨rfl, rfl⟩) fun u s1 ⟨x, H1, I1, rx, ex, eh⟩ => ?_)
  subst ex eh
  obtain rfl : u = Value.ref a := rx
  refine ⟨kd_type D I1, fun b q => ?_, ?_⟩
  · cases q
    exact ⟨_, I1.kIn _ _ D.at_, rfl⟩
  rw [m.trees]
  refine Calls.callWith_builtin rfl (Calls.evalArgs_plain (Calls.spliced_cons (thn (he.run pins s1 σ H1 _ I1 h) fun iv s2 ⟨y, H2, I2, ry, q2⟩ =>
    Calls.spliced_cons (thn (hf.run pins s2 σ H2 _ I2 q2) fun fv s3 ⟨d, H3, I3, rz, z, ey, q3⟩ => Calls.spliced_nil ?_))))
  subst ey
  obtain ⟨t, rfl⟩ := ry
  refine call_meetsIn PySem.F.slot_dict_get (kd_type D I3) PySem.F.entry_dict_get (PySem.F.args_dict_get_3 _ _ _) (meets_dict_get_default (strKind X.prog X.w) a (strKind_is X.prog X.w z t) D.low fv) ⟨_, PySem.W.mapOf_K (prog := X.prog) I3.kIn D.at_ D.lit, ?_⟩
  rcases q3 with ⟨u, v, h1, h2, q⟩ | ⟨h1, q⟩
  · rw [PySem.W.find_K D.at_ h1]
    exact ⟨v, H3, I3.tok _, h2, q⟩
  · rw [PySem.W.find_K D.at_ h1]
    exact ⟨d, H3, I3.tok _, rz, q⟩
theorem ex_kget2 {db dc : DE} (D : GCD X.K X.w X.mg x kvs) (hb : EX ca X b eb db) (hc : EX ca X c ec dc) (m : M2 X (.Name x npos) "get" apos b c cpos := by exact ⟨rfl, rfl, rfl, rfl⟩) (hg : Gl X x := by rfl) (hd : (x == ("__debug__" : Str)) = false := by decide) : EX ca X (.Call (.Attribute (.Name x npos) "get" apos) [b, c] [] cpos) (eb || ec) (dKGet2 kvs db dc) := by
  obtain ⟨a, es, n, hm, kd, al⟩ := D.h
  refine PE.imp (pe_kget2 kd (pe_glob hg hm (v := .ref a) rfl hd) hb hc m) fun σ H Q w => ?_
  obtain ⟨G, rfl, g, r', S', e1, k⟩ := w
  obtain ⟨p, h1, e1⟩ := Option.bind_eq_some_iff.mp e1
  split at e1
  case h_2 => cases e1
  rename_i z hz
  obtain ⟨r, h2, e1⟩ := Option.bind_eq_some_iff.mp e1
  refine ⟨G, rfl, g, p.1, p.2, h1, fun G1 y gy a1 a2 a3 a4 a5 => ?_⟩
  refine ⟨G1, rfl, a2, r.1, r.2, by rw [a1]; exact h2, fun G2 d gd b1 b2 b3 b4 b5 => ?_⟩
  have ry := a4.rep
  rw [hz] at ry
  obtain ⟨rfl, _⟩ := ry
  have az := al z
  refine ⟨z, rfl, ?_⟩
  have st : Step (eb || ec) G G2 := a3.trans b3
  split at e1
  · rename_i t ht
    cases e1
    rw [ht] at az
    obtain ⟨u, v, q1, q2, q3⟩ := az
    exact .inl ⟨u, v, q1, q2, k G2 v [] b1 b2 st (.bare (q3 _ b2.k)) New.nil⟩
  · rename_i ht
    cases e1
    rw [ht] at az
    exact .inr ⟨az, k G2 d gd b1 b2 st b4 (b5.step a3)⟩
end
/-! ### the head -/
def dgA (K : PySem.W.Frag) (x : Str) : Addr := match PySem.W.nsIn K mainGlobals x with
  | some (some (.ref a)) => a
  | _ => 0
def dgB (K : PySem.W.Frag) (x : Str) (kvs : List (Str × T)) : Bool := (match PySem.W.nsIn K mainGlobals x with
  | some (some (.ref a)) => true
  | _ => false) && kvs.all fun q => match PySem.W.nsIn K (dgA K x) q.1 with
  | some (some u) => repK K 4 q.2 u
  | _ => false
abbrev DCs : Type := List (Str × List (Str × T))
theorem keyOf_find {P : Params} : ∀ {l : List DictEntry} {ks : List Str} {z : Str}, l.map He.keyOf = He.keysIn P ks → z ∉ ks → l.find? (fun e => e.key.isStr z) = none ∧ l.any (fun e => e.refKey) = false
  | [], ks, z, h, hz => ⟨rfl, rfl⟩
  | e :: r, [], z, h, hz => by cases h
  | e :: r, k :: ks, z, h, hz => by
    have h1 : He.keyOf e :: r.map He.keyOf = some (k, PyData.keyHash P k) :: He.keysIn P ks := h
    injection h1 with h2 h3
    obtain ⟨ih1, ih2⟩ := keyOf_find h3 (fun m => hz (List.mem_cons_of_mem _ m))
    unfold He.keyOf at h2
    split at h2
    · rename_i x t q
      have h4 := Option.some.inj h2
      obtain ⟨h5, h6⟩ := Prod.mk.inj h4
      have ne : x ≠ z := fun y => hz (by rw [← y, h5]; simp)
      refine ⟨?_, ?_⟩
      · rw [List.find?_cons_of_neg, ih1]
        rw [q]
        intro y
        exact ne (of_decide_eq_true y)
      · rw [List.any_cons, ih2]
        rw [show e.refKey = false by unfold DictEntry.refKey; rw [q]]; rfl
    · cases h2
theorem gcd_ok {K : PySem.W.Frag} {w : World} {h : Heap} {mg : Str → Option Value} {x : Str} {kvs : List (Str × T)} (X : K.In h) (G : h.Ns mainGlobals mg) (c : dgB K x kvs = true) (d : He.dicW K (dgA K x) = some (He.keysIn w.params (kvs.map (·.1)))) : GCD K w mg x kvs := by
  obtain ⟨c1, c2⟩ := Bool.and_eq_true_iff.mp c
  obtain ⟨es, n, kd⟩ := He.dicW_ok d
  split at c1
  case h_2 => cases c1
  rename_i a ha
  have ea : dgA K x = a := by unfold dgA; rw [ha]
  rw [ea] at c2 kd d
  refine ⟨a, es, n, PySem.W.mg_of X G ha, kd, fun z => ?_⟩
  have c2 := List.all_eq_true.mp c2
  unfold getS
  cases e : kvs.find? fun p => decide (p.1 = z) with
  | some q =>
    have m := List.mem_of_find?_eq_some e
    have p : q.1 = z := of_decide_eq_true (List.find?_some (p := fun p : Str × T => decide (p.1 = z)) e)
    have c3 := c2 q m
    rw [p] at c3
    show ∃ u v, _
    split at c3
    · rename_i u hu
      obtain ⟨v, r1, r2⟩ := repK_ok 4 q.2 u c3
      exact ⟨u, v, hu, r1, r2⟩
    · cases c3
  | none =>
    show PySem.W.nsIn K a z = some none
    have hz : z ∉ kvs.map (·.1) := fun m => by
      obtain ⟨q, m, e2⟩ := List.mem_map.mp m
      exact absurd (decide_eq_true e2) (List.find?_eq_none.mp e q m)
    have d2 : es.toList.map He.keyOf = He.keysIn w.params (kvs.map (·.1)) := by
      unfold He.dicW at d
      rw [kd.at_] at d
      have d : (match decide (("dict" : String) = "dict") && ((#[] : Array (Option Value)).isEmpty && !(a == sysModules)) with
        | true => some (es.toList.map He.keyOf)
        | false => none) = some (He.keysIn w.params (kvs.map (·.1))) := d
      rw [kd.low] at d
      exact Option.some.inj d
    obtain ⟨f1, f2⟩ := keyOf_find d2 hz
    unfold PySem.W.nsIn
    rw [kd.at_]
    show (match es.toList.find? (fun e => e.key.isStr z) with
      | some e => some (some e.val)
      | none => if es.toList.any (fun e => e.refKey) then none else some none) = _
    rw [f1, f2]; rfl
abbrev AlE : Type := Bool × He.AlD × List (Option (List (Option (Str × Int))))
def obsE (fa : List He.Fa) (fn : List He.DefD) (cs : List (Str × T)) (ds : DCs) (K : PySem.W.Frag) : AlE := ((cs.all fun c => gcB K c.1 c.2) && ds.all fun d => dgB K d.1 d.2, He.obsD fa fn K, ds.map fun d => He.dicW K (dgA K d.1))
def obsEG (n : Nat) (fa : List He.Fa) (fn : List He.DefD) (cs : List (Str × T)) (ds : DCs) (g : Addr → Option Obj) : AlE := obsE fa fn cs ds (frag n g)
def valE (fn : List He.DefD) (ds : DCs) (w : World) : AlE := (true, He.valD fn, ds.map fun d => some (He.keysIn w.params (d.2.map (·.1))))
def saysE (fa : List He.Fa) (fn : List He.DefD) (cs : List (Str × T)) (ds : DCs) (w : World) (h : Heap) : Prop := ∃ K : PySem.W.Frag, K.In h ∧ obsE fa fn cs ds K = valE fn ds w
def hookE (n : Nat) (fa : List He.Fa) (fn : List He.DefD) (cs : List (Str × T)) (ds : DCs) : PySem.W.Hook where
  α := AlE
  obs := fun s => obsEG n fa fn cs ds s.heap.get?
  val := fun w => valE fn ds w
  says := fun w h => saysE fa fn cs ds w h
  of := fun w s e => ⟨frag n s.heap.get?, frag_in n s.heap, e⟩
  keeps := fun w h h' ⟨K, a, c⟩ k => ⟨K, PySem.W.Frag.In.keeps a k, c⟩
theorem obsEG_eq {n : Nat} {fa : List He.Fa} {fn : List He.DefD} {cs : List (Str × T)} {ds : DCs} {g : Addr → Option Obj} {s : Shared} (h : ∀ a, g a = s.heap.get? a) : obsEG n fa fn cs ds g = (hookE n fa fn cs ds).obs s := by
  have e : g = s.heap.get? := funext h
  rw [e]
  rfl
section
variable {fa : List He.Fa} {fn : List He.DefD} {cs : List (Str × T)} {ds : DCs} {w : World} {K : PySem.W.Frag}
theorem saysE_d (c : obsE fa fn cs ds K = valE fn ds w) : He.SaysD fa fn K := congrArg (fun z : AlE => z.2.1) c
theorem saysE_c (c : obsE fa fn cs ds K = valE fn ds w) : ∀ c ∈ cs, gcB K c.1 c.2 = true := by
  have e : ((cs.all fun c => gcB K c.1 c.2) && ds.all fun d => dgB K d.1 d.2) = true := congrArg (fun z : AlE => z.1) c
  exact List.all_eq_true.mp (Bool.and_eq_true_iff.mp e).1
theorem saysE_g (c : obsE fa fn cs ds K = valE fn ds w) {h : Heap} {mg : Str → Option Value} (X : K.In h) (G : h.Ns mainGlobals mg) (i : Nat) {x : Str} {kvs : List (Str × T)} (hi : ds[i]? = some (x, kvs) := by rfl) : GCD K w mg x kvs := by
  have e : ((cs.all fun c => gcB K c.1 c.2) && ds.all fun d => dgB K d.1 d.2) = true := congrArg (fun z : AlE => z.1) c
  have e1 := List.all_eq_true.mp (Bool.and_eq_true_iff.mp e).2 _ (List.mem_of_getElem? hi)
  have e2 : ds.map (fun d => He.dicW K (dgA K d.1)) = ds.map fun d => some (He.keysIn w.params (d.2.map (·.1))) := congrArg (fun z : AlE => z.2.2) c
  have e3 : (ds.map (fun d => He.dicW K (dgA K d.1)))[i]? = (ds.map fun d => some (He.keysIn w.params (d.2.map (·.1))))[i]? := by rw [e2]
  rw [List.getElem?_map, List.getElem?_map, hi] at e3
  exact gcd_ok X G e1 (Option.some.inj e3)
end
end TL

set_option Elab.async false
set_option linter.all false
set_option maxRecDepth 100000
/-! TL31: zip of a tuple and a list; a comprehension over a list that its name keeps. -/
namespace TL
open PySem PySem.Spec PyProof.Rows L2
def Itzm (K : PySem.W.Frag) (a b : Addr) : It :=
  ⟨fun i H => ∃ (xs ys : List V) (x y : V), SqT K H a xs ∧ SqL K H b ys ∧ xs[i]? = some x ∧ ys[i]? = some y,
    fun i H v H' => ∃ T x y, v = .ref T ∧ H T = none ∧ H' = upd H T (.tup [x, y]) ∧ (∀ xs, SqT K H a xs → xs[i]? = some x) ∧ (∀ ys, SqL K H b ys → ys[i]? = some y),
    fun i H => ∃ xs ys : List V, SqT K H a xs ∧ SqL K H b ys ∧ i = min xs.length ys.length⟩
theorem sub4 {N d : Nat} (m : d ∈ [N + 4, N + 3, N, N + 1]) : d ∈ [N + 4, N + 2, N + 3, N, N + 1] := by
  simp only [List.mem_cons, List.not_mem_nil, or_false] at m ⊢
  omega
theorem turn_zipM {P : Program} {w : World} {K : PySem.W.Frag} {elts : List Expr} {kk : Nat} {tpos : Pos} {a b : Addr} {N : Nat} (la : a < N) (lb : b < N) :
    Turn P w K (.Tuple elts kk tpos) (Itzm K a b) [N + 4, N + 2, N + 3, N, N + 1] (N + 4) (fun i h => IsZip h (N + 4) (N + 2) (N + 3) .none ∧ IsTupOf2 h (N + 2) (.ref N) (.ref (N + 1)) ∧ (∃ u1 u2, IsTupOf2 h (N + 3) u1 u2) ∧ h.IsTupleIter N a i ∧ h.IsListIter (N + 1) b i) where
  mem := by simp
  obj := fun i h st e he => by
    obtain ⟨hz, hTI, ⟨u1, u2, hTO⟩, ⟨o1, e1, _, d1⟩, ⟨o2, e2, _, d2⟩⟩ := st
    have e' : e = N + 4 ∨ e = N + 2 ∨ e = N + 3 ∨ e = N ∨ e = N + 1 := by simpa using he
    rcases e' with q | q | q | q | q
    · rw [q]; exact ⟨_, hz, fun v q => nomatch q⟩
    · rw [q]; exact ⟨_, hTI, fun v q => nomatch q⟩
    · rw [q]; exact ⟨_, hTO, fun v q => nomatch q⟩
    · rw [q]; exact ⟨o1, e1, fun v q => by rw [d1] at q; cases q⟩
    · rw [q]; exact ⟨o2, e2, fun v q => by rw [d2] at q; cases q⟩
  keep := fun i h h' st k => by
    obtain ⟨hz, hTI, ⟨u1, u2, hTO⟩, h1, h2⟩ := st
    exact ⟨k (N + 4) (by simp) _ hz, k (N + 2) (by simp) _ hTI, ⟨u1, u2, k (N + 3) (by simp) _ hTO⟩, h1.at fun o q => k N (by simp) o q, h2.at fun o q => k (N + 1) (by simp) o q⟩
  item := by
    intro X hP hw hK hc i pins s σ H E I hf st hg
    subst hP hw hK
    obtain ⟨hz, hTI, hTO, h1, h2⟩ := st
    obtain ⟨xs, ys, x, y, hqx, hqy, hx, hy⟩ := hg
    obtain ⟨its, rv, p, _⟩ := I.tuple hqx
    obtain ⟨its2, rv2, p2, _⟩ := I.list hqy
    obtain ⟨u, hu, ru⟩ := rv.get hx
    obtain ⟨u2, hu2, ru2⟩ := rv2.get hy
    have hh : X.A.in1.handled = none := I.ok.hd hc
    have W := WalksT.zipD2 (A := X.A) (zip_sep2 (N := N) (fp1 := [a]) (fp2 := [b]) (by simpa using la) (by simpa using lb))
      (Draws.tuple (prog := X.prog) (w := X.w) hh N a (Nat.ne_of_lt la) its.toArray) (Draws.list hh (N + 1) b (Nat.ne_of_lt (Nat.lt_succ_of_lt lb)) its2.toArray)
    have b1 : i < its.length := (List.getElem?_eq_some_iff.mp hu).1
    have b2 : i < its2.length := (List.getElem?_eq_some_iff.mp hu2).1
    refine W.item i s _ E (by simp only [List.size_toArray]; omega) ⟨hz, hTI, hTO, ⟨h1, p⟩, ⟨h2, p2.isList⟩⟩ fun T vals h' tk hPt hle hT hM hk => ⟨.ref T, rfl, W.go elts kk tpos i T { s with heap := h', toks := tk } _ E hM fun h'' hst hk2 => ?_⟩
    obtain ⟨x1, x2, q1, q2, rfl⟩ := hPt
    have q1 : u = x1 := by
      have q1 : its.toArray[i]? = some x1 := q1
      rw [← Array.getElem?_toList] at q1
      exact Option.some.inj (hu.symm.trans q1)
    have q2 : u2 = x2 := by
      have q2 : its2.toArray[i]? = some x2 := q2
      rw [← Array.getElem?_toList] at q2
      exact Option.some.inj (hu2.symm.trans q2)
    subst q1 q2
    have hTw := W.apart i T h' hM
    obtain ⟨oT, t1, t2, tn, t3⟩ := hT
    have hT2 : h''.get? T = some oT := hk2 T oT hTw t1
    have new : ObjOk X.prog X.w (upd H T (.tup [x, y])) h'' T (.tup [x, y]) := ⟨by show 2 ≤ sizeLine; decide, [u, u2], .cons ru (.cons ru2 .nil), ⟨oT, hT2, t2, tn, t3⟩⟩
    have kk2 : ∀ d o, d ∉ [N + 4, N + 2, N + 3, N, N + 1] → s.heap.get? d = some o → h''.get? d = some o := fun d o hd e => by
      have nd : d ∉ [N + 4, N + 3, N, N + 1] := fun m => hd (sub4 m)
      exact hk2 d o nd (hk d o nd e)
    have I1 : Inv X pins σ (upd H T (.tup [x, y])) { s with heap := h'', toks := tk } := I.turnedNew (t' := tk) kk2 hf hle new
    obtain ⟨s1, s2, s3, s4, s5⟩ := hst
    refine ⟨.ref T, _, I1, rfl, ⟨T, x, y, rfl, I.hok.fresh hle, rfl, fun l hl => by rw [I.tuple_inj hl hqx]; exact hx, fun l hl => by rw [I.list_inj hl hqy]; exact hy⟩, ⟨s1, s2, s3, s4.1, s5.1⟩, fun d hd => ?_⟩
    have hd0 := (hf d hd).1
    have hdT : d ≠ T := fun e => by
      have lt : ∀ {o}, s.heap.get? d = some o → False := fun {o} q => absurd (Heap.lt_size q) (by rw [e]; exact Nat.not_lt.mpr hle)
      obtain ⟨u1', u2', hTO⟩ := hTO
      have e' : d = N + 4 ∨ d = N + 2 ∨ d = N + 3 ∨ d = N ∨ d = N + 1 := by simpa using hd
      rcases e' with q | q | q | q | q
      · exact lt (by rw [q]; exact hz)
      · exact lt (by rw [q]; exact hTI)
      · exact lt (by rw [q]; exact hTO)
      · obtain ⟨_, g1, _⟩ := h1; exact lt (by rw [q]; exact g1)
      · obtain ⟨_, g1, _⟩ := h2; exact lt (by rw [q]; exact g1)
    rw [upd_ne hdT]
    exact hd0
  done := by
    intro X hP hw hK hc i pins s σ H E I hf st hg
    subst hP hw hK
    obtain ⟨hz, hTI, hTO, h1, h2⟩ := st
    obtain ⟨xs, ys, hqx, hqy, hend⟩ := hg
    obtain ⟨its, rv, p, _⟩ := I.tuple hqx
    obtain ⟨its2, rv2, p2, _⟩ := I.list hqy
    have hh : X.A.in1.handled = none := I.ok.hd hc
    have W := WalksT.zipD2 (A := X.A) (zip_sep2 (N := N) (fp1 := [a]) (fp2 := [b]) (by simpa using la) (by simpa using lb))
      (Draws.tuple (prog := X.prog) (w := X.w) hh N a (Nat.ne_of_lt la) its.toArray) (Draws.list hh (N + 1) b (Nat.ne_of_lt (Nat.lt_succ_of_lt lb)) its2.toArray)
    have e : i = min its.toArray.size its2.toArray.size := by
      rw [hend, rv.length, rv2.length]; simp
    subst e
    exact W.done s _ E ⟨hz, hTI, hTO, ⟨h1, p⟩, ⟨h2, p2.isList⟩⟩ fun h' tk hk => ⟨rfl, I.turnedL (t' := tk) (ch := [N + 4, N + 2, N + 3, N, N + 1]) (fun d o hd e => hk d o (fun m => hd (sub4 m)) e) hf⟩
  self := fun A i s Q E st h => wpAny_pyIter_zip st.1 h
def iZipM (K : PySem.W.Frag) (ta : TA) : TI := fun σ H R => ta σ H fun vs H1 => ∃ a b xs ys, vs = [.ref a, .ref b] ∧ SqT K H1 a xs ∧ SqL K H1 b ys ∧ R (Itzm K a b) H1
theorem pi_zipM {X : Cx} {e e2 : Expr} {ta : TA} {p pos tpos : Pos} {elts : List Expr} {kk : Nat} (hg : Gl X "zip") (hm : X.mg "zip" = none) (ha : PA X [e, e2] ta)
    (hs : starEach [e, e2] X.env = (false, eval e X.env) :: starEach [e2] X.env := by rfl) (hpl : (backTo pos (starEach [e2] X.env)).any (·.1) = false := by rfl) :
    PI X (.Tuple elts kk tpos) (.Call (.Name "zip" p) [e, e2] [] pos) (iZipM X.K ta) := by
  refine ⟨fun pins s σ H R I h => ?_⟩
  refine Call_ (ld_blt I hg hm PyProof.Rows.boot_zip (PyProof.Rows.callWith_type1 (thn (ha.run pos pins s σ H _ I h) fun us s1 ⟨vs, H1, I1, r1, q1⟩ => ?_) hs hpl))
  obtain ⟨a, b, xs, ys, ex, hqx, hqy, q⟩ := q1
  subst ex
  cases r1 with
  | cons r rr =>
    cases rr with
    | cons r' rr =>
      cases rr
      cases r
      cases r'
      obtain ⟨its, rv, p1, _⟩ := I1.tuple hqx
      obtain ⟨its2, rv2, p2, _⟩ := I1.list hqy
      refine zip_begins2 (begins_tuple a its.toArray) (begins_list b its2.toArray) p1 p2.isList fun h' hz hTI hTO g1 g2 hsz hk => wpAny_pyIter_zip hz ?_
      have I2 : Inv X pins σ H1 { s1 with heap := h' } := I1.kept (t' := s1.toks) hk
      refine ⟨s1.heap.objs.size + 4, [s1.heap.objs.size + 4, s1.heap.objs.size + 2, s1.heap.objs.size + 3, s1.heap.objs.size, s1.heap.objs.size + 1], _, _, H1, rfl, I2, turn_zipM p1.lt p2.lt, ⟨hz, hTI, ⟨_, _, hTO⟩, ⟨_, g1, rfl, rfl⟩, ⟨_, g2, rfl, rfl⟩⟩, fun d hd => ?_, q⟩
      have e' : d = s1.heap.objs.size + 4 ∨ d = s1.heap.objs.size + 2 ∨ d = s1.heap.objs.size + 3 ∨ d = s1.heap.objs.size ∨ d = s1.heap.objs.size + 1 := by simpa using hd
      have hle : s1.heap.objs.size ≤ d := by
        rcases e' with z | z | z | z | z <;> rw [z] <;> first | exact Nat.le_refl _ | exact Nat.le_add_right _ _
      exact I1.fpOk hle (I1.hok.fresh hle)
def iZpM (a : DA) : DI := fun S => (a S).bind fun p => (temps p.1).bind fun ts => match ts with
  | [.tup xs, .lst _ ys] => if noOws xs && noOws ys then some (zipT xs ys, p.2) else none
  | _ => none
theorem ix_zipM {X : Cx} {ca : Str → Addr} {a b : Expr} {elts : List Expr} {kk : Nat} {p pos tpos : Pos} {ef : Bool} {d : DA} (hm : X.mg "zip" = none) (h : AX ca X [a, b] ef d) (hg : Gl X "zip" := by rfl)
    (hs : starEach [a, b] X.env = (false, eval a X.env) :: starEach [b] X.env := by rfl) (hpl : (backTo pos (starEach [b] X.env)).any (·.1) = false := by rfl) : IX ca X (.Tuple elts kk tpos) (.Call (.Name "zip" p) [a, b] [] pos) ef (iZpM d) := PI.imp (pi_zipM hg hm h hs hpl) fun σ H R w => by
  obtain ⟨G, rfl, g, ts, S', e1, k⟩ := w
  obtain ⟨q, h1, e1⟩ := Option.bind_eq_some_iff.mp e1
  obtain ⟨us, h2, e1⟩ := Option.bind_eq_some_iff.mp e1
  split at e1
  · rename_i xs m2 ys
    split at e1
    · rename_i n
      cases e1
      obtain ⟨n1, n2⟩ := Bool.and_eq_true_iff.mp n
      refine ⟨G, rfl, g, q.1, q.2, h1, fun G1 vs gv a1 a2 a3 a4 a5 => ?_⟩
      obtain ⟨r, nd, out⟩ := a4.reps h2
      obtain ⟨v, r', ga, gb, rfl, rfl, rx, w, r2, gc, gd, rfl, rfl, ry, ⟨rfl, rfl⟩⟩ := r
      have hK : G1.K = X.K := a2.k
      have nda := List.nodup_append.mp nd
      have tx : Tmp G1 v (.tup xs) ga := ⟨rx, nda.1, fun a h => out a (by simp [h])⟩
      have ty : Tmp G1 w (.lst m2 ys) gc := ⟨ry, (by simpa using nda.2.1), fun a h => out a (by simp [h])⟩
      obtain ⟨p1, w1, rfl, sq1, rr1⟩ := Rep.tupT a2.fp a2.ph rx
      obtain ⟨p2, w2, _, rfl, sq2, rr2, _, _⟩ := Rep.lstL a2.fp a2.ph ry
      refine ⟨p1, p2, w1, w2, rfl, hK ▸ sq1, hK ▸ sq2, k G1 _ a1 a2 a3 ?_⟩
      intro G' σ' gd st
      obtain ⟨_, v1, e1, s1, r1⟩ := Rep.tupT gd.fp gd.ph (tx.step st).rep
      cases e1
      obtain ⟨_, v2, _, e2, s2, r2, _, _⟩ := Rep.lstL gd.fp gd.ph (ty.step st).rep
      cases e2
      have hK' : G'.K = X.K := gd.k
      rw [hK'] at s1 s2
      refine ⟨fun i t h => ?_, v1, v2, s1, s2, ?_⟩
      · obtain ⟨x0, y0, h1, h2, rfl⟩ := zipT_get _ _ _ _ h
        obtain ⟨u1, e1, t1⟩ := tmp_item r1 n1 h1
        obtain ⟨u2, e2, t2⟩ := tmp_item r2 n2 h2
        refine ⟨⟨v1, v2, u1, u2, s1, s2, e1, e2⟩, fun x H'' y => ?_⟩
        obtain ⟨Ta, x1, x2, rfl, hT, rfl, y1, y2⟩ := y
        have q1 := y1 v1 s1
        have q2 := y2 v2 s2
        rw [e1] at q1
        rw [e2] at q2
        cases q1
        cases q2
        obtain ⟨g2, st2⟩ := gd.newF (o := .tup [u1, u2]) hT
        have rr2 : Reps G'.toHc [x0, y0] [u1, u2] [] := ⟨_, [u2], [], [], rfl, rfl, t1.rep, u2, [], [], [], rfl, rfl, t2.rep, rfl, rfl⟩
        exact ⟨G'.newF Ta (.tup [u1, u2]), rfl, rfl, g2, st2, gd.newT hT rr2 List.nodup_nil fun _ m => absurd m (by simp)⟩
      · rw [zipT_len, r1.len, r2.len]
    · cases e1
  · cases e1
/-! ### a list that its name keeps, walked by a comprehension -/
def dLcK (own : List Nat) (i : Nat) (g : DG) (tt : DT) (te : DE) : DE := fun S => match slot S i with
  | some (.lst .ow xs) => if noOws xs then (lcGo own g tt te xs [] (wipeS (setS S i none) own)).bind fun q => some (.lst .ow q.1, setS q.2 i (some (.lst .ow xs))) else none
  | _ => none
section
variable {X : Cx} {ca : Str → Addr} {pos : Pos} {ef et ee : Bool}
theorem set_self {σ : L2.St} {i : Nat} {v : V} (h : σ[i]? = some (some v)) : σ.set i (some v) = σ := by
  obtain ⟨h1, h2⟩ := List.getElem?_eq_some_iff.mp h
  rw [← h2]
  exact List.set_getElem_self h1
abbrev wSeq (K : PySem.W.Frag) (tl : TE) : TI := fun σ H R => tl σ H fun x H1 => (∃ a xs, x = .ref a ∧ SqL K H1 a xs ∧ R (Itl K a) H1) ∨ (∃ a xs, x = .ref a ∧ SqT K H1 a xs ∧ R (Itt K a) H1) ∨ ∃ z, x = .str z ∧ R (Its z) H1
theorem lcK_of {K : PySem.W.Frag} {i : Nat} {own : List Nat} {dg : DG} {is : List Nat} {dt : DT} {de : DE} (hsub : ∀ i ∈ is, i ∈ own) {σ : L2.St} {H : Hp} {Q : VK} (w : liftE K ca true (dLcK own i dg dt de) σ H Q) :
    tLc (wSeq K (tVar i)) (liftG K ca is dg) (liftT K ca et dt) (liftE K ca ee de) own σ H Q := by
  obtain ⟨G, rfl, g, r, S', e1, k⟩ := w
  unfold dLcK at e1
  split at e1
  case h_2 => cases e1
  rename_i xs hsl
  split at e1
  case isFalse => cases e1
  rename_i no
  obtain ⟨z, h4, e1⟩ := Option.bind_eq_some_iff.mp e1
  cases e1
  obtain ⟨v, hv, tm, nw⟩ := g.take (slot_some hsl)
  obtain ⟨g2, s2⟩ := g.drop i
  have hK : (G.put i none []).K = K := g2.k
  obtain ⟨p', vs, gs, rfl, sq, _, _, _⟩ := Rep.lstL g2.fp g2.ph tm.rep
  refine ⟨.ref p', hv, .inl ⟨p', vs, rfl, hK ▸ sq, TL.lc_core (G1 := G.put i none []) (et := et) (ee := ee) (Q := Q) hsub g2 (walks_list hK tm no) h4 fun G' u gu b1 b2 b3 b4 b5 => ?_⟩⟩
  have tmE := tm.step b3
  have ap : ∀ a ∈ gu, a ∉ G.fp (.s i) := fun a m m' => tm.apart b5 a m' m
  have hl : i < σ.length := (List.getElem?_eq_some_iff.mp hv).1
  obtain ⟨g5, s5⟩ := b2.store hl tmE
  rw [set_self hv] at g5
  exact k (G'.put i (some (.lst .ow xs)) (G.fp (.s i))) u gu (by rw [← b1]; rfl) g5 (s5 G true (s2.trans b3) nw) (b4.put ap) (b5.step s2)
theorem ex_lcK {i : Nat} {l elt tg : Expr} {ifs : List Expr} {scope : Scope} {own : List (Str × Nat)} {dg : DG} {is : List Nat} {dt : DT} {de : DE} (hsub : ∀ i ∈ is, i ∈ own.map (·.2)) (hc : X.calm = true) (hN : X.N.Nodup) (ho : PE X l (tVar i)) (ok : BlkOk X.N X.env.scope scope own)
    (hg : ∀ (s : Shared) (H : Hp) (C : Addr) (cl : List (Str × Addr)) (fp : List Addr), GX ca (X.blk s H scope (compEnvC scope cl C X.env) fp) tg is dg) (ht : ∀ (s : Shared) (H : Hp) (C : Addr) (cl : List (Str × Addr)) (fp : List Addr), TsX ca (X.blk s H scope (compEnvC scope cl C X.env) fp) ifs et dt)
    (he : ∀ (s : Shared) (H : Hp) (C : Addr) (cl : List (Str × Addr)) (fp : List Addr), EX ca (X.blk s H scope (compEnvC scope cl C X.env) fp) elt ee de) (hs : ∀ x, foldedSetIterable l X.env x = pure x := by intro _; rfl) :
    EX ca X (.ListComp elt [⟨tg, l, ifs, 0⟩] scope pos) true (dLcK (own.map (·.2)) i dg dt de) :=
  PE.imp (pe_lc hc hN (pi_seq ho) ok hg ht he hs) fun σ H Q w => lcK_of hsub w
theorem sx_setLcK {i j : Nat} {y : Str} {py : Pos} {l elt tg : Expr} {ifs : List Expr} {scope : Scope} {own : List (Str × Nat)} {spos : Pos} {dg : DG} {is : List Nat} {dt : DT} {de : DE} (hsub : ∀ i ∈ is, i ∈ own.map (·.2)) (hc : X.calm = true) (hN : X.N.Nodup) (hy : X.N[i]? = some y) (hyl : X.env.scope.names.lookup y = some .local)
    (hsw : swapsWith (.ListComp elt [⟨tg, l, ifs, 0⟩] scope pos) (some (.Name y py)) spos.line X.env = pure true) (ho : PE X l (tVar j)) (ok : BlkOk X.N X.env.scope scope own)
    (hg : ∀ (s : Shared) (H : Hp) (C : Addr) (cl : List (Str × Addr)) (fp : List Addr), GX ca (X.blk s H scope (compEnvC scope cl C X.env) fp) tg is dg) (ht : ∀ (s : Shared) (H : Hp) (C : Addr) (cl : List (Str × Addr)) (fp : List Addr), TsX ca (X.blk s H scope (compEnvC scope cl C X.env) fp) ifs et dt)
    (he : ∀ (s : Shared) (H : Hp) (C : Addr) (cl : List (Str × Addr)) (fp : List Addr), EX ca (X.blk s H scope (compEnvC scope cl C X.env) fp) elt ee de) (hs : ∀ x, foldedSetIterable l X.env x = pure x := by intro _; rfl) :
    SX ca X (.Assign [.Name y py] (.ListComp elt [⟨tg, l, ifs, 0⟩] scope pos) spos) (sAsg (dLcK (own.map (·.2)) j dg dt de) (gNm i)) :=
  PS.imp (ps_setLc hc hN hy hyl hsw (pi_seq ho) ok hg ht he hs) fun D σ H w => by
    obtain ⟨G, rfl, g, f, S', e1, k⟩ := w
    obtain ⟨p, h3, e1⟩ := Option.bind_eq_some_iff.mp e1
    obtain ⟨S2, h4, e1⟩ := Option.bind_eq_some_iff.mp e1
    cases e1
    refine lcK_of (et := et) (ee := ee) hsub ⟨G, rfl, g, p.1, p.2, h3, fun G1 v gv a1 a2 a3 a4 a5 => ?_⟩
    unfold gNm at h4
    split at h4
    · rename_i hl
      cases h4
      have hl : i < σ.length := by
        have e2 : G1.τ.length = p.2.1.length := by rw [← a1]
        rw [← a2.len, e2]; exact hl
      obtain ⟨g2, s2⟩ := a2.store hl a4
      refine k (G1.put i (some p.1) gv) _ ?_ g2 (s2 G true a3 a5)
      show (G1.τ.set i (some p.1), G1.O) = setS p.2 i (some p.1)
      rw [← a1] <;> rfl
    · cases h4
end
end TL

set_option Elab.async false
set_option linter.all false
set_option maxRecDepth 100000
set_option exponentiation.threshold 10000
/-! TL32: numbers, weights, lengths and entries as texts, in plain Lean. -/
namespace TL
open PySem PySem.Spec L2
/-! ### numbers -/
def num (n : Nat) : Str := Str.ofString (toString (n : Int))
theorem tl_num' (n : Nat) : tl (num n) = numL n := tl_num n
theorem num_len {n : Nat} (h : n < 10 ^ 9) : (num n).length ≤ 9 := by
  rw [len_tl, tl_num']
  exact numL_len (by omega) h
theorem num_pos (n : Nat) : 1 ≤ (num n).length := by
  rw [len_tl, tl_num']
  have := numL_ne n
  cases h : numL n with
  | nil => exact absurd h this
  | cons a b => simp
theorem num_int {n : Nat} (h : n < 10 ^ 9) : intText? (num n) = some (n : Int) := int_num (by have := numL_len (k := 9) (n := n) (by omega) h; omega)
/-- no nought ahead -/
theorem num_head : ∀ {n : Nat}, 0 < n → ∃ c r, numL n = c :: r ∧ c ≠ 48 := by
  intro n
  induction n using Nat.strongRecOn with
  | _ n ih =>
    intro h
    by_cases hn : n < 10
    · exact ⟨48 + n, [], numL_lt hn, by omega⟩
    · obtain ⟨c, r, e, hc⟩ := ih (n / 10) (by omega) (by omega)
      exact ⟨c, r ++ [48 + n % 10], by rw [numL_step (by omega), e]; rfl, hc⟩
theorem cps_num (n : Nat) : (num n).cps.toList = numL n := tl_num' n
theorem digit_in {c : Nat} (h : 48 ≤ c ∧ c ≤ 57) : c ∈ ("0123456789" : Str).cps.toList := by
  have e : ("0123456789" : Str).cps.toList = [48, 49, 50, 51, 52, 53, 54, 55, 56, 57] := by decide +kernel
  rw [e]
  simp
  omega
theorem numL_dig (n : Nat) : ∀ c ∈ numL n, 48 ≤ c ∧ c ≤ 57 := by
  intro c m
  refine Classical.byContradiction fun h => ?_
  exact numL_free (n := n) (s := c) (by omega) m
theorem num_zero : num 0 = "0" := by decide +kernel
theorem fStr_num {n : Nat} (h : n < 10 ^ 9) : fStr [.int n] = some (.str (num n)) := by
  show (if (n : Int).natAbs.log2 < 1920 then some (T.str (Str.ofString (toString (n : Int)))) else none) = _
  rw [if_pos]
  · rfl
  · show n.log2 < 1920
    by_cases h0 : n = 0
    · subst h0; decide
    · have : n.log2 < 30 := (Nat.log2_lt h0).mpr (by omega)
      omega
/-! ### units -/
def upart (q : Nat) (u : Str) : Str := if q = 0 then Str.empty else num q ++ u
theorem empty_app (x : Str) : Str.empty ++ x = x := ext_tl (by rw [tl_append]; rfl)
theorem app_empty (x : Str) : x ++ Str.empty = x := ext_tl (by rw [tl_append]; show tl x ++ [] = _; simp)
theorem app_assoc (x y z : Str) : x ++ y ++ z = x ++ (y ++ z) := ext_tl (by simp only [tl_append, List.append_assoc])
theorem len_app (x y : Str) : (x ++ y).length = x.length + y.length := by simp only [len_tl, tl_append, List.length_append]
theorem str_empty : ("" : Str) = Str.empty := by decide +kernel
theorem upart_len {q : Nat} {u : Str} (h : q < 10 ^ 9) (hu : u.length = 1) : (upart q u).length ≤ 10 := by
  unfold upart
  split
  · show 0 ≤ 10; omega
  · rw [len_app, hu]; have := num_len h; omega
theorem upart_ne {q : Nat} {u : Str} (h : q ≠ 0) : 1 ≤ (upart q u).length := by
  unfold upart
  rw [if_neg h, len_app]
  have := num_pos q
  omega
theorem tl_upart {q : Nat} {u : Str} {d : Nat} (hd : d < 48 ∨ 57 < d) (hu : d ∉ tl u) : d ∉ tl (upart q u) := by
  unfold upart
  split
  · show d ∉ []; simp
  · rw [tl_append, tl_num']
    intro m
    rcases List.mem_append.mp m with m | m
    · exact numL_free hd m
    · exact hu m
/-- a number by three units, the last one's worth 1 -/
def utext (x y z : Str) (a b : Nat) (w : Nat) : Str := if w = 0 then num 0 ++ z else upart (w / a) x ++ (upart (w % a / b) y ++ upart (w % a % b) z)
def wtext (w : Nat) : Str := utext "c" "s" "p" 112 14 w
def ltext (w : Nat) : Str := utext "m" "f" "r" 320 40 w
def unitsT (x y z : Str) (a b : Nat) : T := .tup [.tup [.str x, .int a], .tup [.str y, .int b], .tup [.str z, .int 1]]
theorem utext_len {x y z : Str} {a b w : Nat} (hx : x.length = 1) (hy : y.length = 1) (hz : z.length = 1) (h : w < 10 ^ 9) : (utext x y z a b w).length ≤ 30 := by
  unfold utext
  split
  · rw [len_app, hz]; have := num_len (n := 0) (by omega); omega
  · have p1 := upart_len (q := w / a) (Nat.lt_of_le_of_lt (Nat.div_le_self _ _) h) hx
    have m1 : w % a < 10 ^ 9 := Nat.lt_of_le_of_lt (Nat.mod_le _ _) h
    have p2 := upart_len (q := w % a / b) (Nat.lt_of_le_of_lt (Nat.div_le_self _ _) m1) hy
    have p3 := upart_len (q := w % a % b) (Nat.lt_of_le_of_lt (Nat.mod_le _ _) m1) hz
    rw [len_app, len_app]; omega
theorem utext_free {x y z : Str} {a b w d : Nat} (hd : d < 48 ∨ 57 < d) (hx : d ∉ tl x) (hy : d ∉ tl y) (hz : d ∉ tl z) : d ∉ tl (utext x y z a b w) := by
  unfold utext
  split
  · rw [tl_append, tl_num']
    intro m
    rcases List.mem_append.mp m with m | m
    · exact numL_free hd m
    · exact hz m
  · rw [tl_append, tl_append]
    intro m
    rcases List.mem_append.mp m with m | m
    · exact tl_upart hd hx m
    · rcases List.mem_append.mp m with m | m
      · exact tl_upart hd hy m
      · exact tl_upart hd hz m
theorem wtext_len {w : Nat} (h : w < 10 ^ 9) : (wtext w).length ≤ 30 := utext_len (by decide +kernel) (by decide +kernel) (by decide +kernel) h
theorem ltext_len {w : Nat} (h : w < 10 ^ 9) : (ltext w).length ≤ 30 := utext_len (by decide +kernel) (by decide +kernel) (by decide +kernel) h
theorem wtext_free {w d : Nat} (hd : d = 32 ∨ d = 10) : d ∉ tl (wtext w) := by
  rcases hd with rfl | rfl <;> exact utext_free (by omega) (by decide +kernel) (by decide +kernel) (by decide +kernel)
theorem ltext_free {w d : Nat} (hd : d = 32 ∨ d = 10) : d ∉ tl (ltext w) := by
  rcases hd with rfl | rfl <;> exact utext_free (by omega) (by decide +kernel) (by decide +kernel) (by decide +kernel)
theorem num_free {n d : Nat} (hd : d = 32 ∨ d = 10) : d ∉ tl (num n) := by
  rw [tl_num']
  rcases hd with rfl | rfl <;> exact numL_free (by omega)
theorem Nm.free {s : Str} {d : Nat} (h : Nm s) (hd : d = 32 ∨ d = 10) : d ∉ tl s := fun m => by
  have := h.2.2 d m
  omega
/-! ### an entry's words -/
def Part.sorts : Part → List Str
  | .hand .. => ["name", "strength", "strength", "strength", "eats"]
  | .off .. => ["name"]
  | .load .. => ["name", "weight", "name"]
  | .canoe .. => ["name", "weight", "strength", "name"]
  | .way .. => ["name", "name", "name", "kind", "length", "hard"]
  | .shut .. => ["name", "day", "day"]
  | .storm .. => ["day", "day"]
  | .store .. => ["name", "rations"]
  | .fill .. => ["rations"]
  | .take .. => ["name"]
  | .leave .. => ["name"]
  | .go .. => ["name"]
def wI (i : Int) : Str := wtext i.toNat
def lI (i : Int) : Str := ltext i.toNat
def nI (i : Int) : Str := num i.toNat
def Part.words : Part → List Str
  | .hand n a b c e => [n, wI a, wI b, wI c, nI e]
  | .off n => [n]
  | .load n w c => [n, wI w, c]
  | .canoe n w s c => [n, wI w, wI s, c]
  | .way n a b k l h => [n, a, b, k, lI l, nI h]
  | .shut n f t => [n, nI f, nI t]
  | .storm f t => [nI f, nI t]
  | .store c r => [c, nI r]
  | .fill r => [nI r]
  | .take n => [n]
  | .leave n => [n]
  | .go n => [n]
def En.words (e : En) : List Str := nI e.num :: nI e.day :: e.part.word :: e.part.words
def En.text (e : En) : Str := Txt.join " " e.words
/-- short, without blanks and line feeds -/
def Wd (s : Str) : Prop := s.length ≤ 30 ∧ (32 : Nat) ∉ tl s ∧ (10 : Nat) ∉ tl s
theorem Nm.wd {s : Str} (h : Nm s) : Wd s := ⟨by have h2 := h.2.1; rw [len_tl]; have h2 : (tl s).length ≤ 8 := h2; omega, h.free (.inl rfl), h.free (.inr rfl)⟩
theorem wd_w {i : Int} (h : i ≤ 1000000) : Wd (wI i) := ⟨wtext_len (by omega), wtext_free (.inl rfl), wtext_free (.inr rfl)⟩
theorem wd_l {i : Int} (h : i ≤ 1000000) : Wd (lI i) := ⟨ltext_len (by omega), ltext_free (.inl rfl), ltext_free (.inr rfl)⟩
theorem wd_n {i : Int} (h : i ≤ 1000000) : Wd (nI i) := ⟨by have := num_len (n := i.toNat) (by omega); unfold nI; omega, num_free (.inl rfl), num_free (.inr rfl)⟩
theorem wd_word (p : Part) : Wd p.word := by
  unfold Wd
  cases p <;> (simp only [Part.word]; decide +kernel)
theorem wd_all {d : Int} {p : Part} (h : p.ok d) : ∀ s ∈ p.words, Wd s := by
  have hk : ∀ k : Str, k = "land" ∨ k = "water" → Wd k := fun k h => by
    unfold Wd
    rcases h with rfl | rfl <;> decide +kernel
  cases p <;> simp only [Part.words, List.mem_cons, List.not_mem_nil, or_false, forall_eq_or_imp, forall_eq] <;> simp only [Part.ok, lbs] at h
  · exact ⟨h.1.wd, wd_w h.2.1.2, wd_w h.2.2.1.2, wd_w h.2.2.2.1.2, wd_n (by omega)⟩
  · exact Nm.wd h
  · exact ⟨h.1.wd, wd_w h.2.2.1, h.2.2.2.wd⟩
  · exact ⟨h.1.wd, wd_w h.2.2.1, wd_w h.2.2.2.1.2, h.2.2.2.2.wd⟩
  · exact ⟨h.1.wd, h.2.1.wd, h.2.2.1.wd, hk _ h.2.2.2.1, wd_l (by omega), wd_n (by omega)⟩
  · exact ⟨h.1.wd, wd_n (by omega), wd_n (by omega)⟩
  · exact ⟨wd_n (by omega), wd_n (by omega)⟩
  · exact ⟨h.1.wd, wd_n (by omega)⟩
  · exact wd_n (by omega)
  · exact Nm.wd h
  · exact Nm.wd h
  · exact Nm.wd h
theorem en_wd {e : En} (h : e.ok) : ∀ s ∈ e.words, Wd s := by
  intro s m
  unfold En.words at m
  obtain ⟨h1, h2, h3, h4, h5⟩ := h
  rcases List.mem_cons.mp m with rfl | m
  · exact wd_n (by omega)
  · rcases List.mem_cons.mp m with rfl | m
    · exact wd_n (by omega)
    · rcases List.mem_cons.mp m with rfl | m
      · exact wd_word _
      · exact wd_all h5 s m
theorem words_few (p : Part) : p.words.length ≤ 6 ∧ 1 ≤ p.words.length ∧ p.words.length = p.sorts.length ∧ p.words.length = p.rest.length := by
  cases p <;> exact ⟨Nat.le_of_ble_eq_true rfl, Nat.le_of_ble_eq_true rfl, rfl, rfl⟩
theorem sum_le {l : List Nat} {k : Nat} (h : ∀ x ∈ l, x ≤ k) : l.sum ≤ l.length * k := by
  induction l with
  | nil => simp
  | cons a l ih =>
    have h1 := h a (by simp)
    have h2 := ih fun x m => h x (List.mem_cons_of_mem _ m)
    rw [List.sum_cons, List.length_cons, Nat.succ_mul]
    omega
theorem joinL_cons (y a b : List Nat) (l : List (List Nat)) : joinL y (a :: b :: l) = a ++ y ++ joinL y (b :: l) := by
  show a ++ (y ++ joinL y (b :: l)) = _
  rw [List.append_assoc]
/-- texts joined by one sign -/
theorem join_len (y : Str) (l : List Str) (hy : y.length = 1) {k : Nat} (h : ∀ s ∈ l, s.length ≤ k) : (Txt.join y l).length ≤ l.length * (k + 1) := by
  rw [join_eq, len_tl, tl_join]
  have : ∀ l : List Str, (∀ s ∈ l, s.length ≤ k) → (joinL (tl y) (l.map tl)).length ≤ l.length * (k + 1) := fun l => by
    induction l with
    | nil => intro _; show ([] : List Nat).length ≤ _; simp
    | cons a l ih =>
      intro h
      have ha : (tl a).length ≤ k := by rw [← len_tl]; exact h a (by simp)
      have ih := ih fun s m => h s (List.mem_cons_of_mem _ m)
      cases l with
      | nil =>
        show (tl a).length ≤ _
        rw [List.length_singleton, Nat.one_mul]
        omega
      | cons b l =>
        rw [List.map_cons, List.map_cons, joinL_cons, ← List.map_cons, List.length_append, List.length_append, ← len_tl y, hy, List.length_cons (as := b :: l), Nat.succ_mul]
        omega
  exact this l h
theorem join_free {y : Str} {l : List Str} {d : Nat} (hy : d ∉ tl y) (h : ∀ s ∈ l, d ∉ tl s) : d ∉ tl (Txt.join y l) := by
  rw [join_eq, tl_join]
  have : ∀ l : List Str, (∀ s ∈ l, d ∉ tl s) → d ∉ joinL (tl y) (l.map tl) := fun l => by
    induction l with
    | nil => intro _ m; exact absurd m (by show d ∉ ([] : List Nat); simp)
    | cons a l ih =>
      intro h m
      have ha := h a (by simp)
      have ih := ih fun s m => h s (List.mem_cons_of_mem _ m)
      cases l with
      | nil => exact ha m
      | cons b l =>
        rw [List.map_cons, List.map_cons, joinL_cons, ← List.map_cons] at m
        rcases List.mem_append.mp m with m | m
        · rcases List.mem_append.mp m with m | m
          · exact ha m
          · exact hy m
        · exact ih m
  exact this l h
theorem fJoin_of {y : Str} {m : Mk} {l : List Str} (hy : y.length = 1) (hl : l.length ≤ 1000) (h : ∀ s ∈ l, s.length ≤ 1000) : fJoin (.str y) (.lst m (l.map T.str)) = some (.str (Txt.join y l)) := by
  have hs : ∀ l : List Str, strsT (l.map T.str) = some l := fun l => by
    induction l with
    | nil => rfl
    | cons a l ih => show (strsT (l.map T.str)).bind _ = _; rw [ih]; rfl
  show ((strsT (l.map T.str)).bind fun ys => if (ys.map (·.length)).sum + ys.length * y.length ≤ 16777216 then some (T.str (Txt.join y ys)) else none) = _
  rw [hs, Option.bind_some, if_pos]
  have h1 : (l.map (·.length)).sum ≤ l.length * 1000 := by
    have := sum_le (l := l.map (·.length)) (k := 1000) fun x m => by
      obtain ⟨s, ms, rfl⟩ := List.mem_map.mp m
      exact h s ms
    rw [List.length_map] at this
    exact this
  rw [hy]
  omega
theorem line_ge : 16777216 ≤ sizeLine := by decide
theorem fSplit_of {y : Str} {c : Nat} {l : List Str} (hy : tl y = [c]) (hk : y.cps.all (· < 256) = true) (h0 : l ≠ []) (hf : ∀ s ∈ l, c ∉ tl s) (hl : l.length ≤ 1000) (h : ∀ s ∈ l, s.length ≤ 1000) : fSplit (.str (Txt.join y l)) (.str y) = some (.lst .ow (l.map T.str)) := by
  have hy1 : y.length = 1 := by rw [len_tl, hy]; rfl
  have hl2 := join_len y l hy1 h
  have := line_ge
  have h3 : l.length * (1000 + 1) ≤ 1000 * (1000 + 1) := Nat.mul_le_mul_right _ hl
  show (if (y.length == 0) = false ∧ (Txt.join y l).length + 2 ≤ sizeLine then some (T.lst .ow ((Txt.split (Txt.join y l) y).map T.str)) else none) = _
  rw [if_pos ⟨by rw [hy1]; rfl, by omega⟩, split_join hy hk h0 hf]
theorem blank_tl : tl (" " : Str) = [32] := by decide +kernel
theorem feed_tl : tl ("\n" : Str) = [10] := by decide +kernel
theorem en_words_len (e : En) : e.words.length ≤ 9 ∧ 4 ≤ e.words.length := by
  have := words_few e.part
  unfold En.words
  simp only [List.length_cons]
  omega
theorem en_join {e : En} {m : Mk} (h : e.ok) : fJoin (.str " ") (.lst m (e.words.map T.str)) = some (.str e.text) := fJoin_of (by decide +kernel) (by have := en_words_len e; omega) fun s m => by have := (en_wd h s m).1; omega
theorem en_split {e : En} (h : e.ok) : fSplit (.str e.text) (.str " ") = some (.lst .ow (e.words.map T.str)) := fSplit_of blank_tl (by decide +kernel) (by unfold En.words; simp) (fun s m => (en_wd h s m).2.1) (by have := en_words_len e; omega) fun s m => by have := (en_wd h s m).1; omega
theorem en_text_len {e : En} (h : e.ok) : e.text.length ≤ 300 := by
  have h1 := join_len " " e.words (by decide +kernel) (k := 30) fun s m => (en_wd h s m).1
  have h2 := en_words_len e
  have h3 : e.words.length * (30 + 1) ≤ 9 * (30 + 1) := Nat.mul_le_mul_right _ h2.1
  unfold En.text
  omega
theorem en_text_free {e : En} (h : e.ok) : (10 : Nat) ∉ tl e.text := join_free (by decide +kernel) fun s m => (en_wd h s m).2.2
theorem en_text_ne (e : En) : e.text ≠ "" := fun h => by
  have h1 : tl e.text = [] := by rw [h]; decide +kernel
  unfold En.text En.words at h1
  rw [join_eq, tl_join, List.map_cons, List.map_cons, joinL_cons, blank_tl] at h1
  simp at h1
/-- a log's text -/
def rollText (l : List En) : Str := Txt.join "\n" (l.map En.text)
end TL

set_option Elab.async false
set_option linter.all false
set_option maxRecDepth 100000
set_option exponentiation.threshold 10000
/-! TL33: texts of entries are texts. -/
namespace TL
open PySem PySem.Spec L2
def Lo (s : Str) : Prop := ∀ c ∈ tl s, c < 200
theorem Lo.ok {s : Str} (h : Lo s) : PyData.strOk s = true := by
  unfold PyData.strOk
  rw [← Array.all_toList]
  refine List.all_eq_true.mpr fun c m => decide_eq_true ?_
  have := h c m
  omega
theorem lo_app {x y : Str} (hx : Lo x) (hy : Lo y) : Lo (x ++ y) := fun c m => by
  rw [tl_append] at m
  rcases List.mem_append.mp m with m | m
  · exact hx c m
  · exact hy c m
theorem lo_num (n : Nat) : Lo (num n) := fun c m => by
  rw [tl_num'] at m
  have := numL_dig n c m
  omega
theorem lo_empty : Lo Str.empty := fun c m => absurd m (by show c ∉ []; simp)
theorem lo_upart {q : Nat} {u : Str} (h : Lo u) : Lo (upart q u) := by
  unfold upart
  split
  · exact lo_empty
  · exact lo_app (lo_num _) h
theorem lo_utext {x y z : Str} {a b w : Nat} (hx : Lo x) (hy : Lo y) (hz : Lo z) : Lo (utext x y z a b w) := by
  unfold utext
  split
  · exact lo_app (lo_num _) hz
  · exact lo_app (lo_upart hx) (lo_app (lo_upart hy) (lo_upart hz))
theorem lo_w (i : Int) : Lo (wI i) := lo_utext (by unfold Lo; decide +kernel) (by unfold Lo; decide +kernel) (by unfold Lo; decide +kernel)
theorem lo_l (i : Int) : Lo (lI i) := lo_utext (by unfold Lo; decide +kernel) (by unfold Lo; decide +kernel) (by unfold Lo; decide +kernel)
theorem lo_n (i : Int) : Lo (nI i) := lo_num _
theorem Nm.lo {s : Str} (h : Nm s) : Lo s := fun c m => by
  have := (h.2.2 c m).2
  omega
theorem lo_join {y : Str} {l : List Str} (hy : Lo y) (h : ∀ s ∈ l, Lo s) : Lo (Txt.join y l) := fun c m => by
  refine Classical.byContradiction fun hc => ?_
  exact join_free (y := y) (l := l) (d := c) (fun z => hc (hy c z)) (fun s ms z => hc (h s ms c z)) m
theorem lo_all {d : Int} {p : Part} (h : p.ok d) : ∀ s ∈ p.words, Lo s := by
  have hk : ∀ k : Str, k = "land" ∨ k = "water" → Lo k := fun k h => by
    unfold Lo
    rcases h with rfl | rfl <;> decide +kernel
  cases p <;> simp only [Part.words, List.mem_cons, List.not_mem_nil, or_false, forall_eq_or_imp, forall_eq] <;> simp only [Part.ok, lbs] at h
  · exact ⟨h.1.lo, lo_w _, lo_w _, lo_w _, lo_n _⟩
  · exact Nm.lo h
  · exact ⟨h.1.lo, lo_w _, h.2.2.2.lo⟩
  · exact ⟨h.1.lo, lo_w _, lo_w _, h.2.2.2.2.lo⟩
  · exact ⟨h.1.lo, h.2.1.lo, h.2.2.1.lo, hk _ h.2.2.2.1, lo_l _, lo_n _⟩
  · exact ⟨h.1.lo, lo_n _, lo_n _⟩
  · exact ⟨lo_n _, lo_n _⟩
  · exact ⟨h.1.lo, lo_n _⟩
  · exact lo_n _
  · exact Nm.lo h
  · exact Nm.lo h
  · exact Nm.lo h
theorem lo_word (p : Part) : Lo p.word := by
  unfold Lo
  cases p <;> (simp only [Part.word]; decide +kernel)
theorem lo_text {e : En} (h : e.ok) : Lo e.text := lo_join (by unfold Lo; decide +kernel) fun s m => by
  unfold En.words at m
  rcases List.mem_cons.mp m with rfl | m
  · exact lo_n _
  · rcases List.mem_cons.mp m with rfl | m
    · exact lo_n _
    · rcases List.mem_cons.mp m with rfl | m
      · exact lo_word _
      · exact lo_all h.2.2.2.2 s m
theorem lo_roll {es : List En} (h : ∀ e ∈ es, e.ok) : Lo (rollText es) := lo_join (by unfold Lo; decide +kernel) fun s m => by
  obtain ⟨e, me, rfl⟩ := List.mem_map.mp m
  exact lo_text (h e me)
end TL

set_option Elab.async false
set_option linter.all false
set_option maxRecDepth 100000
set_option exponentiation.threshold 10000
/-! TL34: plain trees: marks, depth; logs. -/
namespace TL
open PySem PySem.Spec L2
mutual
theorem owT_brw : ∀ t : T, t.brw.owT = t.owT
  | .lst m xs => congrArg (T.lst .ow) (owTs_brw xs)
  | .tup xs => congrArg T.tup (owTs_brw xs)
  | .non => rfl
  | .bl _ => rfl
  | .int _ => rfl
  | .str _ => rfl
  | .hnd _ => rfl
  | .dic m kvs => rfl
theorem owTs_brw : ∀ ts : List T, owTs (brws ts) = owTs ts
  | [] => rfl
  | t :: ts => by show t.brw.owT :: owTs (brws ts) = _; rw [owT_brw t, owTs_brw ts]; rfl
end
theorem brws_len' : ∀ xs : List T, (brws xs).length = xs.length
  | [] => rfl
  | _ :: xs => congrArg (· + 1) (brws_len' xs)
mutual
theorem plainT_brw : ∀ t : T, t.brw.plainT = t.plainT
  | .lst m xs => by show (plainTs (brws xs) && decide ((brws xs).length < sizeLine)) = _; rw [plainTs_brw xs, brws_len']; rfl
  | .tup xs => by show (plainTs (brws xs) && decide ((brws xs).length < sizeLine ∧ noOws (owTs (brws xs)) = true)) = _; rw [plainTs_brw xs, brws_len', owTs_brw]; rfl
  | .non => rfl
  | .bl _ => rfl
  | .int _ => rfl
  | .str _ => rfl
  | .hnd _ => rfl
  | .dic m kvs => rfl
theorem plainTs_brw : ∀ ts : List T, plainTs (brws ts) = plainTs ts
  | [] => rfl
  | t :: ts => by show (t.brw.plainT && plainTs (brws ts)) = _; rw [plainT_brw t, plainTs_brw ts]; rfl
end
mutual
theorem deep_brw : ∀ t : T, t.brw.deep = t.deep
  | .lst m xs => by show deeps (brws xs) + 1 = deeps xs + 1; rw [deeps_brw xs]
  | .tup xs => by show deeps (brws xs) + 1 = deeps xs + 1; rw [deeps_brw xs]
  | .non => rfl
  | .bl _ => rfl
  | .int _ => rfl
  | .str _ => rfl
  | .hnd _ => rfl
  | .dic m kvs => rfl
theorem deeps_brw : ∀ ts : List T, deeps (brws ts) = deeps ts
  | [] => rfl
  | t :: ts => by show max t.brw.deep (deeps (brws ts)) = max t.deep (deeps ts); rw [deep_brw t, deeps_brw ts]
end
/-! ### what a view is -/
theorem plain_lst {m : Mk} {xs : List T} (h : ∀ t ∈ xs, t.plainT = true) (hl : xs.length ≤ 1000) : T.plainT (.lst m xs) = true := by
  show (plainTs xs && decide (xs.length < sizeLine)) = true
  rw [plainTs_of h, decide_eq_true (small_line hl)]; rfl
theorem map_owT {α : Type} {f : α → T} (h : ∀ a, (f a).owT = f a) (l : List α) : owTs (l.map f) = l.map f := by
  rw [owTs_map, List.map_map]
  exact List.map_congr_left fun a _ => h a
theorem ens_toP (m : Mk) (es : List En) : T.toP (.lst m (es.map En.t)) = some (.list (es.map En.data)) := by
  have : ∀ l : List En, toPs (l.map En.t) = some (l.map En.data) := fun l => by
    induction l with
    | nil => rfl
    | cons e l ih =>
      show (e.t.toP.bind fun d => (toPs (l.map En.t)).bind fun ds => some (d :: ds)) = _
      rw [en_toP, ih]; rfl
  show (toPs (es.map En.t)).bind _ = _
  rw [this]; rfl
theorem ens_plain {m : Mk} {es : List En} (hok : ∀ e ∈ es, e.ok) (hl : es.length ≤ 100) : T.plainT (.lst m (es.map En.t)) = true := plain_lst (fun t mm => by
  obtain ⟨e, me, rfl⟩ := List.mem_map.mp mm; exact en_plain (hok e me)) (by rw [List.length_map]; omega)
theorem ens_deep (m : Mk) (es : List En) : T.deep (.lst m (es.map En.t)) ≤ 3 := Nat.succ_le_succ (deeps_le fun t mm => by
  obtain ⟨e, _, rfl⟩ := List.mem_map.mp mm; rw [en_deep]; exact Nat.le_refl _)
theorem fNe_nil {m : Mk} {es : List En} (hok : ∀ e ∈ es, e.ok) (hl : es.length ≤ 100) : fNe (.lst m (es.map En.t)) (.lst .ow []) = some (.bl (!es.isEmpty)) := by
  obtain ⟨d, h1, h2, h3, _⟩ := data_toP _ (plain_data _ (ens_plain (m := m) hok hl))
  have hd := ens_deep m es
  have s : SeqAt.shaped d = true := by
    unfold SeqAt.shaped
    rw [h2, decide_eq_true (show d.depth ≤ 64 by omega)]; rfl
  have s0 : SeqAt.shaped (.list []) = true := by
    unfold SeqAt.shaped
    simp [PyData.canLay0, PyData.canLayAll0, PyData.depth, PyData.depthAll]
  rw [ens_toP] at h1
  cases h1
  have q : eqT (.lst m (es.map En.t)) (.lst .ow []) = some es.isEmpty := by
    show ((T.toP (.lst m (es.map En.t))).bind fun d => (T.toP (.lst .ow [])).bind fun e => if SeqAt.shaped d && SeqAt.shaped e then some (PyData.eqv d e) else none) = _
    have e0 : T.toP (.lst .ow []) = some (.list []) := rfl
    rw [ens_toP, e0, Option.bind_some, Option.bind_some, s, s0]
    show some (PyData.eqv (.list (es.map En.data)) (.list [])) = _
    rw [PyData.eqv]
    cases es <;> simp [PyData.eqvAll]
  unfold fNe
  rw [q]; rfl
theorem sortE_len (l : List En) : (sortE l).length = l.length := (sortE_perm l).length_eq
theorem sortE_ok {l : List En} {P : En → Prop} (h : ∀ e ∈ l, P e) : ∀ e ∈ sortE l, P e := fun e m => h e ((sortE_perm l).mem_iff.mp m)
theorem told_ok {l : List En} {d : Int} {P : En → Prop} (h : ∀ e ∈ l, P e) : ∀ e ∈ told l d, P e := fun e m => h e (by
  unfold told at m
  exact (List.mem_filter.mp ((sortE_perm _).mem_iff.mp m)).1)
theorem en_owT (e : En) : e.t.owT = e.t := by
  show T.tup (.int e.num :: .int e.day :: .str e.part.word :: owTs e.part.rest) = _
  have : owTs e.part.rest = e.part.rest := by cases e.part <;> rfl
  rw [this]; rfl
theorem ens_owT (l : List En) : owTs (l.map En.t) = l.map En.t := map_owT en_owT l
end TL

set_option Elab.async false
set_option linter.all false
set_option maxRecDepth 100000
set_option maxHeartbeats 0
namespace Wk31
open PySem PySem.Spec L2 TL
def top (i : Nat) : Stmt := PySem.Challenge.pw_campcarry_k31_whole_two_rolls_by_turns.main.body.getD i (.Pass ⟨0, 0, 0, 0⟩)
def k_SMALL_LETTERS : T := (.str "abcdefghijklmnopqrstuvwxyz")
def k_MOST_LETTERS : T := (.int 8)
def k_MOST_NUMBER : T := (.int 9999)
def k_LAST_DAY : T := (.int 199)
def k_WAY_KINDS : T := (.tup [(.str "land"), (.str "water")])
def k_FIGURES : T := (.str "0123456789")
def k_MOST_FIGURES : T := (.int 9)
def k_WEIGHT_UNITS : T := (.tup [(.tup [(.str "c"), (.int 112)]), (.tup [(.str "s"), (.int 14)]), (.tup [(.str "p"), (.int 1)])])
def k_LENGTH_UNITS : T := (.tup [(.tup [(.str "m"), (.int 320)]), (.tup [(.str "f"), (.int 40)]), (.tup [(.str "r"), (.int 1)])])
def k_TEXT_SORTS : T := (.tup [(.str "name"), (.str "kind")])
def k_WEIGHT_SORTS : T := (.tup [(.str "strength"), (.str "weight")])
def dk_ENTRY_FORMS : List (Str × T) := [("hand", (.tup [(.str "name"), (.str "strength"), (.str "strength"), (.str "strength"), (.str "eats")])), ("off", (.tup [(.str "name")])), ("load", (.tup [(.str "name"), (.str "weight"), (.str "name")])), ("canoe", (.tup [(.str "name"), (.str "weight"), (.str "strength"), (.str "name")])), ("way", (.tup [(.str "name"), (.str "name"), (.str "name"), (.str "kind"), (.str "length"), (.str "hard")])), ("shut", (.tup [(.str "name"), (.str "day"), (.str "day")])), ("storm", (.tup [(.str "day"), (.str "day")])), ("store", (.tup [(.str "name"), (.str "rations")])), ("fill", (.tup [(.str "rations")])), ("take", (.tup [(.str "name")])), ("leave", (.tup [(.str "name")])), ("go", (.tup [(.str "name")]))]
def dk_SORT_BOUNDS : List (Str × T) := [("strength", (.tup [(.int 0), (.int 1000000)])), ("weight", (.tup [(.int 1), (.int 1000000)])), ("eats", (.tup [(.int 0), (.int 9)])), ("length", (.tup [(.int 1), (.int 10000)])), ("hard", (.tup [(.int 1), (.int 9)])), ("rations", (.tup [(.int 1), (.int 4000)])), ("day", (.tup [(.int 0), (.int 199)]))]
structure Txt (K : PySem.W.Frag) (w : World) (mg : Str → Option Value) : Prop where
  b_ValueError : mg "ValueError" = none
  b_abs : mg "abs" = none
  b_all : mg "all" = none
  b_bool : mg "bool" = none
  b_enumerate : mg "enumerate" = none
  b_int : mg "int" = none
  b_isinstance : mg "isinstance" = none
  b_len : mg "len" = none
  b_list : mg "list" = none
  b_max : mg "max" = none
  b_min : mg "min" = none
  b_range : mg "range" = none
  b_sorted : mg "sorted" = none
  b_str : mg "str" = none
  b_tuple : mg "tuple" = none
  b_zip : mg "zip" = none
  c_SMALL_LETTERS : GC K mg "SMALL_LETTERS" k_SMALL_LETTERS
  c_MOST_LETTERS : GC K mg "MOST_LETTERS" k_MOST_LETTERS
  c_MOST_NUMBER : GC K mg "MOST_NUMBER" k_MOST_NUMBER
  c_LAST_DAY : GC K mg "LAST_DAY" k_LAST_DAY
  c_WAY_KINDS : GC K mg "WAY_KINDS" k_WAY_KINDS
  c_FIGURES : GC K mg "FIGURES" k_FIGURES
  c_MOST_FIGURES : GC K mg "MOST_FIGURES" k_MOST_FIGURES
  c_WEIGHT_UNITS : GC K mg "WEIGHT_UNITS" k_WEIGHT_UNITS
  c_LENGTH_UNITS : GC K mg "LENGTH_UNITS" k_LENGTH_UNITS
  c_TEXT_SORTS : GC K mg "TEXT_SORTS" k_TEXT_SORTS
  c_WEIGHT_SORTS : GC K mg "WEIGHT_SORTS" k_WEIGHT_SORTS
  d_ENTRY_FORMS : GCD K w mg "ENTRY_FORMS" dk_ENTRY_FORMS
  d_SORT_BOUNDS : GCD K w mg "SORT_BOUNDS" dk_SORT_BOUNDS
section
variable {P : Program} {w : World} {K : PySem.W.Frag} {mg : Str → Option Value} {base : Heap} {ca : Str → Addr}
/-! number_between -/
def b_number_between : DS :=
    (sRet (dAndD (d1 (fIsi "int") (oBorS 0)) (dAndD (dNotD (d1 (fIsi "bool") (oBorS 0))) (dChain fLe fLe (dGet 1) (dGet 0) (dGet 2)))))
def d_number_between : DF := dFn 3 b_number_between
theorem sc_number_between : FnScope ["thing", "least", "most"] ["thing", "least", "most"] (defScope (top 8)) := ⟨rfl, rfl, rfl, by decide +kernel, rfl, by decide +kernel, by decide +kernel⟩
theorem ok_number_between (tx : Txt K w mg) {f : Addr} {fd : FuncData} (F : FnP K "number_between" (top 8) f fd) : FnOk P w K mg base CX0 1 f fd ["thing", "least", "most"] (spT K ca 3 d_number_between) :=
  fn_okD F sc_number_between (by decide) (fun cdv A outer s H E hr =>
    (bx_one (sx_ret (ex_and (ex_isi tx.b_isinstance tx.b_int (ox_borS (pv 0))) (ex_and (ex_not (ex_isi tx.b_isinstance tx.b_bool (ox_borS (pv 0)))) (ex_one (ex_chain op_leA o2_le op_leA o2_le (ex_get (pv 1)) (ex_get (pv 0)) (ex_get (pv 2)))))))))
/-! name_like -/
def b_name_like : DS :=
    (sSeq (sIf (tOrD (tNotD (tOf (d1 (fIsi "str") (oBorS 0)))) (tNotD (tOf (dChain fLe fLe (dC (.int 1)) (dB fLen (aCons (oBorS 0) aNil)) (dC k_MOST_LETTERS))))) (sRet (dC (.bl false))) sNil)
    (sRet (dB fAll (aCons (oTmp (dLc [1] (iSeq (dUse 0)) (gNm 1) tYesD (d2 (fInB false) (oBorS 1) (oTmp (dC k_SMALL_LETTERS))))) aNil))))
def d_name_like : DF := dFn 2 b_name_like
theorem sc_name_like : FnScope ["thing", "sign"] ["thing"] (defScope (top 9)) := ⟨rfl, rfl, rfl, by decide +kernel, rfl, by decide +kernel, by decide +kernel⟩
theorem ok_name_like (tx : Txt K w mg) {f : Addr} {fd : FuncData} (F : FnP K "name_like" (top 9) f fd) : FnOk P w K mg base CX0 1 f fd ["thing"] (spT K ca 1 d_name_like) :=
  fn_okD F sc_name_like (by decide) (fun cdv A outer s H E hr =>
    (bx_cons (sx_if (PW.pt (wx_or (tx_not (tx_val (ex_isi tx.b_isinstance tx.b_str (ox_borS (pv 0))))) (wx_or1 (tx_not (tx_chain op_leA o2_le op_leA o2_le ex_int (ex_callB call_lenAny on_len tx.b_len (ax_cons (ox_borS (pv 0)) ax_nil)) (ex_gc tx.c_MOST_LETTERS)))))) (bx_one (sx_ret ex_bl)) bx_nil)
    (bx_one (sx_ret (ex_callB (cr_all rfl) on_all tx.b_all (ax_cons (ox_tmp (ex_lc (own := [("sign", 1)]) (by decide) rfl sc_name_like.nd (ix_seq' (ex_use (pv 0))) (blkOk_by (own := [("sign", 1)]) (by rfl)) (fun _ _ _ _ _ => (gx_name sc_name_like.nd rfl (by first | exact Or.inl rfl | exact Or.inr rfl))) (fun _ _ _ _ _ => tsx_nil) (fun _ _ _ _ _ => (ex_cmp (op_inB hr.units) o2_inB (ox_borS (pv 1)) (ox_tmp (ex_gc tx.c_SMALL_LETTERS)) rfl)))) ax_nil))))))
/-! sort_fits -/
def b_sort_fits : DS :=
    (sSeq (sIf (tOf (d2 fEq (oBorS 0) (oTmp (dC (.str "name"))))) (sRet (dCall d_name_like (aCons (oBorS 1) aNil))) sNil)
    (sSeq (sIf (tOf (d2 fEq (oBorS 0) (oTmp (dC (.str "kind"))))) (sRet (dAndD (d1 (fIsi "str") (oBorS 1)) (d2 (fInB false) (oBorS 1) (oTmp (dC k_WAY_KINDS))))) sNil)
    (sRet (dCall d_number_between (aCons (oBorS 1) (aCons (oTmp (d2 fIxA (oTmp (dKIx dk_SORT_BOUNDS (dGet 0))) (oTmp (dC (.int 0))))) (aCons (oTmp (d2 fIxA (oTmp (dKIx dk_SORT_BOUNDS (dGet 0))) (oTmp (dC (.int 1))))) aNil)))))))
def d_sort_fits : DF := dFn 2 b_sort_fits
theorem sc_sort_fits : FnScope ["sort", "part"] ["sort", "part"] (defScope (top 10)) := ⟨rfl, rfl, rfl, by decide +kernel, rfl, by decide +kernel, by decide +kernel⟩
theorem ok_sort_fits (tx : Txt K w mg) {f : Addr} {fd : FuncData} (F : FnP K "sort_fits" (top 10) f fd) (C_name_like : Callee P w K mg base ca "name_like" ["thing"] 1 d_name_like) (C_number_between : Callee P w K mg base ca "number_between" ["thing", "least", "most"] 1 d_number_between) : FnOk P w K mg base CX0 2 f fd ["sort", "part"] (spT K ca 2 d_sort_fits) :=
  fn_okD F sc_sort_fits (by decide) (fun cdv A outer s H E hr =>
    (bx_cons (sx_if (tx_cmp (op_eqA hr.units) o2_eq (ox_borS (pv 0)) (ox_tmp ex_str) (nomark _)) (bx_one (sx_ret (ex_call C_name_like (hr.mono (by omega)) (ax_cons (ox_borS (pv 1)) ax_nil) (aCons_len aNil_len)))) bx_nil)
    (bx_cons (sx_if (tx_cmp (op_eqA hr.units) o2_eq (ox_borS (pv 0)) (ox_tmp ex_str) (nomark _)) (bx_one (sx_ret (ex_and (ex_isi tx.b_isinstance tx.b_str (ox_borS (pv 1))) (ex_one (ex_cmp (op_inB hr.units) o2_inB (ox_borS (pv 1)) (ox_tmp (ex_gc tx.c_WAY_KINDS)) rfl))))) bx_nil)
    (bx_one (sx_ret (ex_call C_number_between (hr.mono (by omega)) (ax_cons (ox_borS (pv 1)) (ax_cons (ox_tmp (ex_ixA hr.units (ox_tmp (ex_kix tx.d_SORT_BOUNDS (ex_get (pv 0)) (fun _ _ => rfl))) (ox_tmp ex_int) (fun _ _ => rfl))) (ax_cons (ox_tmp (ex_ixA hr.units (ox_tmp (ex_kix tx.d_SORT_BOUNDS (ex_get (pv 0)) (fun _ _ => rfl))) (ox_tmp ex_int) (fun _ _ => rfl))) ax_nil))) (aCons_len (aCons_len (aCons_len aNil_len)))))))))
/-! parts_agree -/
def b_parts_agree : DS :=
    (sSeq (sIf (tOf (d2 fEq (oTmp (d2 fIxA (oAuto 0) (oTmp (dC (.int 2))))) (oTmp (dC (.str "way"))))) (sRet (d2 fNe (oTmp (d2 fIxA (oAuto 0) (oTmp (dC (.int 4))))) (oTmp (d2 fIxA (oAuto 0) (oTmp (dC (.int 5))))))) sNil)
    (sSeq (sIf (tOf (d2 (fInB false) (oTmp (d2 fIxA (oAuto 0) (oTmp (dC (.int 2))))) (oTmp (dTup (aCons (oTmp (dC (.str "shut"))) (aCons (oTmp (dC (.str "storm"))) aNil)))))) (sRet (dChain fLe fLe (d2 fIxA (oAuto 0) (oTmp (dC (.int 1)))) (d2 fIxA (oAuto 0) (oTmp (d1 fNeg (oTmp (dC (.int 2)))))) (d2 fIxA (oAuto 0) (oTmp (d1 fNeg (oTmp (dC (.int 1)))))))) sNil)
    (sRet (dC (.bl true)))))
def d_parts_agree : DF := dFn 1 b_parts_agree
theorem sc_parts_agree : FnScope ["entry"] ["entry"] (defScope (top 11)) := ⟨rfl, rfl, rfl, by decide +kernel, rfl, by decide +kernel, by decide +kernel⟩
theorem ok_parts_agree (tx : Txt K w mg) {f : Addr} {fd : FuncData} (F : FnP K "parts_agree" (top 11) f fd) : FnOk P w K mg base CX0 1 f fd ["entry"] (spT K ca 1 d_parts_agree) :=
  fn_okD F sc_parts_agree (by decide) (fun cdv A outer s H E hr =>
    (bx_cons (sx_if (tx_cmp (op_eqA hr.units) o2_eq (ox_tmp (ex_ixA hr.units (ox_auto (pv 0)) (ox_tmp ex_int) (fun _ _ => rfl))) (ox_tmp ex_str) (nomark _)) (bx_one (sx_ret (ex_cmp (op_neA hr.units) o2_ne (ox_tmp (ex_ixA hr.units (ox_auto (pv 0)) (ox_tmp ex_int) (fun _ _ => rfl))) (ox_tmp (ex_ixA hr.units (ox_auto (pv 0)) (ox_tmp ex_int) (fun _ _ => rfl))) (nomark _)))) bx_nil)
    (bx_cons (sx_if (tx_cmp (op_inB hr.units) o2_inB (ox_tmp (ex_ixA hr.units (ox_auto (pv 0)) (ox_tmp ex_int) (fun _ _ => rfl))) (ox_tmp (ex_tup (ax_cons (ox_tmp ex_str) (ax_cons (ox_tmp ex_str) ax_nil)))) rfl) (bx_one (sx_ret (ex_chain op_leA o2_le op_leA o2_le (ex_ixA hr.units (ox_auto (pv 0)) (ox_tmp ex_int) (fun _ _ => rfl)) (ex_ixA hr.units (ox_auto (pv 0)) (ox_tmp (ex_un un_neg o1_neg (ox_tmp ex_int))) (fun _ _ => rfl)) (ex_ixA hr.units (ox_auto (pv 0)) (ox_tmp (ex_un un_neg o1_neg (ox_tmp ex_int))) (fun _ _ => rfl))))) bx_nil)
    (bx_one (sx_ret ex_bl)))))
/-! is_entry -/
def b_is_entry : DS :=
    (sSeq (sIf (tOrD (tNotD (tOf (d1 (fIsi "tuple") (oBorS 0)))) (tOrD (tOf (d2 fLt (oTmp (dB fLen (aCons (oBorS 0) aNil))) (oTmp (dC (.int 4))))) (tNotD (tOf (d1 (fIsi "str") (oTmp (d2 fIxA (oAuto 0) (oTmp (dC (.int 2)))))))))) (sRet (dC (.bl false))) sNil)
    (sSeq (sIf (tOrD (tNotD (tOf (dCall d_number_between (aCons (oTmp (d2 fIxA (oAuto 0) (oTmp (dC (.int 0))))) (aCons (oTmp (dC (.int 1))) (aCons (oTmp (dC k_MOST_NUMBER)) aNil)))))) (tNotD (tOf (dCall d_number_between (aCons (oTmp (d2 fIxA (oAuto 0) (oTmp (dC (.int 1))))) (aCons (oTmp (dC (.int 0))) (aCons (oTmp (dC k_LAST_DAY)) aNil))))))) (sRet (dC (.bl false))) sNil)
    (sSeq (sAsg (dKGet2 dk_ENTRY_FORMS (d2 fIxA (oAuto 0) (oTmp (dC (.int 2)))) (dC .non)) (gNm 1))
    (sSeq (sIf (tOrD (tOf (d2 fIsN (oBorS 1) (oTmp (dC .non)))) (tOf (d2 fNe (oTmp (dB fLen (aCons (oBorS 1) aNil))) (oTmp (d2 fSub (oTmp (dB fLen (aCons (oBorS 0) aNil))) (oTmp (dC (.int 3)))))))) (sRet (dC (.bl false))) sNil)
    (sRet (dAndD (dB fAll (aCons (oTmp (dLc [2, 3] (iZp (aCons (oTmp (dUse 1)) (aCons (oTmp (d3 fSl (oAuto 0) (pSome (dC (.int 3))) pNone)) aNil))) (gTp [(gNm 2), (gNm 3)]) tYesD (dCall d_sort_fits (aCons (oBorS 2) (aCons (oBorS 3) aNil))))) aNil)) (dCall d_parts_agree (aCons (oBorS 0) aNil))))))))
def d_is_entry : DF := dFn 4 b_is_entry
theorem sc_is_entry : FnScope ["thing", "sorts", "sort", "part"] ["thing"] (defScope (top 12)) := ⟨rfl, rfl, rfl, by decide +kernel, rfl, by decide +kernel, by decide +kernel⟩
theorem ok_is_entry (tx : Txt K w mg) {f : Addr} {fd : FuncData} (F : FnP K "is_entry" (top 12) f fd) (C_number_between : Callee P w K mg base ca "number_between" ["thing", "least", "most"] 1 d_number_between) (C_sort_fits : Callee P w K mg base ca "sort_fits" ["sort", "part"] 2 d_sort_fits) (C_parts_agree : Callee P w K mg base ca "parts_agree" ["entry"] 1 d_parts_agree) : FnOk P w K mg base CX0 3 f fd ["thing"] (spT K ca 1 d_is_entry) :=
  fn_okD F sc_is_entry (by decide) (fun cdv A outer s H E hr =>
    (bx_cons (sx_if (PW.pt (wx_or (tx_not (tx_val (ex_isi tx.b_isinstance tx.b_tuple (ox_borS (pv 0))))) (wx_or (tx_cmp op_ltA o2_lt (ox_tmp (ex_callB call_lenAny on_len tx.b_len (ax_cons (ox_borS (pv 0)) ax_nil))) (ox_tmp ex_int) (nomark _)) (wx_or1 (tx_not (tx_val (ex_isi tx.b_isinstance tx.b_str (ox_tmp (ex_ixA hr.units (ox_auto (pv 0)) (ox_tmp ex_int) (fun _ _ => rfl)))))))))) (bx_one (sx_ret ex_bl)) bx_nil)
    (bx_cons (sx_if (PW.pt (wx_or (tx_not (tx_val (ex_call C_number_between (hr.mono (by omega)) (ax_cons (ox_tmp (ex_ixA hr.units (ox_auto (pv 0)) (ox_tmp ex_int) (fun _ _ => rfl))) (ax_cons (ox_tmp ex_int) (ax_cons (ox_tmp (ex_gc tx.c_MOST_NUMBER)) ax_nil))) (aCons_len (aCons_len (aCons_len aNil_len)))))) (wx_or1 (tx_not (tx_val (ex_call C_number_between (hr.mono (by omega)) (ax_cons (ox_tmp (ex_ixA hr.units (ox_auto (pv 0)) (ox_tmp ex_int) (fun _ _ => rfl))) (ax_cons (ox_tmp ex_int) (ax_cons (ox_tmp (ex_gc tx.c_LAST_DAY)) ax_nil))) (aCons_len (aCons_len (aCons_len aNil_len))))))))) (bx_one (sx_ret ex_bl)) bx_nil)
    (bx_cons (sx_set (i := 1) sc_is_entry.nd rfl (by first | exact Or.inl rfl | exact Or.inr rfl) (ex_kget2 tx.d_ENTRY_FORMS (ex_ixA hr.units (ox_auto (pv 0)) (ox_tmp ex_int) (fun _ _ => rfl)) ex_non))
    (bx_cons (sx_if (PW.pt (wx_or (tx_cmp op_isN o2_isN (ox_borS (pv 1)) (ox_tmp ex_non) (nomark _)) (wx_or1 (tx_cmp (op_neA hr.units) o2_ne (ox_tmp (ex_callB call_lenAny on_len tx.b_len (ax_cons (ox_borS (pv 1)) ax_nil))) (ox_tmp (ex_op op_sub o2_sub (ox_tmp (ex_callB call_lenAny on_len tx.b_len (ax_cons (ox_borS (pv 0)) ax_nil))) (ox_tmp ex_int))) (nomark _))))) (bx_one (sx_ret ex_bl)) bx_nil)
    (bx_one (sx_ret (ex_and (ex_callB (cr_all rfl) on_all tx.b_all (ax_cons (ox_tmp (ex_lc (own := [("sort", 2), ("part", 3)]) (by decide) rfl sc_is_entry.nd (ix_zip tx.b_zip (ax_cons (ox_tmp (ex_use (pv 1))) (ax_cons (ox_tmp (ex_sl (ox_auto (pv 0)) (px_some ex_int) px_none)) ax_nil))) (blkOk_by (own := [("sort", 2), ("part", 3)]) (by rfl)) (fun _ _ _ _ _ => (gx_tup rfl (gsx_cons (gx_name sc_is_entry.nd rfl (by first | exact Or.inl rfl | exact Or.inr rfl)) (gsx_cons (gx_name sc_is_entry.nd rfl (by first | exact Or.inl rfl | exact Or.inr rfl)) gsx_nil)))) (fun _ _ _ _ _ => tsx_nil) (fun _ _ _ _ _ => (ex_call C_sort_fits (hr.mono (by omega)) (ax_cons (ox_borS (pv 2)) (ax_cons (ox_borS (pv 3)) ax_nil)) (aCons_len (aCons_len aNil_len)))))) ax_nil)) (ex_one (ex_call C_parts_agree (hr.mono (by omega)) (ax_cons (ox_borS (pv 0)) ax_nil) (aCons_len aNil_len)))))))))))
/-! order_spot -/
def b_order_spot : DS :=
    (sRet (dTup (aCons (oTmp (d2 fIxA (oAuto 0) (oTmp (dC (.int 1))))) (aCons (oTmp (d2 fIxA (oAuto 0) (oTmp (dC (.int 0))))) aNil))))
def d_order_spot : DF := dFn 1 b_order_spot
theorem sc_order_spot : FnScope ["entry"] ["entry"] (defScope (top 13)) := ⟨rfl, rfl, rfl, by decide +kernel, rfl, by decide +kernel, by decide +kernel⟩
theorem ok_order_spot (tx : Txt K w mg) {f : Addr} {fd : FuncData} (F : FnP K "order_spot" (top 13) f fd) : FnOk P w K mg base CX0 1 f fd ["entry"] (spT K ca 1 d_order_spot) :=
  fn_okD F sc_order_spot (by decide) (fun cdv A outer s H E hr =>
    (bx_one (sx_ret (ex_tup (ax_cons (ox_tmp (ex_ixA hr.units (ox_auto (pv 0)) (ox_tmp ex_int) (fun _ _ => rfl))) (ax_cons (ox_tmp (ex_ixA hr.units (ox_auto (pv 0)) (ox_tmp ex_int) (fun _ _ => rfl))) ax_nil))))))
/-! in_order -/
def b_in_order : DS :=
    (sRet (dSortK d_order_spot (dUse 0)))
def d_in_order : DF := dFn 1 b_in_order
theorem sc_in_order : FnScope ["entries"] ["entries"] (defScope (top 14)) := ⟨rfl, rfl, rfl, by decide +kernel, rfl, by decide +kernel, by decide +kernel⟩
theorem ok_in_order (tx : Txt K w mg) {f : Addr} {fd : FuncData} (F : FnP K "in_order" (top 14) f fd) (C_order_spot : Callee P w K mg base ca "order_spot" ["entry"] 1 d_order_spot) : FnOk P w K mg base CX0 4 f fd ["entries"] (spT K ca 1 d_in_order) :=
  fn_okD F sc_in_order (by decide) (fun cdv A outer s H E hr =>
    (bx_one (sx_ret (ex_sortK C_order_spot rfl (hr.mono (by omega)) tx.b_sorted (ex_use (pv 0))))))
/-! told_by -/
def b_told_by : DS :=
    (sRet (dCall d_in_order (aCons (oTmp (dLc [2] (iSeq (dUse 0)) (gNm 2) (tOf (d2 fLe (oTmp (d2 fIxA (oAuto 2) (oTmp (dC (.int 1))))) (oBorS 1))) (dUse 2))) aNil)))
def d_told_by : DF := dFn 3 b_told_by
theorem sc_told_by : FnScope ["entries", "day", "entry"] ["entries", "day"] (defScope (top 15)) := ⟨rfl, rfl, rfl, by decide +kernel, rfl, by decide +kernel, by decide +kernel⟩
theorem ok_told_by (tx : Txt K w mg) {f : Addr} {fd : FuncData} (F : FnP K "told_by" (top 15) f fd) (C_in_order : Callee P w K mg base ca "in_order" ["entries"] 4 d_in_order) : FnOk P w K mg base CX0 5 f fd ["entries", "day"] (spT K ca 2 d_told_by) :=
  fn_okD F sc_told_by (by decide) (fun cdv A outer s H E hr =>
    (bx_one (sx_ret (ex_call C_in_order (hr.mono (by omega)) (ax_cons (ox_tmp (ex_lc (own := [("entry", 2)]) (by decide) rfl sc_told_by.nd (ix_seq' (ex_use (pv 0))) (blkOk_by (own := [("entry", 2)]) (by rfl)) (fun _ _ _ _ _ => (gx_name sc_told_by.nd rfl (by first | exact Or.inl rfl | exact Or.inr rfl))) (fun _ _ _ _ _ => (tsx_one (tx_cmp op_leA o2_le (ox_tmp (ex_ixA hr.units (ox_auto (pv 2)) (ox_tmp ex_int) (fun _ _ => rfl))) (ox_borS (pv 1)) (nomark _)))) (fun _ _ _ _ _ => (ex_use (pv 2))))) ax_nil) (aCons_len aNil_len)))))
/-! plain_number -/
def b_plain_number : DS :=
    (sSeq (sIf (tOrD (tNotD (tOf (dChain fLe fLe (dC (.int 1)) (dB fLen (aCons (oBorS 0) aNil)) (dC k_MOST_FIGURES)))) (tNotD (tOf (dB fAll (aCons (oTmp (dLc [1] (iSeq (dUse 0)) (gNm 1) tYesD (d2 (fInB false) (oBorS 1) (oTmp (dC k_FIGURES))))) aNil))))) (sRet (dC .non)) sNil)
    (sSeq (sIf (tAndD (tOf (d2 fEq (oTmp (d2 fIxA (oAuto 0) (oTmp (dC (.int 0))))) (oTmp (dC (.str "0"))))) (tOf (d2 fNe (oBorS 0) (oTmp (dC (.str "0")))))) (sRet (dC .non)) sNil)
    (sRet (dB fInt (aCons (oBorS 0) aNil)))))
def d_plain_number : DF := dFn 2 b_plain_number
theorem sc_plain_number : FnScope ["text", "sign"] ["text"] (defScope (top 25)) := ⟨rfl, rfl, rfl, by decide +kernel, rfl, by decide +kernel, by decide +kernel⟩
theorem ok_plain_number (tx : Txt K w mg) {f : Addr} {fd : FuncData} (F : FnP K "plain_number" (top 25) f fd) : FnOk P w K mg base CX0 1 f fd ["text"] (spT K ca 1 d_plain_number) :=
  fn_okD F sc_plain_number (by decide) (fun cdv A outer s H E hr =>
    (bx_cons (sx_if (PW.pt (wx_or (tx_not (tx_chain op_leA o2_le op_leA o2_le ex_int (ex_callB call_lenAny on_len tx.b_len (ax_cons (ox_borS (pv 0)) ax_nil)) (ex_gc tx.c_MOST_FIGURES))) (wx_or1 (tx_not (tx_val (ex_callB (cr_all rfl) on_all tx.b_all (ax_cons (ox_tmp (ex_lc (own := [("sign", 1)]) (by decide) rfl sc_plain_number.nd (ix_seq' (ex_use (pv 0))) (blkOk_by (own := [("sign", 1)]) (by rfl)) (fun _ _ _ _ _ => (gx_name sc_plain_number.nd rfl (by first | exact Or.inl rfl | exact Or.inr rfl))) (fun _ _ _ _ _ => tsx_nil) (fun _ _ _ _ _ => (ex_cmp (op_inB hr.units) o2_inB (ox_borS (pv 1)) (ox_tmp (ex_gc tx.c_FIGURES)) rfl)))) ax_nil))))))) (bx_one (sx_ret ex_non)) bx_nil)
    (bx_cons (sx_if (PW.pt (wx_and (tx_cmp (op_eqA hr.units) o2_eq (ox_tmp (ex_ixA hr.units (ox_auto (pv 0)) (ox_tmp ex_int) (fun _ _ => rfl))) (ox_tmp ex_str) (nomark _)) (wx_and1 (tx_cmp (op_neA hr.units) o2_ne (ox_borS (pv 0)) (ox_tmp ex_str) (nomark _))))) (bx_one (sx_ret ex_non)) bx_nil)
    (bx_one (sx_ret (ex_callTy (TL.CallR.or call_int1 call_int_str) on_int tx.b_int (ax_cons (ox_borS (pv 0)) ax_nil)))))))
/-! units_text -/
def b_units_text : DS :=
    (sSeq (sAsg (dC (.str "")) (gNm 2))
    (sSeq (sAsg (dUse 0) (gNm 3))
    (sSeq (sFor (iSeq (dUse 1)) (gTp [(gNm 4), (gNm 5)]) (sSeq (sIf (tOf (d2 fGe (oBorS 3) (oBorS 5))) (sAug fAugAdd 2 (d2 fAdd (oTmp (dB fStr (aCons (oTmp (d2 fDiv (oBorS 3) (oBorS 5))) aNil))) (oBorS 4))) sNil)
    (sAsg (d2 fMod (oBorS 3) (oBorS 5)) (gNm 3))))
    (sRet (dIfD (tOf (d2 fEq (oBorS 2) (oTmp (dC (.str ""))))) (d2 fAdd (oTmp (dC (.str "0"))) (oTmp (d2 fIxA (oTmp (d2 fIxA (oAuto 1) (oTmp (d1 fNeg (oTmp (dC (.int 1))))))) (oTmp (dC (.int 0)))))) (dUse 2))))))
def d_units_text : DF := dFn 6 b_units_text
theorem sc_units_text : FnScope ["number", "units", "found", "left", "letter", "worth"] ["number", "units"] (defScope (top 26)) := ⟨rfl, rfl, rfl, by decide +kernel, rfl, by decide +kernel, by decide +kernel⟩
theorem ok_units_text (tx : Txt K w mg) {f : Addr} {fd : FuncData} (F : FnP K "units_text" (top 26) f fd) : FnOk P w K mg base CX0 1 f fd ["number", "units"] (spT K ca 2 d_units_text) :=
  fn_okD F sc_units_text (by decide) (fun cdv A outer s H E hr =>
    (bx_cons (sx_set (i := 2) sc_units_text.nd rfl (by first | exact Or.inl rfl | exact Or.inr rfl) ex_str)
    (bx_cons (sx_set (i := 3) sc_units_text.nd rfl (by first | exact Or.inl rfl | exact Or.inr rfl) (ex_use (pv 0)))
    (bx_cons (sx_for PassesOwn.never rfl (ix_seq' (ex_use (pv 1))) (gx_tup rfl (gsx_cons (gx_name sc_units_text.nd rfl (by first | exact Or.inl rfl | exact Or.inr rfl)) (gsx_cons (gx_name sc_units_text.nd rfl (by first | exact Or.inl rfl | exact Or.inr rfl)) gsx_nil))) (bx_cons (sx_if (tx_cmp op_geA o2_ge (ox_borS (pv 3)) (ox_borS (pv 5)) (nomark _)) (bx_one (sx_aug (i := 2) sc_units_text.nd rfl (by first | exact Or.inl rfl | exact Or.inr rfl) (ex_op op_addAny o2_add (ox_tmp (ex_callTy call_str_int on_str tx.b_str (ax_cons (ox_tmp (ex_op op_fdivW o2_div (ox_borS (pv 3)) (ox_borS (pv 5)))) ax_nil))) (ox_borS (pv 4))) ip_addA o2_augAdd)) bx_nil)
    (bx_one (sx_set (i := 3) sc_units_text.nd rfl (by first | exact Or.inl rfl | exact Or.inr rfl) (ex_op op_mod o2_mod (ox_borS (pv 3)) (ox_borS (pv 5)))))))
    (bx_one (sx_ret (ex_ifx (tx_cmp (op_eqA hr.units) o2_eq (ox_borS (pv 2)) (ox_tmp ex_str) (nomark _)) (ex_op op_addAny o2_add (ox_tmp ex_str) (ox_tmp (ex_ixA hr.units (ox_tmp (ex_ixA hr.units (ox_auto (pv 1)) (ox_tmp (ex_un un_neg o1_neg (ox_tmp ex_int))) (fun _ _ => rfl))) (ox_tmp ex_int) (fun _ _ => rfl)))) (ex_use (pv 2)))))))))
/-! units_in -/
def b_units_in : DS :=
    (sSeq (sAsg (dC (.int 0)) (gNm 2))
    (sSeq (sAsg (dUse 0) (gNm 3))
    (sSeq (sFor (iSeq (dUse 1)) (gTp [(gNm 4), (gNm 5)]) (sSeq (sAsg (dM1 fPart (dUse 3) (dUse 4)) (gTp [(gNm 6), (gNm 7), (gNm 8)]))
    (sIf (tOf (d2 fEq (oBorS 7) (oBorS 4))) (sSeq (sAsg (dCall d_plain_number (aCons (oBorS 6) aNil)) (gNm 9))
    (sSeq (sIf (tOf (d2 fIsN (oBorS 9) (oTmp (dC .non)))) (sRet (dC .non)) sNil)
    (sSeq (sAug fAugAdd 2 (d2 fMul (oBorS 9) (oBorS 5)))
    (sAsg (dUse 8) (gNm 3))))) sNil)))
    (sRet (dIfD (tAndD (tOf (d2 fEq (oBorS 3) (oTmp (dC (.str ""))))) (tOf (d2 fEq (oTmp (dCall d_units_text (aCons (oBorS 2) (aCons (oBorS 1) aNil)))) (oBorS 0)))) (dUse 2) (dC .non))))))
def d_units_in : DF := dFn 10 b_units_in
theorem sc_units_in : FnScope ["text", "units", "found", "rest", "letter", "worth", "head", "mark", "tail", "many"] ["text", "units"] (defScope (top 27)) := ⟨rfl, rfl, rfl, by decide +kernel, rfl, by decide +kernel, by decide +kernel⟩
theorem ok_units_in (tx : Txt K w mg) {f : Addr} {fd : FuncData} (F : FnP K "units_in" (top 27) f fd) (C_plain_number : Callee P w K mg base ca "plain_number" ["text"] 1 d_plain_number) (C_units_text : Callee P w K mg base ca "units_text" ["number", "units"] 1 d_units_text) : FnOk P w K mg base CX0 2 f fd ["text", "units"] (spT K ca 2 d_units_in) :=
  fn_okD F sc_units_in (by decide) (fun cdv A outer s H E hr =>
    (bx_cons (sx_set (i := 2) sc_units_in.nd rfl (by first | exact Or.inl rfl | exact Or.inr rfl) ex_int)
    (bx_cons (sx_set (i := 3) sc_units_in.nd rfl (by first | exact Or.inl rfl | exact Or.inr rfl) (ex_use (pv 0)))
    (bx_cons (sx_for PassesOwn.never rfl (ix_seq' (ex_use (pv 1))) (gx_tup rfl (gsx_cons (gx_name sc_units_in.nd rfl (by first | exact Or.inl rfl | exact Or.inr rfl)) (gsx_cons (gx_name sc_units_in.nd rfl (by first | exact Or.inl rfl | exact Or.inr rfl)) gsx_nil))) (bx_cons (sx_asg (ex_part (ex_use (pv 3)) (ex_use (pv 4))) (gx_tup rfl (gsx_cons (gx_name sc_units_in.nd rfl (by first | exact Or.inl rfl | exact Or.inr rfl)) (gsx_cons (gx_name sc_units_in.nd rfl (by first | exact Or.inl rfl | exact Or.inr rfl)) (gsx_cons (gx_name sc_units_in.nd rfl (by first | exact Or.inl rfl | exact Or.inr rfl)) gsx_nil)))))
    (bx_one (sx_if (tx_cmp (op_eqA hr.units) o2_eq (ox_borS (pv 7)) (ox_borS (pv 4)) (nomark _)) (bx_cons (sx_set (i := 9) sc_units_in.nd rfl (by first | exact Or.inl rfl | exact Or.inr rfl) (ex_call C_plain_number (hr.mono (by omega)) (ax_cons (ox_borS (pv 6)) ax_nil) (aCons_len aNil_len)))
    (bx_cons (sx_if (tx_cmp op_isN o2_isN (ox_borS (pv 9)) (ox_tmp ex_non) (nomark _)) (bx_one (sx_ret ex_non)) bx_nil)
    (bx_cons (sx_aug (i := 2) sc_units_in.nd rfl (by first | exact Or.inl rfl | exact Or.inr rfl) (ex_op op_mulAny o2_mul (ox_borS (pv 9)) (ox_borS (pv 5))) ip_addA o2_augAdd)
    (bx_one (sx_set (i := 3) sc_units_in.nd rfl (by first | exact Or.inl rfl | exact Or.inr rfl) (ex_use (pv 8))))))) bx_nil))))
    (bx_one (sx_ret (ex_ifx (PW.pt (wx_and (tx_cmp (op_eqA hr.units) o2_eq (ox_borS (pv 3)) (ox_tmp ex_str) (nomark _)) (wx_and1 (tx_cmp (op_eqA hr.units) o2_eq (ox_tmp (ex_call C_units_text (hr.mono (by omega)) (ax_cons (ox_borS (pv 2)) (ax_cons (ox_borS (pv 1)) ax_nil)) (aCons_len (aCons_len aNil_len)))) (ox_borS (pv 0)) (nomark _))))) (ex_use (pv 2)) ex_non)))))))
/-! weight_text -/
def b_weight_text : DS :=
    (sRet (dCall d_units_text (aCons (oBorS 0) (aCons (oTmp (dC k_WEIGHT_UNITS)) aNil))))
def d_weight_text : DF := dFn 1 b_weight_text
theorem sc_weight_text : FnScope ["pounds"] ["pounds"] (defScope (top 28)) := ⟨rfl, rfl, rfl, by decide +kernel, rfl, by decide +kernel, by decide +kernel⟩
theorem ok_weight_text (tx : Txt K w mg) {f : Addr} {fd : FuncData} (F : FnP K "weight_text" (top 28) f fd) (C_units_text : Callee P w K mg base ca "units_text" ["number", "units"] 1 d_units_text) : FnOk P w K mg base CX0 2 f fd ["pounds"] (spT K ca 1 d_weight_text) :=
  fn_okD F sc_weight_text (by decide) (fun cdv A outer s H E hr =>
    (bx_one (sx_ret (ex_call C_units_text (hr.mono (by omega)) (ax_cons (ox_borS (pv 0)) (ax_cons (ox_tmp (ex_gc tx.c_WEIGHT_UNITS)) ax_nil)) (aCons_len (aCons_len aNil_len))))))
/-! weight_in -/
def b_weight_in : DS :=
    (sRet (dCall d_units_in (aCons (oBorS 0) (aCons (oTmp (dC k_WEIGHT_UNITS)) aNil))))
def d_weight_in : DF := dFn 1 b_weight_in
theorem sc_weight_in : FnScope ["text"] ["text"] (defScope (top 29)) := ⟨rfl, rfl, rfl, by decide +kernel, rfl, by decide +kernel, by decide +kernel⟩
theorem ok_weight_in (tx : Txt K w mg) {f : Addr} {fd : FuncData} (F : FnP K "weight_in" (top 29) f fd) (C_units_in : Callee P w K mg base ca "units_in" ["text", "units"] 2 d_units_in) : FnOk P w K mg base CX0 3 f fd ["text"] (spT K ca 1 d_weight_in) :=
  fn_okD F sc_weight_in (by decide) (fun cdv A outer s H E hr =>
    (bx_one (sx_ret (ex_call C_units_in (hr.mono (by omega)) (ax_cons (ox_borS (pv 0)) (ax_cons (ox_tmp (ex_gc tx.c_WEIGHT_UNITS)) ax_nil)) (aCons_len (aCons_len aNil_len))))))
/-! length_text -/
def b_length_text : DS :=
    (sRet (dCall d_units_text (aCons (oBorS 0) (aCons (oTmp (dC k_LENGTH_UNITS)) aNil))))
def d_length_text : DF := dFn 1 b_length_text
theorem sc_length_text : FnScope ["rods"] ["rods"] (defScope (top 30)) := ⟨rfl, rfl, rfl, by decide +kernel, rfl, by decide +kernel, by decide +kernel⟩
theorem ok_length_text (tx : Txt K w mg) {f : Addr} {fd : FuncData} (F : FnP K "length_text" (top 30) f fd) (C_units_text : Callee P w K mg base ca "units_text" ["number", "units"] 1 d_units_text) : FnOk P w K mg base CX0 2 f fd ["rods"] (spT K ca 1 d_length_text) :=
  fn_okD F sc_length_text (by decide) (fun cdv A outer s H E hr =>
    (bx_one (sx_ret (ex_call C_units_text (hr.mono (by omega)) (ax_cons (ox_borS (pv 0)) (ax_cons (ox_tmp (ex_gc tx.c_LENGTH_UNITS)) ax_nil)) (aCons_len (aCons_len aNil_len))))))
/-! length_in -/
def b_length_in : DS :=
    (sRet (dCall d_units_in (aCons (oBorS 0) (aCons (oTmp (dC k_LENGTH_UNITS)) aNil))))
def d_length_in : DF := dFn 1 b_length_in
theorem sc_length_in : FnScope ["text"] ["text"] (defScope (top 31)) := ⟨rfl, rfl, rfl, by decide +kernel, rfl, by decide +kernel, by decide +kernel⟩
theorem ok_length_in (tx : Txt K w mg) {f : Addr} {fd : FuncData} (F : FnP K "length_in" (top 31) f fd) (C_units_in : Callee P w K mg base ca "units_in" ["text", "units"] 2 d_units_in) : FnOk P w K mg base CX0 3 f fd ["text"] (spT K ca 1 d_length_in) :=
  fn_okD F sc_length_in (by decide) (fun cdv A outer s H E hr =>
    (bx_one (sx_ret (ex_call C_units_in (hr.mono (by omega)) (ax_cons (ox_borS (pv 0)) (ax_cons (ox_tmp (ex_gc tx.c_LENGTH_UNITS)) ax_nil)) (aCons_len (aCons_len aNil_len))))))
/-! part_word -/
def b_part_word : DS :=
    (sSeq (sIf (tOf (d2 (fInB false) (oBorS 0) (oTmp (dC k_TEXT_SORTS)))) (sRet (dMov 1)) sNil)
    (sSeq (sIf (tOf (d2 (fInB false) (oBorS 0) (oTmp (dC k_WEIGHT_SORTS)))) (sRet (dCall d_weight_text (aCons (oBorS 1) aNil))) sNil)
    (sRet (dIfD (tOf (d2 fEq (oBorS 0) (oTmp (dC (.str "length"))))) (dCall d_length_text (aCons (oBorS 1) aNil)) (dB fStr (aCons (oBorS 1) aNil))))))
def d_part_word : DF := dFn 2 b_part_word
theorem sc_part_word : FnScope ["sort", "part"] ["sort", "part"] (defScope (top 35)) := ⟨rfl, rfl, rfl, by decide +kernel, rfl, by decide +kernel, by decide +kernel⟩
theorem ok_part_word (tx : Txt K w mg) {f : Addr} {fd : FuncData} (F : FnP K "part_word" (top 35) f fd) (C_weight_text : Callee P w K mg base ca "weight_text" ["pounds"] 2 d_weight_text) (C_length_text : Callee P w K mg base ca "length_text" ["rods"] 2 d_length_text) : FnOk P w K mg base CX0 3 f fd ["sort", "part"] (spT K ca 2 d_part_word) :=
  fn_okD F sc_part_word (by decide) (fun cdv A outer s H E hr =>
    (bx_cons (sx_if (tx_cmp (op_inB hr.units) o2_inB (ox_borS (pv 0)) (ox_tmp (ex_gc tx.c_TEXT_SORTS)) rfl) (bx_one (sx_ret (ex_mov (pv 1)))) bx_nil)
    (bx_cons (sx_if (tx_cmp (op_inB hr.units) o2_inB (ox_borS (pv 0)) (ox_tmp (ex_gc tx.c_WEIGHT_SORTS)) rfl) (bx_one (sx_ret (ex_call C_weight_text (hr.mono (by omega)) (ax_cons (ox_borS (pv 1)) ax_nil) (aCons_len aNil_len)))) bx_nil)
    (bx_one (sx_ret (ex_ifx (tx_cmp (op_eqA hr.units) o2_eq (ox_borS (pv 0)) (ox_tmp ex_str) (nomark _)) (ex_call C_length_text (hr.mono (by omega)) (ax_cons (ox_borS (pv 1)) ax_nil) (aCons_len aNil_len)) (ex_callTy call_str_int on_str tx.b_str (ax_cons (ox_borS (pv 1)) ax_nil))))))))
/-! part_in -/
def b_part_in : DS :=
    (sSeq (sIf (tOf (d2 (fInB false) (oBorS 0) (oTmp (dC k_TEXT_SORTS)))) (sRet (dMov 1)) sNil)
    (sSeq (sIf (tOf (d2 (fInB false) (oBorS 0) (oTmp (dC k_WEIGHT_SORTS)))) (sRet (dCall d_weight_in (aCons (oBorS 1) aNil))) sNil)
    (sRet (dIfD (tOf (d2 fEq (oBorS 0) (oTmp (dC (.str "length"))))) (dCall d_length_in (aCons (oBorS 1) aNil)) (dCall d_plain_number (aCons (oBorS 1) aNil))))))
def d_part_in : DF := dFn 2 b_part_in
theorem sc_part_in : FnScope ["sort", "word"] ["sort", "word"] (defScope (top 36)) := ⟨rfl, rfl, rfl, by decide +kernel, rfl, by decide +kernel, by decide +kernel⟩
theorem ok_part_in (tx : Txt K w mg) {f : Addr} {fd : FuncData} (F : FnP K "part_in" (top 36) f fd) (C_weight_in : Callee P w K mg base ca "weight_in" ["text"] 3 d_weight_in) (C_length_in : Callee P w K mg base ca "length_in" ["text"] 3 d_length_in) (C_plain_number : Callee P w K mg base ca "plain_number" ["text"] 1 d_plain_number) : FnOk P w K mg base CX0 4 f fd ["sort", "word"] (spT K ca 2 d_part_in) :=
  fn_okD F sc_part_in (by decide) (fun cdv A outer s H E hr =>
    (bx_cons (sx_if (tx_cmp (op_inB hr.units) o2_inB (ox_borS (pv 0)) (ox_tmp (ex_gc tx.c_TEXT_SORTS)) rfl) (bx_one (sx_ret (ex_mov (pv 1)))) bx_nil)
    (bx_cons (sx_if (tx_cmp (op_inB hr.units) o2_inB (ox_borS (pv 0)) (ox_tmp (ex_gc tx.c_WEIGHT_SORTS)) rfl) (bx_one (sx_ret (ex_call C_weight_in (hr.mono (by omega)) (ax_cons (ox_borS (pv 1)) ax_nil) (aCons_len aNil_len)))) bx_nil)
    (bx_one (sx_ret (ex_ifx (tx_cmp (op_eqA hr.units) o2_eq (ox_borS (pv 0)) (ox_tmp ex_str) (nomark _)) (ex_call C_length_in (hr.mono (by omega)) (ax_cons (ox_borS (pv 1)) ax_nil) (aCons_len aNil_len)) (ex_call C_plain_number (hr.mono (by omega)) (ax_cons (ox_borS (pv 1)) ax_nil) (aCons_len aNil_len))))))))
/-! entry_text -/
def b_entry_text : DS :=
    (sSeq (sAsg (dLst (aCons (oTmp (dB fStr (aCons (oTmp (d2 fIxA (oAuto 0) (oTmp (dC (.int 0))))) aNil))) (aCons (oTmp (dB fStr (aCons (oTmp (d2 fIxA (oAuto 0) (oTmp (dC (.int 1))))) aNil))) (aCons (oTmp (d2 fIxA (oAuto 0) (oTmp (dC (.int 2))))) aNil)))) (gNm 1))
    (sRet (dM1 fJoin (dC (.str " ")) (d2 fAdd (oBorS 1) (oTmp (dLc [2, 3] (iZp (aCons (oTmp (dKIx dk_ENTRY_FORMS (d2 fIxA (oAuto 0) (oTmp (dC (.int 2)))))) (aCons (oTmp (d3 fSl (oAuto 0) (pSome (dC (.int 3))) pNone)) aNil))) (gTp [(gNm 2), (gNm 3)]) tYesD (dCall d_part_word (aCons (oBorS 2) (aCons (oBorS 3) aNil)))))))))
def d_entry_text : DF := dFn 4 b_entry_text
theorem sc_entry_text : FnScope ["entry", "words", "sort", "part"] ["entry"] (defScope (top 37)) := ⟨rfl, rfl, rfl, by decide +kernel, rfl, by decide +kernel, by decide +kernel⟩
theorem ok_entry_text (tx : Txt K w mg) {f : Addr} {fd : FuncData} (F : FnP K "entry_text" (top 37) f fd) (C_part_word : Callee P w K mg base ca "part_word" ["sort", "part"] 3 d_part_word) : FnOk P w K mg base CX0 4 f fd ["entry"] (spT K ca 1 d_entry_text) :=
  fn_okD F sc_entry_text (by decide) (fun cdv A outer s H E hr =>
    (bx_cons (sx_set (i := 1) sc_entry_text.nd rfl (by first | exact Or.inl rfl | exact Or.inr rfl) (ex_lst (ax_cons (ox_tmp (ex_callTy call_str_int on_str tx.b_str (ax_cons (ox_tmp (ex_ixA hr.units (ox_auto (pv 0)) (ox_tmp ex_int) (fun _ _ => rfl))) ax_nil))) (ax_cons (ox_tmp (ex_callTy call_str_int on_str tx.b_str (ax_cons (ox_tmp (ex_ixA hr.units (ox_auto (pv 0)) (ox_tmp ex_int) (fun _ _ => rfl))) ax_nil))) (ax_cons (ox_tmp (ex_ixA hr.units (ox_auto (pv 0)) (ox_tmp ex_int) (fun _ _ => rfl))) ax_nil)))))
    (bx_one (sx_ret (ex_join ex_str (ex_op op_addAny o2_add (ox_borS (pv 1)) (ox_tmp (ex_lc (own := [("sort", 2), ("part", 3)]) (by decide) rfl sc_entry_text.nd (ix_zip tx.b_zip (ax_cons (ox_tmp (ex_kix tx.d_ENTRY_FORMS (ex_ixA hr.units (ox_auto (pv 0)) (ox_tmp ex_int) (fun _ _ => rfl)) (fun _ _ => rfl))) (ax_cons (ox_tmp (ex_sl (ox_auto (pv 0)) (px_some ex_int) px_none)) ax_nil))) (blkOk_by (own := [("sort", 2), ("part", 3)]) (by rfl)) (fun _ _ _ _ _ => (gx_tup rfl (gsx_cons (gx_name sc_entry_text.nd rfl (by first | exact Or.inl rfl | exact Or.inr rfl)) (gsx_cons (gx_name sc_entry_text.nd rfl (by first | exact Or.inl rfl | exact Or.inr rfl)) gsx_nil)))) (fun _ _ _ _ _ => tsx_nil) (fun _ _ _ _ _ => (ex_call C_part_word (hr.mono (by omega)) (ax_cons (ox_borS (pv 2)) (ax_cons (ox_borS (pv 3)) ax_nil)) (aCons_len (aCons_len aNil_len))))))))))))
/-! entry_in -/
def b_entry_in : DS :=
    (sSeq (sAsg (dM1 fSplit (dUse 0) (dC (.str " "))) (gNm 1))
    (sSeq (sAsg (dIfD (tOf (d2 fGt (oTmp (dB fLen (aCons (oBorS 1) aNil))) (oTmp (dC (.int 3))))) (dKGet2 dk_ENTRY_FORMS (d2 fIxA (oAuto 1) (oTmp (dC (.int 2)))) (dC .non)) (dC .non)) (gNm 2))
    (sSeq (sIf (tOrD (tOf (d2 fIsN (oBorS 2) (oTmp (dC .non)))) (tOf (d2 fNe (oTmp (dB fLen (aCons (oBorS 1) aNil))) (oTmp (d2 fAdd (oTmp (dC (.int 3))) (oTmp (dB fLen (aCons (oBorS 2) aNil)))))))) (sRet (dC .non)) sNil)
    (sSeq (sAsg (dLc [5, 6] (iZpM (aCons (oTmp (dUse 2)) (aCons (oTmp (d3 fSl (oAuto 1) (pSome (dC (.int 3))) pNone)) aNil))) (gTp [(gNm 5), (gNm 6)]) tYesD (dCall d_part_in (aCons (oBorS 5) (aCons (oBorS 6) aNil)))) (gNm 3))
    (sSeq (sAsg (dB fTuple (aCons (oTmp (d2 fAdd (oTmp (dLst (aCons (oTmp (dCall d_plain_number (aCons (oTmp (d2 fIxA (oAuto 1) (oTmp (dC (.int 0))))) aNil))) (aCons (oTmp (dCall d_plain_number (aCons (oTmp (d2 fIxA (oAuto 1) (oTmp (dC (.int 1))))) aNil))) (aCons (oTmp (d2 fIxA (oAuto 1) (oTmp (dC (.int 2))))) aNil))))) (oBorS 3))) aNil)) (gNm 4))
    (sRet (dIfD (tOf (dCall d_is_entry (aCons (oBorS 4) aNil))) (dUse 4) (dC .non))))))))
def d_entry_in : DF := dFn 7 b_entry_in
theorem sc_entry_in : FnScope ["row", "words", "sorts", "parts", "made", "sort", "word"] ["row"] (defScope (top 38)) := ⟨rfl, rfl, rfl, by decide +kernel, rfl, by decide +kernel, by decide +kernel⟩
theorem ok_entry_in (tx : Txt K w mg) {f : Addr} {fd : FuncData} (F : FnP K "entry_in" (top 38) f fd) (C_part_in : Callee P w K mg base ca "part_in" ["sort", "word"] 4 d_part_in) (C_plain_number : Callee P w K mg base ca "plain_number" ["text"] 1 d_plain_number) (C_is_entry : Callee P w K mg base ca "is_entry" ["thing"] 3 d_is_entry) : FnOk P w K mg base CX0 5 f fd ["row"] (spT K ca 1 d_entry_in) :=
  fn_okD F sc_entry_in (by decide) (fun cdv A outer s H E hr =>
    (bx_cons (sx_set (i := 1) sc_entry_in.nd rfl (by first | exact Or.inl rfl | exact Or.inr rfl) (ex_split (ex_use (pv 0)) ex_str))
    (bx_cons (sx_set (i := 2) sc_entry_in.nd rfl (by first | exact Or.inl rfl | exact Or.inr rfl) (ex_ifx (tx_cmp op_gtA o2_gt (ox_tmp (ex_callB call_lenAny on_len tx.b_len (ax_cons (ox_borS (pv 1)) ax_nil))) (ox_tmp ex_int) (nomark _)) (ex_kget2 tx.d_ENTRY_FORMS (ex_ixA hr.units (ox_auto (pv 1)) (ox_tmp ex_int) (fun _ _ => rfl)) ex_non) ex_non))
    (bx_cons (sx_if (PW.pt (wx_or (tx_cmp op_isN o2_isN (ox_borS (pv 2)) (ox_tmp ex_non) (nomark _)) (wx_or1 (tx_cmp (op_neA hr.units) o2_ne (ox_tmp (ex_callB call_lenAny on_len tx.b_len (ax_cons (ox_borS (pv 1)) ax_nil))) (ox_tmp (ex_op op_addAny o2_add (ox_tmp ex_int) (ox_tmp (ex_callB call_lenAny on_len tx.b_len (ax_cons (ox_borS (pv 2)) ax_nil))))) (nomark _))))) (bx_one (sx_ret ex_non)) bx_nil)
    (bx_cons (sx_setLc (i := 3) (own := [("sort", 5), ("word", 6)]) (by decide) rfl sc_entry_in.nd rfl rfl (sw_true rfl rfl rfl (by decide +kernel)) (ix_zipM tx.b_zip (ax_cons (ox_tmp (ex_use (pv 2))) (ax_cons (ox_tmp (ex_sl (ox_auto (pv 1)) (px_some ex_int) px_none)) ax_nil))) (blkOk_by (own := [("sort", 5), ("word", 6)]) (by rfl)) (fun _ _ _ _ _ => (gx_tup rfl (gsx_cons (gx_name sc_entry_in.nd rfl (by first | exact Or.inl rfl | exact Or.inr rfl)) (gsx_cons (gx_name sc_entry_in.nd rfl (by first | exact Or.inl rfl | exact Or.inr rfl)) gsx_nil)))) (fun _ _ _ _ _ => tsx_nil) (fun _ _ _ _ _ => (ex_call C_part_in (hr.mono (by omega)) (ax_cons (ox_borS (pv 5)) (ax_cons (ox_borS (pv 6)) ax_nil)) (aCons_len (aCons_len aNil_len)))))
    (bx_cons (sx_set (i := 4) sc_entry_in.nd rfl (by first | exact Or.inl rfl | exact Or.inr rfl) (ex_callTy call_tuple_of on_tuple tx.b_tuple (ax_cons (ox_tmp (ex_op op_addAny o2_add (ox_tmp (ex_lst (ax_cons (ox_tmp (ex_call C_plain_number (hr.mono (by omega)) (ax_cons (ox_tmp (ex_ixA hr.units (ox_auto (pv 1)) (ox_tmp ex_int) (fun _ _ => rfl))) ax_nil) (aCons_len aNil_len))) (ax_cons (ox_tmp (ex_call C_plain_number (hr.mono (by omega)) (ax_cons (ox_tmp (ex_ixA hr.units (ox_auto (pv 1)) (ox_tmp ex_int) (fun _ _ => rfl))) ax_nil) (aCons_len aNil_len))) (ax_cons (ox_tmp (ex_ixA hr.units (ox_auto (pv 1)) (ox_tmp ex_int) (fun _ _ => rfl))) ax_nil))))) (ox_borS (pv 3)))) ax_nil)))
    (bx_one (sx_ret (ex_ifx (tx_val (ex_call C_is_entry (hr.mono (by omega)) (ax_cons (ox_borS (pv 4)) ax_nil) (aCons_len aNil_len))) (ex_use (pv 4)) ex_non)))))))))
/-! roll_text -/
def b_roll_text : DS :=
    (sRet (dM1 fJoin (dC (.str "\n")) (dLc [1] (iSeq (dUse 0)) (gNm 1) tYesD (dCall d_entry_text (aCons (oBorS 1) aNil)))))
def d_roll_text : DF := dFn 2 b_roll_text
theorem sc_roll_text : FnScope ["entries", "entry"] ["entries"] (defScope (top 39)) := ⟨rfl, rfl, rfl, by decide +kernel, rfl, by decide +kernel, by decide +kernel⟩
theorem ok_roll_text (tx : Txt K w mg) {f : Addr} {fd : FuncData} (F : FnP K "roll_text" (top 39) f fd) (C_entry_text : Callee P w K mg base ca "entry_text" ["entry"] 4 d_entry_text) : FnOk P w K mg base CX0 5 f fd ["entries"] (spT K ca 1 d_roll_text) :=
  fn_okD F sc_roll_text (by decide) (fun cdv A outer s H E hr =>
    (bx_one (sx_ret (ex_join ex_str (ex_lc (own := [("entry", 1)]) (by decide) rfl sc_roll_text.nd (ix_seq' (ex_use (pv 0))) (blkOk_by (own := [("entry", 1)]) (by rfl)) (fun _ _ _ _ _ => (gx_name sc_roll_text.nd rfl (by first | exact Or.inl rfl | exact Or.inr rfl))) (fun _ _ _ _ _ => tsx_nil) (fun _ _ _ _ _ => (ex_call C_entry_text (hr.mono (by omega)) (ax_cons (ox_borS (pv 1)) ax_nil) (aCons_len aNil_len))))))))
/-! read_roll -/
def b_read_roll : DS :=
    (sSeq (sAsg (dLst aNil) (gNm 1))
    (sSeq (sAsg dDNew (gNm 2))
    (sSeq (sFor (iEn (aCons (oTmp (dM1 fSplit (dUse 0) (dC (.str "\n")))) aNil)) (gTp [(gNm 3), (gNm 4)]) (sIf (tOf (d2 fNe (oBorS 4) (oTmp (dC (.str ""))))) (sSeq (sAsg (dCall d_entry_in (aCons (oBorS 4) aNil)) (gNm 5))
    (sSeq (sIf (tOf (d2 fIsN (oBorS 5) (oTmp (dC .non)))) sNev sNil)
    (sSeq (sIf (tOf (d2 (fInB false) (oTmp (d2 fIxA (oAuto 5) (oTmp (dC (.int 0))))) (oBorS 2))) sNev sNil)
    (sSeq (sAsg (dC (.bl true)) (gIxA 2 (d2 fIxA (oAuto 5) (oTmp (dC (.int 0))))))
    (sDrop (dApp 1 (dUse 5))))))) sNil))
    (sRet (dMov 1)))))
def d_read_roll : DF := dFn 6 b_read_roll
theorem sc_read_roll : FnScope ["text", "found", "seen", "number", "row", "entry"] ["text"] (defScope (top 40)) := ⟨rfl, rfl, rfl, by decide +kernel, rfl, by decide +kernel, by decide +kernel⟩
theorem ok_read_roll (tx : Txt K w mg) {f : Addr} {fd : FuncData} (F : FnP K "read_roll" (top 40) f fd) (C_entry_in : Callee P w K mg base ca "entry_in" ["row"] 5 d_entry_in) : FnOk P w K mg base CX0 6 f fd ["text"] (spT K ca 1 d_read_roll) :=
  fn_okD F sc_read_roll (by decide) (fun cdv A outer s H E hr =>
    (bx_cons (sx_set (i := 1) sc_read_roll.nd rfl (by first | exact Or.inl rfl | exact Or.inr rfl) (ex_lst ax_nil))
    (bx_cons (sx_set (i := 2) sc_read_roll.nd rfl (by first | exact Or.inl rfl | exact Or.inr rfl) ex_dnew)
    (bx_cons (sx_for PassesOwn.never rfl (ix_enum tx.b_enumerate (ax_cons (ox_tmp (ex_split (ex_use (pv 0)) ex_str)) ax_nil)) (gx_tup rfl (gsx_cons (gx_name sc_read_roll.nd rfl (by first | exact Or.inl rfl | exact Or.inr rfl)) (gsx_cons (gx_name sc_read_roll.nd rfl (by first | exact Or.inl rfl | exact Or.inr rfl)) gsx_nil))) (bx_one (sx_if (tx_cmp (op_neA hr.units) o2_ne (ox_borS (pv 4)) (ox_tmp ex_str) (nomark _)) (bx_cons (sx_set (i := 5) sc_read_roll.nd rfl (by first | exact Or.inl rfl | exact Or.inr rfl) (ex_call C_entry_in (hr.mono (by omega)) (ax_cons (ox_borS (pv 4)) ax_nil) (aCons_len aNil_len)))
    (bx_cons (sx_if (tx_cmp op_isN o2_isN (ox_borS (pv 5)) (ox_tmp ex_non) (nomark _)) (bx_one sx_nev) bx_nil)
    (bx_cons (sx_if (tx_cmp (op_inB hr.units) o2_inB (ox_tmp (ex_ixA hr.units (ox_auto (pv 5)) (ox_tmp ex_int) (fun _ _ => rfl))) (ox_borS (pv 2)) rfl) (bx_one sx_nev) bx_nil)
    (bx_cons (sx_asg ex_bl (gx_ixA hr.units (pv 2) (ex_ixA hr.units (ox_auto (pv 5)) (ox_tmp ex_int) (fun _ _ => rfl))))
    (bx_one (sx_expr (ex_app (pv 1) (ex_use (pv 5))))))))) bx_nil)))
    (bx_one (sx_ret (ex_mov (pv 1))))))))
/-! _law_box -/
def b__law_box : DS :=
    (sSeq (sAsg (dIfD (tOf (d2 fLt (oBorS 1) (oTmp (dB fLen (aCons (oBorS 0) aNil))))) (d2 fIxA (oAuto 0) (oBorS 1)) (dC (.int 0))) (gNm 2))
    (sRet (dLst (aCons (oTmp (d2 fMul (oTmp (dB fAbs (aCons (oBorS 2) aNil))) (oTmp (dB fInt (aCons (oTmp (d2 fGe (oTmp (dB fAbs (aCons (oBorS 2) aNil))) (oTmp (d2 fPow (oTmp (dC (.int 10))) (oTmp (dC (.int 18))))))) aNil))))) (aCons (oTmp (d2 fAdd (oTmp (d2 fAdd (oTmp (d2 fMul (oTmp (d2 fMod (oBorS 2) (oTmp (dC (.int 2147483629))))) (oTmp (dC (.int 48271))))) (oTmp (d2 fMul (oTmp (dC (.int 15485863))) (oBorS 1))))) (oTmp (dC (.int 37))))) (aCons (oTmp (dC (.int 0))) aNil))))))
def d__law_box : DF := dFn 3 b__law_box
theorem sc__law_box : FnScope ["_law_script", "_law_k", "_law_cell"] ["_law_script", "_law_k"] (defScope (top 42)) := ⟨rfl, rfl, rfl, by decide +kernel, rfl, by decide +kernel, by decide +kernel⟩
theorem ok__law_box (tx : Txt K w mg) {f : Addr} {fd : FuncData} (F : FnP K "_law_box" (top 42) f fd) : FnOk P w K mg base CX0 1 f fd ["_law_script", "_law_k"] (spT K ca 2 d__law_box) :=
  fn_okD F sc__law_box (by decide) (fun cdv A outer s H E hr =>
    (bx_cons (sx_set (i := 2) sc__law_box.nd rfl (by first | exact Or.inl rfl | exact Or.inr rfl) (ex_ifx (tx_cmp op_ltA o2_lt (ox_borS (pv 1)) (ox_tmp (ex_callB call_lenAny on_len tx.b_len (ax_cons (ox_borS (pv 0)) ax_nil))) (nomark _)) (ex_ixA hr.units (ox_auto (pv 0)) (ox_borS (pv 1)) (fun _ _ => rfl)) ex_int))
    (bx_one (sx_ret (ex_lst (ax_cons (ox_tmp (ex_op op_mulAny o2_mul (ox_tmp (ex_callB call_abs on_abs tx.b_abs (ax_cons (ox_borS (pv 2)) ax_nil))) (ox_tmp (ex_callTy (TL.CallR.or call_int1 call_int_str) on_int tx.b_int (ax_cons (ox_tmp (ex_cmp op_geA o2_ge (ox_tmp (ex_callB call_abs on_abs tx.b_abs (ax_cons (ox_borS (pv 2)) ax_nil))) (ox_tmp (ex_op op_pow o2_pow (ox_tmp ex_int) (ox_tmp ex_int))) (nomark _))) ax_nil))))) (ax_cons (ox_tmp (ex_op op_addAny o2_add (ox_tmp (ex_op op_addAny o2_add (ox_tmp (ex_op op_mulAny o2_mul (ox_tmp (ex_op op_mod o2_mod (ox_borS (pv 2)) (ox_tmp ex_int))) (ox_tmp ex_int))) (ox_tmp (ex_op op_mulAny o2_mul (ox_tmp ex_int) (ox_borS (pv 1)))))) (ox_tmp ex_int))) (ax_cons (ox_tmp ex_int) ax_nil))))))))
/-! _law_take -/
def b__law_take : DS :=
    (sSeq (sIf (tOf (d2 fGt (oTmp (d2 fIxA (oAuto 0) (oTmp (dC (.int 0))))) (oTmp (dC (.int 0))))) (sSeq (sAsg (d2 fMod (oTmp (d2 fIxA (oAuto 0) (oTmp (dC (.int 0))))) (oBorS 1)) (gNm 5))
    (sSeq (sAsg (d2 fDiv (oTmp (d2 fIxA (oAuto 0) (oTmp (dC (.int 0))))) (oBorS 1)) (gIxA 0 (dC (.int 0))))
    (sRet (dMov 5)))) sNil)
    (sSeq (sAsg (d2 fAdd (oTmp (d2 fIxA (oAuto 0) (oTmp (dC (.int 2))))) (oTmp (dC (.int 1)))) (gIxA 0 (dC (.int 2))))
    (sSeq (sAsg (d2 fAdd (oTmp (dC (.int 69621))) (oTmp (d2 fMul (oTmp (d2 fIxA (oAuto 0) (oTmp (dC (.int 2))))) (oTmp (d2 fIxA (oAuto 0) (oTmp (dC (.int 2)))))))) (gNm 2))
    (sSeq (sAsg (d2 fMod (oTmp (d2 fMul (oTmp (d2 fAdd (oTmp (d2 fIxA (oAuto 0) (oTmp (dC (.int 1))))) (oTmp (d2 fMul (oTmp (dC (.int 39373))) (oTmp (d2 fIxA (oAuto 0) (oTmp (dC (.int 2))))))))) (oBorS 2))) (oTmp (dC (.int 2147483587)))) (gNm 3))
    (sSeq (sAsg (d2 fMod (oTmp (d2 fAdd (oTmp (d2 fMul (oBorS 3) (oTmp (d2 fAdd (oTmp (d2 fMod (oBorS 3) (oTmp (dC (.int 30011))))) (oTmp (dC (.int 5))))))) (oTmp (d2 fIxA (oAuto 0) (oTmp (dC (.int 2))))))) (oTmp (dC (.int 2147483563)))) (gNm 4))
    (sRet (d2 fMod (oTmp (d2 fDiv (oTmp (d2 fMod (oTmp (d2 fMul (oBorS 4) (oTmp (d2 fAdd (oTmp (d2 fMod (oBorS 4) (oTmp (dC (.int 1013))))) (oTmp (dC (.int 3))))))) (oTmp (dC (.int 998244353))))) (oTmp (dC (.int 16))))) (oBorS 1))))))))
def d__law_take : DF := dFn 6 b__law_take
theorem sc__law_take : FnScope ["_law_box_here", "_law_many", "_law_step", "_law_once", "_law_twice", "_law_found"] ["_law_box_here", "_law_many"] (defScope (top 43)) := ⟨rfl, rfl, rfl, by decide +kernel, rfl, by decide +kernel, by decide +kernel⟩
theorem ok__law_take (tx : Txt K w mg) {f : Addr} {fd : FuncData} (F : FnP K "_law_take" (top 43) f fd) : FnOk P w K mg base CX0 1 f fd ["_law_box_here", "_law_many"] (spT K ca 2 d__law_take) :=
  fn_okD F sc__law_take (by decide) (fun cdv A outer s H E hr =>
    (bx_cons (sx_if (tx_cmp op_gtA o2_gt (ox_tmp (ex_ixA hr.units (ox_auto (pv 0)) (ox_tmp ex_int) (fun _ _ => rfl))) (ox_tmp ex_int) (nomark _)) (bx_cons (sx_set (i := 5) sc__law_take.nd rfl (by first | exact Or.inl rfl | exact Or.inr rfl) (ex_op op_mod o2_mod (ox_tmp (ex_ixA hr.units (ox_auto (pv 0)) (ox_tmp ex_int) (fun _ _ => rfl))) (ox_borS (pv 1))))
    (bx_cons (sx_asg (ex_op op_fdivW o2_div (ox_tmp (ex_ixA hr.units (ox_auto (pv 0)) (ox_tmp ex_int) (fun _ _ => rfl))) (ox_borS (pv 1))) (gx_ixA hr.units (pv 0) ex_int))
    (bx_one (sx_ret (ex_mov (pv 5)))))) bx_nil)
    (bx_cons (sx_asg (ex_op op_addAny o2_add (ox_tmp (ex_ixA hr.units (ox_auto (pv 0)) (ox_tmp ex_int) (fun _ _ => rfl))) (ox_tmp ex_int)) (gx_ixA hr.units (pv 0) ex_int))
    (bx_cons (sx_set (i := 2) sc__law_take.nd rfl (by first | exact Or.inl rfl | exact Or.inr rfl) (ex_op op_addAny o2_add (ox_tmp ex_int) (ox_tmp (ex_op op_mulAny o2_mul (ox_tmp (ex_ixA hr.units (ox_auto (pv 0)) (ox_tmp ex_int) (fun _ _ => rfl))) (ox_tmp (ex_ixA hr.units (ox_auto (pv 0)) (ox_tmp ex_int) (fun _ _ => rfl)))))))
    (bx_cons (sx_set (i := 3) sc__law_take.nd rfl (by first | exact Or.inl rfl | exact Or.inr rfl) (ex_op op_mod o2_mod (ox_tmp (ex_op op_mulAny o2_mul (ox_tmp (ex_op op_addAny o2_add (ox_tmp (ex_ixA hr.units (ox_auto (pv 0)) (ox_tmp ex_int) (fun _ _ => rfl))) (ox_tmp (ex_op op_mulAny o2_mul (ox_tmp ex_int) (ox_tmp (ex_ixA hr.units (ox_auto (pv 0)) (ox_tmp ex_int) (fun _ _ => rfl))))))) (ox_borS (pv 2)))) (ox_tmp ex_int)))
    (bx_cons (sx_set (i := 4) sc__law_take.nd rfl (by first | exact Or.inl rfl | exact Or.inr rfl) (ex_op op_mod o2_mod (ox_tmp (ex_op op_addAny o2_add (ox_tmp (ex_op op_mulAny o2_mul (ox_borS (pv 3)) (ox_tmp (ex_op op_addAny o2_add (ox_tmp (ex_op op_mod o2_mod (ox_borS (pv 3)) (ox_tmp ex_int))) (ox_tmp ex_int))))) (ox_tmp (ex_ixA hr.units (ox_auto (pv 0)) (ox_tmp ex_int) (fun _ _ => rfl))))) (ox_tmp ex_int)))
    (bx_one (sx_ret (ex_op op_mod o2_mod (ox_tmp (ex_op op_fdivW o2_div (ox_tmp (ex_op op_mod o2_mod (ox_tmp (ex_op op_mulAny o2_mul (ox_borS (pv 4)) (ox_tmp (ex_op op_addAny o2_add (ox_tmp (ex_op op_mod o2_mod (ox_borS (pv 4)) (ox_tmp ex_int))) (ox_tmp ex_int))))) (ox_tmp ex_int))) (ox_tmp ex_int))) (ox_borS (pv 1)))))))))))
/-! _law_folded -/
def b__law_folded : DS :=
    (sSeq (sAsg (dB fList (aCons (oTmp (d3 fSl (oAuto 0) pNone (pSome (dUse 1)))) aNil)) (gNm 2))
    (sSeq (sFor (iEn (aCons (oTmp (d3 fSl (oAuto 0) (pSome (dUse 1)) (pSome (dC (.int 63))))) aNil)) (gTp [(gNm 3), (gNm 4)]) (sAsg (d2 fAdd (oTmp (d2 fIxA (oAuto 2) (oTmp (d2 fMod (oBorS 3) (oBorS 1))))) (oTmp (d2 fMul (oBorS 4) (oTmp (d2 fAdd (oBorS 3) (oTmp (dC (.int 2)))))))) (gIxA 2 (d2 fMod (oBorS 3) (oBorS 1)))))
    (sRet (dMov 2))))
def d__law_folded : DF := dFn 5 b__law_folded
theorem sc__law_folded : FnScope ["_law_script", "_law_size", "_law_cells", "_law_k", "_law_cell"] ["_law_script", "_law_size"] (defScope (top 44)) := ⟨rfl, rfl, rfl, by decide +kernel, rfl, by decide +kernel, by decide +kernel⟩
theorem ok__law_folded (tx : Txt K w mg) {f : Addr} {fd : FuncData} (F : FnP K "_law_folded" (top 44) f fd) : FnOk P w K mg base CX0 1 f fd ["_law_script", "_law_size"] (spT K ca 2 d__law_folded) :=
  fn_okD F sc__law_folded (by decide) (fun cdv A outer s H E hr =>
    (bx_cons (sx_set (i := 2) sc__law_folded.nd rfl (by first | exact Or.inl rfl | exact Or.inr rfl) (ex_callTy call_list_of on_list tx.b_list (ax_cons (ox_tmp (ex_sl (ox_auto (pv 0)) px_none (px_some (ex_use (pv 1))))) ax_nil)))
    (bx_cons (sx_for PassesOwn.never rfl (ix_enum tx.b_enumerate (ax_cons (ox_tmp (ex_sl (ox_auto (pv 0)) (px_some (ex_use (pv 1))) (px_some ex_int))) ax_nil)) (gx_tup rfl (gsx_cons (gx_name sc__law_folded.nd rfl (by first | exact Or.inl rfl | exact Or.inr rfl)) (gsx_cons (gx_name sc__law_folded.nd rfl (by first | exact Or.inl rfl | exact Or.inr rfl)) gsx_nil))) (bx_one (sx_asg (ex_op op_addAny o2_add (ox_tmp (ex_ixA hr.units (ox_auto (pv 2)) (ox_tmp (ex_op op_mod o2_mod (ox_borS (pv 3)) (ox_borS (pv 1)))) (fun _ _ => rfl))) (ox_tmp (ex_op op_mulAny o2_mul (ox_borS (pv 4)) (ox_tmp (ex_op op_addAny o2_add (ox_borS (pv 3)) (ox_tmp ex_int)))))) (gx_ixA hr.units (pv 2) (ex_op op_mod o2_mod (ox_borS (pv 3)) (ox_borS (pv 1)))))))
    (bx_one (sx_ret (ex_mov (pv 2)))))))
/-! _law_strewn -/
def b__law_strewn : DS :=
    (sSeq (sAsg (dB fList (aCons (oBorS 1) aNil)) (gNm 2))
    (sSeq (sFor (iR3 (aCons (oTmp (d2 fSub (oTmp (dB fLen (aCons (oBorS 2) aNil))) (oTmp (dC (.int 1))))) (aCons (oTmp (dC (.int 0))) (aCons (oTmp (d1 fNeg (oTmp (dC (.int 1))))) aNil)))) (gNm 3) (sSeq (sAsg (dCall d__law_take (aCons (oBorS 0) (aCons (oTmp (d2 fAdd (oBorS 3) (oTmp (dC (.int 1))))) aNil))) (gNm 4))
    (sAsg (dTup (aCons (oTmp (d2 fIxA (oAuto 2) (oBorS 4))) (aCons (oTmp (d2 fIxA (oAuto 2) (oBorS 3))) aNil))) (gTp [(gIxA 2 (dGet 3)), (gIxA 2 (dGet 4))]))))
    (sRet (dMov 2))))
def d__law_strewn : DF := dFn 5 b__law_strewn
theorem sc__law_strewn : FnScope ["_law_box_here", "_law_some", "_law_found", "_law_k", "_law_other"] ["_law_box_here", "_law_some"] (defScope (top 45)) := ⟨rfl, rfl, rfl, by decide +kernel, rfl, by decide +kernel, by decide +kernel⟩
theorem ok__law_strewn (tx : Txt K w mg) {f : Addr} {fd : FuncData} (F : FnP K "_law_strewn" (top 45) f fd) (C__law_take : Callee P w K mg base ca "_law_take" ["_law_box_here", "_law_many"] 1 d__law_take) : FnOk P w K mg base CX0 2 f fd ["_law_box_here", "_law_some"] (spT K ca 2 d__law_strewn) :=
  fn_okD F sc__law_strewn (by decide) (fun cdv A outer s H E hr =>
    (bx_cons (sx_set (i := 2) sc__law_strewn.nd rfl (by first | exact Or.inl rfl | exact Or.inr rfl) (ex_callTy call_list_of on_list tx.b_list (ax_cons (ox_borS (pv 1)) ax_nil)))
    (bx_cons (sx_for PassesOwn.never rfl (ix_r3 tx.b_range (ax_cons (ox_tmp (ex_op op_sub o2_sub (ox_tmp (ex_callB call_lenAny on_len tx.b_len (ax_cons (ox_borS (pv 2)) ax_nil))) (ox_tmp ex_int))) (ax_cons (ox_tmp ex_int) (ax_cons (ox_tmp (ex_un un_neg o1_neg (ox_tmp ex_int))) ax_nil)))) (gx_name sc__law_strewn.nd rfl (by first | exact Or.inl rfl | exact Or.inr rfl)) (bx_cons (sx_set (i := 4) sc__law_strewn.nd rfl (by first | exact Or.inl rfl | exact Or.inr rfl) (ex_call C__law_take (hr.mono (by omega)) (ax_cons (ox_borS (pv 0)) (ax_cons (ox_tmp (ex_op op_addAny o2_add (ox_borS (pv 3)) (ox_tmp ex_int))) ax_nil)) (aCons_len (aCons_len aNil_len))))
    (bx_one (sx_asg (ex_tup (ax_cons (ox_tmp (ex_ixA hr.units (ox_auto (pv 2)) (ox_borS (pv 4)) (fun _ _ => rfl))) (ax_cons (ox_tmp (ex_ixA hr.units (ox_auto (pv 2)) (ox_borS (pv 3)) (fun _ _ => rfl))) ax_nil))) (gx_tup rfl (gsx_cons (gx_ixA hr.units (pv 2) (ex_get (pv 3))) (gsx_cons (gx_ixA hr.units (pv 2) (ex_get (pv 4))) gsx_nil)))))))
    (bx_one (sx_ret (ex_mov (pv 2)))))))
/-! _law_names -/
def b__law_names : DS :=
    (sSeq (sAsg (dTup (aCons (oTmp (dC (.str "abcdefghijklmnopqrstuvwxyz"))) (aCons (oTmp (dLst aNil)) aNil))) (gTp [(gNm 4), (gNm 5)]))
    (sSeq (sAsg (dC (.str "hand off load canoe way shut storm store take leave fill go land water strike undo late roll")) (gNm 2))
    (sSeq (sFor (iR1 (aCons (oTmp (dGet 1)) aNil)) (gNm 3) (sSeq (sAsg (dM1 fJoin (dC (.str "")) (dLc [7] (iR1 (aCons (oTmp (d2 fIxA (oTmp (dLst (aCons (oTmp (dC (.int 1))) (aCons (oTmp (dC (.int 2))) (aCons (oTmp (dC (.int 3))) (aCons (oTmp (dC (.int 8))) aNil)))))) (oTmp (dCall d__law_take (aCons (oBorS 0) (aCons (oTmp (dC (.int 4))) aNil)))))) aNil)) (gNm 7) tYesD (d2 fIxA (oAuto 4) (oTmp (dCall d__law_take (aCons (oBorS 0) (aCons (oTmp (dC (.int 26))) aNil))))))) (gNm 6))
    (sSeq (sIf (tOf (d2 fEq (oTmp (dCall d__law_take (aCons (oBorS 0) (aCons (oTmp (dC (.int 12))) aNil)))) (oTmp (dC (.int 0))))) (sAsg (d2 fIxA (oTmp (dM1 fSplit (dUse 2) (dC (.str " ")))) (oTmp (dCall d__law_take (aCons (oBorS 0) (aCons (oTmp (dC (.int 18))) aNil))))) (gNm 6)) sNil)
    (sSeq (sFor (iR1 (aCons (oTmp (dC (.int 676))) aNil)) (gNm 7) (sIf (tOf (d2 (fInB false) (oBorS 6) (oBorS 5))) (sAsg (d2 fAdd (oTmp (d2 fAdd (oTmp (d3 fSl (oAuto 6) pNone (pSome (dC (.int 6))))) (oTmp (d2 fIxA (oAuto 4) (oTmp (d2 fDiv (oBorS 7) (oTmp (dC (.int 26))))))))) (oTmp (d2 fIxA (oAuto 4) (oTmp (d2 fMod (oBorS 7) (oTmp (dC (.int 26)))))))) (gNm 6)) sNil))
    (sDrop (dApp 5 (dUse 6)))))))
    (sRet (dMov 5)))))
def d__law_names : DF := dFn 8 b__law_names
theorem sc__law_names : FnScope ["_law_box_here", "_law_many", "_law_words", "_law_k", "_law_letters", "_law_found", "_law_name", "_law_turn"] ["_law_box_here", "_law_many"] (defScope (top 46)) := ⟨rfl, rfl, rfl, by decide +kernel, rfl, by decide +kernel, by decide +kernel⟩
theorem ok__law_names (tx : Txt K w mg) {f : Addr} {fd : FuncData} (F : FnP K "_law_names" (top 46) f fd) (C__law_take : Callee P w K mg base ca "_law_take" ["_law_box_here", "_law_many"] 1 d__law_take) : FnOk P w K mg base CX0 2 f fd ["_law_box_here", "_law_many"] (spT K ca 2 d__law_names) :=
  fn_okD F sc__law_names (by decide) (fun cdv A outer s H E hr =>
    (bx_cons (sx_asg (ex_tup (ax_cons (ox_tmp ex_str) (ax_cons (ox_tmp (ex_lst ax_nil)) ax_nil))) (gx_tup rfl (gsx_cons (gx_name sc__law_names.nd rfl (by first | exact Or.inl rfl | exact Or.inr rfl)) (gsx_cons (gx_name sc__law_names.nd rfl (by first | exact Or.inl rfl | exact Or.inr rfl)) gsx_nil))))
    (bx_cons (sx_set (i := 2) sc__law_names.nd rfl (by first | exact Or.inl rfl | exact Or.inr rfl) ex_str)
    (bx_cons (sx_for PassesOwn.never rfl (ix_r1 tx.b_range (ax_cons (ox_tmp (ex_get (pv 1))) ax_nil)) (gx_name sc__law_names.nd rfl (by first | exact Or.inl rfl | exact Or.inr rfl)) (bx_cons (sx_set (i := 6) sc__law_names.nd rfl (by first | exact Or.inl rfl | exact Or.inr rfl) (ex_join ex_str (ex_lc (own := [("_law_turn", 7)]) (by decide) rfl sc__law_names.nd (ix_r1 tx.b_range (ax_cons (ox_tmp (ex_ixA hr.units (ox_tmp (ex_lst (ax_cons (ox_tmp ex_int) (ax_cons (ox_tmp ex_int) (ax_cons (ox_tmp ex_int) (ax_cons (ox_tmp ex_int) ax_nil)))))) (ox_tmp (ex_call C__law_take (hr.mono (by omega)) (ax_cons (ox_borS (pv 0)) (ax_cons (ox_tmp ex_int) ax_nil)) (aCons_len (aCons_len aNil_len)))) (fun _ _ => rfl))) ax_nil)) (blkOk_by (own := [("_law_turn", 7)]) (by rfl)) (fun _ _ _ _ _ => (gx_name sc__law_names.nd rfl (by first | exact Or.inl rfl | exact Or.inr rfl))) (fun _ _ _ _ _ => tsx_nil) (fun _ _ _ _ _ => (ex_ixA hr.units (ox_auto (pv 4)) (ox_tmp (ex_call C__law_take (hr.mono (by omega)) (ax_cons (ox_borS (pv 0)) (ax_cons (ox_tmp ex_int) ax_nil)) (aCons_len (aCons_len aNil_len)))) (fun _ _ => rfl))))))
    (bx_cons (sx_if (tx_cmp (op_eqA hr.units) o2_eq (ox_tmp (ex_call C__law_take (hr.mono (by omega)) (ax_cons (ox_borS (pv 0)) (ax_cons (ox_tmp ex_int) ax_nil)) (aCons_len (aCons_len aNil_len)))) (ox_tmp ex_int) (nomark _)) (bx_one (sx_set (i := 6) sc__law_names.nd rfl (by first | exact Or.inl rfl | exact Or.inr rfl) (ex_ixA hr.units (ox_tmp (ex_split (ex_use (pv 2)) ex_str)) (ox_tmp (ex_call C__law_take (hr.mono (by omega)) (ax_cons (ox_borS (pv 0)) (ax_cons (ox_tmp ex_int) ax_nil)) (aCons_len (aCons_len aNil_len)))) (fun _ _ => rfl)))) bx_nil)
    (bx_cons (sx_for PassesOwn.never rfl (ix_r1 tx.b_range (ax_cons (ox_tmp ex_int) ax_nil)) (gx_name sc__law_names.nd rfl (by first | exact Or.inl rfl | exact Or.inr rfl)) (bx_one (sx_if (tx_cmp (op_inB hr.units) o2_inB (ox_borS (pv 6)) (ox_borS (pv 5)) rfl) (bx_one (sx_set (i := 6) sc__law_names.nd rfl (by first | exact Or.inl rfl | exact Or.inr rfl) (ex_op op_addAny o2_add (ox_tmp (ex_op op_addAny o2_add (ox_tmp (ex_sl (ox_auto (pv 6)) px_none (px_some ex_int))) (ox_tmp (ex_ixA hr.units (ox_auto (pv 4)) (ox_tmp (ex_op op_fdivW o2_div (ox_borS (pv 7)) (ox_tmp ex_int))) (fun _ _ => rfl))))) (ox_tmp (ex_ixA hr.units (ox_auto (pv 4)) (ox_tmp (ex_op op_mod o2_mod (ox_borS (pv 7)) (ox_tmp ex_int))) (fun _ _ => rfl)))))) bx_nil)))
    (bx_one (sx_expr (ex_app (pv 5) (ex_use (pv 6)))))))))
    (bx_one (sx_ret (ex_mov (pv 5))))))))
/-! _law_same -/
def b__law_same (dself : DF) : DS :=
    (sSeq (sIf (tOf (d1 (fIsi2 "list" "tuple") (oBorS 1))) (sSeq (sIf (tOrD (tOf (d2 fNe (oTmp (d1 (fIsi "list") (oBorS 0))) (oTmp (d1 (fIsi "list") (oBorS 1))))) (tOf (d2 fNe (oTmp (d1 (fIsi "tuple") (oBorS 0))) (oTmp (d1 (fIsi "tuple") (oBorS 1)))))) (sRet (dC (.bl false))) sNil)
    (sRet (dAndD (d2 fEq (oTmp (dB fLen (aCons (oBorS 0) aNil))) (oTmp (dB fLen (aCons (oBorS 1) aNil)))) (dB fAll (aCons (oTmp (dLc [2, 3] (iZp (aCons (oTmp (dUse 0)) (aCons (oTmp (dUse 1)) aNil))) (gTp [(gNm 2), (gNm 3)]) tYesD (dCall dself (aCons (oBorS 2) (aCons (oBorS 3) aNil))))) aNil))))) sNil)
    (sSeq (sIf (tOrD (tOf (d2 fIsN (oBorS 1) (oTmp (dC .non)))) (tOf (d2 fIsN (oBorS 0) (oTmp (dC .non))))) (sRet (dAndD (d2 fIsN (oBorS 1) (oTmp (dC .non))) (d2 fIsN (oBorS 0) (oTmp (dC .non))))) sNil)
    (sSeq (sIf (tOrD (tOf (d1 (fIsi "bool") (oBorS 1))) (tOf (d1 (fIsi "str") (oBorS 1)))) (sRet (dAndD (d2 fEq (oTmp (d1 (fIsi "bool") (oBorS 0))) (oTmp (d1 (fIsi "bool") (oBorS 1)))) (d2 fEq (oBorS 0) (oBorS 1)))) sNil)
    (sRet (dAndD (d1 (fIsi "int") (oBorS 0)) (dAndD (dNotD (d1 (fIsi "bool") (oBorS 0))) (d2 fEq (oBorS 0) (oBorS 1))))))))
def d__law_same : Nat → DF := dRec fun dself => dFn 4 (b__law_same dself)
theorem sc__law_same : FnScope ["_law_found", "_law_due", "_law_one", "_law_other"] ["_law_found", "_law_due"] (defScope (top 47)) := ⟨rfl, rfl, rfl, by decide +kernel, rfl, by decide +kernel, by decide +kernel⟩
theorem ok__law_same (tx : Txt K w mg) {f : Addr} {fd : FuncData} (F : FnP K "_law_same" (top 47) f fd) (hm : mg "_law_same" = some (.ref f)) (hb : Binds K fd ["_law_found", "_law_due"] []) (n : Nat) : FnOk P w K mg base CX0 (0 + n) f fd ["_law_found", "_law_due"] (spT K ca 2 (d__law_same n)) :=
  fn_rec (ps := ["_law_found", "_law_due"]) (c := 0) (fun dself k hk R0 => fn_okD F sc__law_same (by decide) (fun cdv A outer s H E hr => by
    have R_ : Callee P w K mg base ca "_law_same" ["_law_found", "_law_due"] k dself := callee_of F hm hb R0
    exact (bx_cons (sx_if (tx_val (ex_isi2 tx.b_isinstance tx.b_list tx.b_tuple (ox_borS (pv 1)))) (bx_cons (sx_if (PW.pt (wx_or (tx_cmp (op_neA hr.units) o2_ne (ox_tmp (ex_isi tx.b_isinstance tx.b_list (ox_borS (pv 0)))) (ox_tmp (ex_isi tx.b_isinstance tx.b_list (ox_borS (pv 1)))) (nomark _)) (wx_or1 (tx_cmp (op_neA hr.units) o2_ne (ox_tmp (ex_isi tx.b_isinstance tx.b_tuple (ox_borS (pv 0)))) (ox_tmp (ex_isi tx.b_isinstance tx.b_tuple (ox_borS (pv 1)))) (nomark _))))) (bx_one (sx_ret ex_bl)) bx_nil)
    (bx_one (sx_ret (ex_and (ex_cmp (op_eqA hr.units) o2_eq (ox_tmp (ex_callB call_lenAny on_len tx.b_len (ax_cons (ox_borS (pv 0)) ax_nil))) (ox_tmp (ex_callB call_lenAny on_len tx.b_len (ax_cons (ox_borS (pv 1)) ax_nil))) (nomark _)) (ex_one (ex_callB (cr_all rfl) on_all tx.b_all (ax_cons (ox_tmp (ex_lc (own := [("_law_one", 2), ("_law_other", 3)]) (by decide) rfl sc__law_same.nd (ix_zip tx.b_zip (ax_cons (ox_tmp (ex_use (pv 0))) (ax_cons (ox_tmp (ex_use (pv 1))) ax_nil))) (blkOk_by (own := [("_law_one", 2), ("_law_other", 3)]) (by rfl)) (fun _ _ _ _ _ => (gx_tup rfl (gsx_cons (gx_name sc__law_same.nd rfl (by first | exact Or.inl rfl | exact Or.inr rfl)) (gsx_cons (gx_name sc__law_same.nd rfl (by first | exact Or.inl rfl | exact Or.inr rfl)) gsx_nil)))) (fun _ _ _ _ _ => tsx_nil) (fun _ _ _ _ _ => (ex_call R_ (hr.mono (by omega)) (ax_cons (ox_borS (pv 2)) (ax_cons (ox_borS (pv 3)) ax_nil)) (aCons_len (aCons_len aNil_len)))))) ax_nil))))))) bx_nil)
    (bx_cons (sx_if (PW.pt (wx_or (tx_cmp op_isN o2_isN (ox_borS (pv 1)) (ox_tmp ex_non) (nomark _)) (wx_or1 (tx_cmp op_isN o2_isN (ox_borS (pv 0)) (ox_tmp ex_non) (nomark _))))) (bx_one (sx_ret (ex_and (ex_cmp op_isN o2_isN (ox_borS (pv 1)) (ox_tmp ex_non) (nomark _)) (ex_one (ex_cmp op_isN o2_isN (ox_borS (pv 0)) (ox_tmp ex_non) (nomark _)))))) bx_nil)
    (bx_cons (sx_if (PW.pt (wx_or (tx_val (ex_isi tx.b_isinstance tx.b_bool (ox_borS (pv 1)))) (wx_or1 (tx_val (ex_isi tx.b_isinstance tx.b_str (ox_borS (pv 1))))))) (bx_one (sx_ret (ex_and (ex_cmp (op_eqA hr.units) o2_eq (ox_tmp (ex_isi tx.b_isinstance tx.b_bool (ox_borS (pv 0)))) (ox_tmp (ex_isi tx.b_isinstance tx.b_bool (ox_borS (pv 1)))) (nomark _)) (ex_one (ex_cmp (op_eqA hr.units) o2_eq (ox_borS (pv 0)) (ox_borS (pv 1)) (nomark _)))))) bx_nil)
    (bx_one (sx_ret (ex_and (ex_isi tx.b_isinstance tx.b_int (ox_borS (pv 0))) (ex_and (ex_not (ex_isi tx.b_isinstance tx.b_bool (ox_borS (pv 0)))) (ex_one (ex_cmp (op_eqA hr.units) o2_eq (ox_borS (pv 0)) (ox_borS (pv 1)) (nomark _)))))))))))) n
/-! _law_copied -/
def b__law_copied (dself : DF) : DS :=
    (sSeq (sIf (tOf (d1 (fIsi "list") (oBorS 0))) (sRet (dLc [1] (iSeq (dUse 0)) (gNm 1) tYesD (dCall dself (aCons (oBorS 1) aNil)))) sNil)
    (sRet (dIfD (tOf (d1 (fIsi "tuple") (oBorS 0))) (dB fTuple (aCons (oTmp (dLc [1] (iSeq (dUse 0)) (gNm 1) tYesD (dCall dself (aCons (oBorS 1) aNil)))) aNil)) (dUse 0))))
def d__law_copied : Nat → DF := dRec fun dself => dFn 2 (b__law_copied dself)
theorem sc__law_copied : FnScope ["_law_thing", "_law_part_here"] ["_law_thing"] (defScope (top 48)) := ⟨rfl, rfl, rfl, by decide +kernel, rfl, by decide +kernel, by decide +kernel⟩
theorem ok__law_copied (tx : Txt K w mg) {f : Addr} {fd : FuncData} (F : FnP K "_law_copied" (top 48) f fd) (hm : mg "_law_copied" = some (.ref f)) (hb : Binds K fd ["_law_thing"] []) (n : Nat) : FnOk P w K mg base CX0 (0 + n) f fd ["_law_thing"] (spT K ca 1 (d__law_copied n)) :=
  fn_rec (ps := ["_law_thing"]) (c := 0) (fun dself k hk R0 => fn_okD F sc__law_copied (by decide) (fun cdv A outer s H E hr => by
    have R_ : Callee P w K mg base ca "_law_copied" ["_law_thing"] k dself := callee_of F hm hb R0
    exact (bx_cons (sx_if (tx_val (ex_isi tx.b_isinstance tx.b_list (ox_borS (pv 0)))) (bx_one (sx_ret (ex_lc (own := [("_law_part_here", 1)]) (by decide) rfl sc__law_copied.nd (ix_seq' (ex_use (pv 0))) (blkOk_by (own := [("_law_part_here", 1)]) (by rfl)) (fun _ _ _ _ _ => (gx_name sc__law_copied.nd rfl (by first | exact Or.inl rfl | exact Or.inr rfl))) (fun _ _ _ _ _ => tsx_nil) (fun _ _ _ _ _ => (ex_call R_ (hr.mono (by omega)) (ax_cons (ox_borS (pv 1)) ax_nil) (aCons_len aNil_len)))))) bx_nil)
    (bx_one (sx_ret (ex_ifx (tx_val (ex_isi tx.b_isinstance tx.b_tuple (ox_borS (pv 0)))) (ex_callTy call_tuple_of on_tuple tx.b_tuple (ax_cons (ox_tmp (ex_lc (own := [("_law_part_here", 1)]) (by decide) rfl sc__law_copied.nd (ix_seq' (ex_use (pv 0))) (blkOk_by (own := [("_law_part_here", 1)]) (by rfl)) (fun _ _ _ _ _ => (gx_name sc__law_copied.nd rfl (by first | exact Or.inl rfl | exact Or.inr rfl))) (fun _ _ _ _ _ => tsx_nil) (fun _ _ _ _ _ => (ex_call R_ (hr.mono (by omega)) (ax_cons (ox_borS (pv 1)) ax_nil) (aCons_len aNil_len))))) ax_nil)) (ex_use (pv 0)))))))) n
/-! _law_marked -/
def d__law_marked : Nat → DF := d_mark "a mark"
theorem sc__law_marked : FnScope ["_law_thing", "_law_part_here"] ["_law_thing"] (defScope (top 49)) := ⟨rfl, rfl, rfl, by decide +kernel, rfl, by decide +kernel, by decide +kernel⟩
theorem ok__law_marked (tx : Txt K w mg) {f : Addr} {fd : FuncData} (F : FnP K "_law_marked" (top 49) f fd) (hm : mg "_law_marked" = some (.ref f)) (hb : Binds K fd ["_law_thing"] []) (n : Nat) : FnOk P w K mg base CX0 (0 + n) f fd ["_law_thing"] (spT K ca 1 (d__law_marked n)) :=
  fn_mark F sc__law_marked (fun sp k hk R0 cdv A outer s H E hr =>
    pss_cons (ps_if (pt_val (pe_is2 tx.b_isinstance tx.b_list tx.b_tuple (pv 0)) (by intro _; rfl)) (pss_one (ps_for PassesOwn.never rfl (TL.pi_seq (pe_callTy call_list_of rfl tx.b_list (by decide +kernel) (pa_cons (pv 0) pa_nil))) (pg_name sc__law_marked.nd rfl (by first | exact Or.inl rfl | exact Or.inr rfl)) (pss_one (ps_expr (pe_call R0 hr rfl hm F.kp hb .nil pass0 (pa_cons (pv 1) pa_nil)))) (by intro _; rfl))) pss_nil)
      (pss_cons (ps_if (pt_val (pe_is1 tx.b_isinstance tx.b_list (pv 0)) (by intro _; rfl)) (pss_one (ps_expr (pe_bm PySem.F.plainAttrs_list PySem.F.slot_list_append PySem.F.type_list_append mt_append (pv 0) (pa_cons pe_str pa_nil)))) pss_nil) (pss_one (ps_ret (pv 0))))) n
/-! _law_pounds -/
def b__law_pounds : DS :=
    (sSeq (sAsg (d2 fIxA (oTmp (dLst (aCons (oTmp (dC (.int 0))) (aCons (oTmp (dC (.int 1))) (aCons (oTmp (dC (.int 13))) aNil))))) (oTmp (dCall d__law_take (aCons (oBorS 0) (aCons (oTmp (dC (.int 3))) aNil))))) (gNm 1))
    (sSeq (sAsg (dLst (aCons (oTmp (dUse 1)) (aCons (oTmp (d2 fSub (oTmp (d2 fPow (oTmp (dC (.int 10))) (oTmp (dC (.int 6))))) (oBorS 1))) (aCons (oTmp (d2 fAdd (oTmp (d2 fMul (oTmp (dC (.int 14))) (oTmp (dCall d__law_take (aCons (oBorS 0) (aCons (oTmp (dC (.int 60))) aNil)))))) (oBorS 1))) (aCons (oTmp (d2 fAdd (oTmp (d2 fMul (oTmp (dC (.int 112))) (oTmp (dCall d__law_take (aCons (oBorS 0) (aCons (oTmp (dC (.int 60))) aNil)))))) (oBorS 1))) aNil))))) (gNm 2))
    (sRet (d2 fIxA (oTmp (d2 fAdd (oBorS 2) (oTmp (dLst (aCons (oTmp (dCall d__law_take (aCons (oBorS 0) (aCons (oTmp (d2 fAdd (oTmp (d2 fPow (oTmp (dC (.int 10))) (oTmp (dC (.int 6))))) (oTmp (dC (.int 1))))) aNil)))) (aCons (oTmp (dCall d__law_take (aCons (oBorS 0) (aCons (oTmp (dC (.int 300))) aNil)))) aNil)))))) (oTmp (dCall d__law_take (aCons (oBorS 0) (aCons (oTmp (dC (.int 6))) aNil))))))))
def d__law_pounds : DF := dFn 3 b__law_pounds
theorem sc__law_pounds : FnScope ["_law_box_here", "_law_near", "_law_some"] ["_law_box_here"] (defScope (top 50)) := ⟨rfl, rfl, rfl, by decide +kernel, rfl, by decide +kernel, by decide +kernel⟩
theorem ok__law_pounds (tx : Txt K w mg) {f : Addr} {fd : FuncData} (F : FnP K "_law_pounds" (top 50) f fd) (C__law_take : Callee P w K mg base ca "_law_take" ["_law_box_here", "_law_many"] 1 d__law_take) : FnOk P w K mg base CX0 2 f fd ["_law_box_here"] (spT K ca 1 d__law_pounds) :=
  fn_okD F sc__law_pounds (by decide) (fun cdv A outer s H E hr =>
    (bx_cons (sx_set (i := 1) sc__law_pounds.nd rfl (by first | exact Or.inl rfl | exact Or.inr rfl) (ex_ixA hr.units (ox_tmp (ex_lst (ax_cons (ox_tmp ex_int) (ax_cons (ox_tmp ex_int) (ax_cons (ox_tmp ex_int) ax_nil))))) (ox_tmp (ex_call C__law_take (hr.mono (by omega)) (ax_cons (ox_borS (pv 0)) (ax_cons (ox_tmp ex_int) ax_nil)) (aCons_len (aCons_len aNil_len)))) (fun _ _ => rfl)))
    (bx_cons (sx_set (i := 2) sc__law_pounds.nd rfl (by first | exact Or.inl rfl | exact Or.inr rfl) (ex_lst (ax_cons (ox_tmp (ex_use (pv 1))) (ax_cons (ox_tmp (ex_op op_sub o2_sub (ox_tmp (ex_op op_pow o2_pow (ox_tmp ex_int) (ox_tmp ex_int))) (ox_borS (pv 1)))) (ax_cons (ox_tmp (ex_op op_addAny o2_add (ox_tmp (ex_op op_mulAny o2_mul (ox_tmp ex_int) (ox_tmp (ex_call C__law_take (hr.mono (by omega)) (ax_cons (ox_borS (pv 0)) (ax_cons (ox_tmp ex_int) ax_nil)) (aCons_len (aCons_len aNil_len)))))) (ox_borS (pv 1)))) (ax_cons (ox_tmp (ex_op op_addAny o2_add (ox_tmp (ex_op op_mulAny o2_mul (ox_tmp ex_int) (ox_tmp (ex_call C__law_take (hr.mono (by omega)) (ax_cons (ox_borS (pv 0)) (ax_cons (ox_tmp ex_int) ax_nil)) (aCons_len (aCons_len aNil_len)))))) (ox_borS (pv 1)))) ax_nil))))))
    (bx_one (sx_ret (ex_ixA hr.units (ox_tmp (ex_op op_addAny o2_add (ox_borS (pv 2)) (ox_tmp (ex_lst (ax_cons (ox_tmp (ex_call C__law_take (hr.mono (by omega)) (ax_cons (ox_borS (pv 0)) (ax_cons (ox_tmp (ex_op op_addAny o2_add (ox_tmp (ex_op op_pow o2_pow (ox_tmp ex_int) (ox_tmp ex_int))) (ox_tmp ex_int))) ax_nil)) (aCons_len (aCons_len aNil_len)))) (ax_cons (ox_tmp (ex_call C__law_take (hr.mono (by omega)) (ax_cons (ox_borS (pv 0)) (ax_cons (ox_tmp ex_int) ax_nil)) (aCons_len (aCons_len aNil_len)))) ax_nil)))))) (ox_tmp (ex_call C__law_take (hr.mono (by omega)) (ax_cons (ox_borS (pv 0)) (ax_cons (ox_tmp ex_int) ax_nil)) (aCons_len (aCons_len aNil_len)))) (fun _ _ => rfl)))))))
/-! _law_world -/
def b__law_world : DS :=
    (sSeq (sAsg (d2 fEq (oTmp (dCall d__law_take (aCons (oBorS 0) (aCons (oTmp (dC (.int 4))) aNil)))) (oTmp (dC (.int 0)))) (gNm 1))
    (sSeq (sAsg (dLst (aCons (oTmp (d2 fAdd (oTmp (dC (.int 1))) (oTmp (dCall d__law_take (aCons (oBorS 0) (aCons (oTmp (dC (.int 3))) aNil)))))) (aCons (oTmp (d2 fAdd (oTmp (dC (.int 1))) (oTmp (dCall d__law_take (aCons (oBorS 0) (aCons (oTmp (dC (.int 4))) aNil)))))) (aCons (oTmp (d2 fAdd (oTmp (dC (.int 2))) (oTmp (dCall d__law_take (aCons (oBorS 0) (aCons (oTmp (dC (.int 3))) aNil)))))) (aCons (oTmp (dC (.int 2))) aNil))))) (gNm 2))
    (sSeq (sAsg (dLc [4] (iSeq (dIfD (tOf (dGet 1)) (dLst (aCons (oTmp (dC (.int 8))) (aCons (oTmp (dC (.int 24))) (aCons (oTmp (dC (.int 10))) (aCons (oTmp (dC (.int 16))) aNil))))) (dUse 2))) (gNm 4) tYesD (dCall d__law_names (aCons (oBorS 0) (aCons (oBorS 4) aNil)))) (gNm 3))
    (sSeq (sIf (tOf (d2 fEq (oTmp (dCall d__law_take (aCons (oBorS 0) (aCons (oTmp (dC (.int 4))) aNil)))) (oTmp (dC (.int 0))))) (sAsg (dLst (aCons (oTmp (d3 fSl (oTmp (d2 fIxA (oAuto 3) (oTmp (dC (.int 2))))) pNone (pSome (dC (.int 8))))) (aCons (oTmp (d2 fIxA (oAuto 3) (oTmp (dC (.int 2))))) (aCons (oTmp (d2 fIxA (oAuto 3) (oTmp (dC (.int 2))))) (aCons (oTmp (d2 fIxA (oAuto 3) (oTmp (dC (.int 2))))) aNil))))) (gNm 3)) sNil)
    (sRet (dDic [((dC (.str "hands")), (d2 fIxA (oAuto 3) (oTmp (dC (.int 0))))), ((dC (.str "loads")), (d2 fIxA (oAuto 3) (oTmp (dC (.int 1))))), ((dC (.str "camps")), (d2 fIxA (oAuto 3) (oTmp (dC (.int 2))))), ((dC (.str "ways")), (d2 fIxA (oAuto 3) (oTmp (dC (.int 3)))))]))))))
def d__law_world : DF := dFn 5 b__law_world
theorem sc__law_world : FnScope ["_law_box_here", "_law_great", "_law_sizes", "_law_pools", "_law_many"] ["_law_box_here"] (defScope (top 51)) := ⟨rfl, rfl, rfl, by decide +kernel, rfl, by decide +kernel, by decide +kernel⟩
theorem ok__law_world (tx : Txt K w mg) {f : Addr} {fd : FuncData} (F : FnP K "_law_world" (top 51) f fd) (C__law_take : Callee P w K mg base ca "_law_take" ["_law_box_here", "_law_many"] 1 d__law_take) (C__law_names : Callee P w K mg base ca "_law_names" ["_law_box_here", "_law_many"] 2 d__law_names) : FnOk P w K mg base CX0 3 f fd ["_law_box_here"] (spT K ca 1 d__law_world) :=
  fn_okD F sc__law_world (by decide) (fun cdv A outer s H E hr =>
    (bx_cons (sx_set (i := 1) sc__law_world.nd rfl (by first | exact Or.inl rfl | exact Or.inr rfl) (ex_cmp (op_eqA hr.units) o2_eq (ox_tmp (ex_call C__law_take (hr.mono (by omega)) (ax_cons (ox_borS (pv 0)) (ax_cons (ox_tmp ex_int) ax_nil)) (aCons_len (aCons_len aNil_len)))) (ox_tmp ex_int) (nomark _)))
    (bx_cons (sx_set (i := 2) sc__law_world.nd rfl (by first | exact Or.inl rfl | exact Or.inr rfl) (ex_lst (ax_cons (ox_tmp (ex_op op_addAny o2_add (ox_tmp ex_int) (ox_tmp (ex_call C__law_take (hr.mono (by omega)) (ax_cons (ox_borS (pv 0)) (ax_cons (ox_tmp ex_int) ax_nil)) (aCons_len (aCons_len aNil_len)))))) (ax_cons (ox_tmp (ex_op op_addAny o2_add (ox_tmp ex_int) (ox_tmp (ex_call C__law_take (hr.mono (by omega)) (ax_cons (ox_borS (pv 0)) (ax_cons (ox_tmp ex_int) ax_nil)) (aCons_len (aCons_len aNil_len)))))) (ax_cons (ox_tmp (ex_op op_addAny o2_add (ox_tmp ex_int) (ox_tmp (ex_call C__law_take (hr.mono (by omega)) (ax_cons (ox_borS (pv 0)) (ax_cons (ox_tmp ex_int) ax_nil)) (aCons_len (aCons_len aNil_len)))))) (ax_cons (ox_tmp ex_int) ax_nil))))))
    (bx_cons (sx_setLc (i := 3) (own := [("_law_many", 4)]) (by decide) rfl sc__law_world.nd rfl rfl (sw_true rfl rfl rfl (by decide +kernel)) (ix_seq' (ex_ifx (tx_val (ex_get (pv 1))) (ex_lst (ax_cons (ox_tmp ex_int) (ax_cons (ox_tmp ex_int) (ax_cons (ox_tmp ex_int) (ax_cons (ox_tmp ex_int) ax_nil))))) (ex_use (pv 2)))) (blkOk_by (own := [("_law_many", 4)]) (by rfl)) (fun _ _ _ _ _ => (gx_name sc__law_world.nd rfl (by first | exact Or.inl rfl | exact Or.inr rfl))) (fun _ _ _ _ _ => tsx_nil) (fun _ _ _ _ _ => (ex_call C__law_names (hr.mono (by omega)) (ax_cons (ox_borS (pv 0)) (ax_cons (ox_borS (pv 4)) ax_nil)) (aCons_len (aCons_len aNil_len)))))
    (bx_cons (sx_if (tx_cmp (op_eqA hr.units) o2_eq (ox_tmp (ex_call C__law_take (hr.mono (by omega)) (ax_cons (ox_borS (pv 0)) (ax_cons (ox_tmp ex_int) ax_nil)) (aCons_len (aCons_len aNil_len)))) (ox_tmp ex_int) (nomark _)) (bx_one (sx_set (i := 3) sc__law_world.nd rfl (by first | exact Or.inl rfl | exact Or.inr rfl) (ex_lst (ax_cons (ox_tmp (ex_sl (ox_tmp (ex_ixA hr.units (ox_auto (pv 3)) (ox_tmp ex_int) (fun _ _ => rfl))) px_none (px_some ex_int))) (ax_cons (ox_tmp (ex_ixA hr.units (ox_auto (pv 3)) (ox_tmp ex_int) (fun _ _ => rfl))) (ax_cons (ox_tmp (ex_ixA hr.units (ox_auto (pv 3)) (ox_tmp ex_int) (fun _ _ => rfl))) (ax_cons (ox_tmp (ex_ixA hr.units (ox_auto (pv 3)) (ox_tmp ex_int) (fun _ _ => rfl))) ax_nil))))))) bx_nil)
    (bx_one (sx_ret (ex_dic (px_cons ex_str (ex_ixA hr.units (ox_auto (pv 3)) (ox_tmp ex_int) (fun _ _ => rfl)) (px_cons ex_str (ex_ixA hr.units (ox_auto (pv 3)) (ox_tmp ex_int) (fun _ _ => rfl)) (px_cons ex_str (ex_ixA hr.units (ox_auto (pv 3)) (ox_tmp ex_int) (fun _ _ => rfl)) (px_cons ex_str (ex_ixA hr.units (ox_auto (pv 3)) (ox_tmp ex_int) (fun _ _ => rfl)) px_nil))))))))))))
/-! _law_one_of -/
def b__law_one_of : DS :=
    (sRet (d2 fIxA (oAuto 1) (oTmp (dCall d__law_take (aCons (oBorS 0) (aCons (oTmp (dB fLen (aCons (oBorS 1) aNil))) aNil))))))
def d__law_one_of : DF := dFn 2 b__law_one_of
theorem sc__law_one_of : FnScope ["_law_box_here", "_law_some"] ["_law_box_here", "_law_some"] (defScope (top 52)) := ⟨rfl, rfl, rfl, by decide +kernel, rfl, by decide +kernel, by decide +kernel⟩
theorem ok__law_one_of (tx : Txt K w mg) {f : Addr} {fd : FuncData} (F : FnP K "_law_one_of" (top 52) f fd) (C__law_take : Callee P w K mg base ca "_law_take" ["_law_box_here", "_law_many"] 1 d__law_take) : FnOk P w K mg base CX0 2 f fd ["_law_box_here", "_law_some"] (spT K ca 2 d__law_one_of) :=
  fn_okD F sc__law_one_of (by decide) (fun cdv A outer s H E hr =>
    (bx_one (sx_ret (ex_ixA hr.units (ox_auto (pv 1)) (ox_tmp (ex_call C__law_take (hr.mono (by omega)) (ax_cons (ox_borS (pv 0)) (ax_cons (ox_tmp (ex_callB call_lenAny on_len tx.b_len (ax_cons (ox_borS (pv 1)) ax_nil))) ax_nil)) (aCons_len (aCons_len aNil_len)))) (fun _ _ => rfl)))))
/-! _law_days_of -/
def b__law_days_of : DS :=
    (sSeq (sAsg (dB fMin (aCons (oTmp (dC (.int 199))) (aCons (oTmp (d2 fAdd (oBorS 1) (oTmp (d2 fIxA (oTmp (dLst (aCons (oTmp (dC (.int 0))) (aCons (oTmp (dC (.int 0))) (aCons (oTmp (dC (.int 1))) (aCons (oTmp (dCall d__law_take (aCons (oBorS 0) (aCons (oTmp (dC (.int 200))) aNil)))) aNil)))))) (oTmp (dCall d__law_take (aCons (oBorS 0) (aCons (oTmp (dC (.int 4))) aNil)))))))) aNil))) (gNm 2))
    (sRet (dTup (aCons (oTmp (dUse 2)) (aCons (oTmp (dB fMin (aCons (oTmp (dC (.int 199))) (aCons (oTmp (d2 fAdd (oBorS 2) (oTmp (d2 fIxA (oTmp (dLst (aCons (oTmp (dC (.int 0))) (aCons (oTmp (dC (.int 0))) (aCons (oTmp (dC (.int 1))) (aCons (oTmp (dCall d__law_take (aCons (oBorS 0) (aCons (oTmp (dC (.int 200))) aNil)))) aNil)))))) (oTmp (dCall d__law_take (aCons (oBorS 0) (aCons (oTmp (dC (.int 4))) aNil)))))))) aNil)))) aNil)))))
def d__law_days_of : DF := dFn 3 b__law_days_of
theorem sc__law_days_of : FnScope ["_law_box_here", "_law_day", "_law_first"] ["_law_box_here", "_law_day"] (defScope (top 53)) := ⟨rfl, rfl, rfl, by decide +kernel, rfl, by decide +kernel, by decide +kernel⟩
theorem ok__law_days_of (tx : Txt K w mg) {f : Addr} {fd : FuncData} (F : FnP K "_law_days_of" (top 53) f fd) (C__law_take : Callee P w K mg base ca "_law_take" ["_law_box_here", "_law_many"] 1 d__law_take) : FnOk P w K mg base CX0 2 f fd ["_law_box_here", "_law_day"] (spT K ca 2 d__law_days_of) :=
  fn_okD F sc__law_days_of (by decide) (fun cdv A outer s H E hr =>
    (bx_cons (sx_set (i := 2) sc__law_days_of.nd rfl (by first | exact Or.inl rfl | exact Or.inr rfl) (ex_callB (TL.CallR.or (cr_min rfl) (call_min2 rfl)) on_min tx.b_min (ax_cons (ox_tmp ex_int) (ax_cons (ox_tmp (ex_op op_addAny o2_add (ox_borS (pv 1)) (ox_tmp (ex_ixA hr.units (ox_tmp (ex_lst (ax_cons (ox_tmp ex_int) (ax_cons (ox_tmp ex_int) (ax_cons (ox_tmp ex_int) (ax_cons (ox_tmp (ex_call C__law_take (hr.mono (by omega)) (ax_cons (ox_borS (pv 0)) (ax_cons (ox_tmp ex_int) ax_nil)) (aCons_len (aCons_len aNil_len)))) ax_nil)))))) (ox_tmp (ex_call C__law_take (hr.mono (by omega)) (ax_cons (ox_borS (pv 0)) (ax_cons (ox_tmp ex_int) ax_nil)) (aCons_len (aCons_len aNil_len)))) (fun _ _ => rfl))))) ax_nil))))
    (bx_one (sx_ret (ex_tup (ax_cons (ox_tmp (ex_use (pv 2))) (ax_cons (ox_tmp (ex_callB (TL.CallR.or (cr_min rfl) (call_min2 rfl)) on_min tx.b_min (ax_cons (ox_tmp ex_int) (ax_cons (ox_tmp (ex_op op_addAny o2_add (ox_borS (pv 2)) (ox_tmp (ex_ixA hr.units (ox_tmp (ex_lst (ax_cons (ox_tmp ex_int) (ax_cons (ox_tmp ex_int) (ax_cons (ox_tmp ex_int) (ax_cons (ox_tmp (ex_call C__law_take (hr.mono (by omega)) (ax_cons (ox_borS (pv 0)) (ax_cons (ox_tmp ex_int) ax_nil)) (aCons_len (aCons_len aNil_len)))) ax_nil)))))) (ox_tmp (ex_call C__law_take (hr.mono (by omega)) (ax_cons (ox_borS (pv 0)) (ax_cons (ox_tmp ex_int) ax_nil)) (aCons_len (aCons_len aNil_len)))) (fun _ _ => rfl))))) ax_nil)))) ax_nil)))))))
/-! _law_part -/
def b__law_part : DS :=
    (sSeq (sPar 4 5 (aCons (oTmp (dCall d__law_one_of (aCons (oBorS 0) (aCons (oTmp (d2 fIxA (oAuto 1) (oTmp (dC (.str "ways"))))) aNil)))) (aCons (oTmp (dCall d__law_one_of (aCons (oBorS 0) (aCons (oTmp (d2 fIxA (oAuto 1) (oTmp (dC (.str "hands"))))) aNil)))) aNil)))
    (sSeq (sAsg (dCall d__law_one_of (aCons (oBorS 0) (aCons (oTmp (d2 fIxA (oAuto 1) (oTmp (dC (.str "loads"))))) aNil))) (gNm 3))
    (sSeq (sPar3 6 7 8 (aCons (oTmp (dCall d__law_take (aCons (oBorS 0) (aCons (oTmp (dB fLen (aCons (oTmp (d2 fIxA (oAuto 1) (oTmp (dC (.str "camps"))))) aNil))) aNil)))) (aCons (oTmp (dCall d__law_take (aCons (oBorS 0) (aCons (oTmp (dC (.int 14))) aNil)))) (aCons (oTmp (d2 fIxA (oAuto 1) (oTmp (dC (.str "camps"))))) aNil))))
    (sSeq (sPar 9 10 (aCons (oTmp (d2 fIxA (oAuto 8) (oBorS 6))) (aCons (oTmp (d2 fIxA (oAuto 8) (oTmp (d2 fMod (oTmp (d2 fAdd (oTmp (d2 fAdd (oBorS 6) (oTmp (dC (.int 1))))) (oTmp (dCall d__law_take (aCons (oBorS 0) (aCons (oTmp (d2 fSub (oTmp (dB fLen (aCons (oBorS 8) aNil))) (oTmp (dC (.int 1))))) aNil)))))) (oTmp (dB fLen (aCons (oBorS 8) aNil))))))) aNil)))
    (sSeq (sIf (tOf (d2 fLt (oBorS 7) (oTmp (dC (.int 3))))) (sSeq (sAsg (dLst (aCons (oTmp (dCall d__law_pounds (aCons (oBorS 0) aNil))) (aCons (oTmp (dCall d__law_pounds (aCons (oBorS 0) aNil))) (aCons (oTmp (dCall d__law_pounds (aCons (oBorS 0) aNil))) aNil)))) (gNm 11))
    (sRet (dTup (aCons (oTmp (dC (.str "hand"))) (aCons (oTmp (dMov 5)) (aCons (oTmp (d2 fIxA (oAuto 11) (oTmp (dC (.int 0))))) (aCons (oTmp (d2 fIxA (oAuto 11) (oTmp (dC (.int 1))))) (aCons (oTmp (d2 fIxA (oAuto 11) (oTmp (dC (.int 2))))) (aCons (oTmp (d2 fIxA (oTmp (dLst (aCons (oTmp (dC (.int 0))) (aCons (oTmp (dC (.int 9))) (aCons (oTmp (dCall d__law_take (aCons (oBorS 0) (aCons (oTmp (dC (.int 10))) aNil)))) aNil))))) (oTmp (dCall d__law_take (aCons (oBorS 0) (aCons (oTmp (dC (.int 3))) aNil)))))) aNil))))))))) sNil)
    (sSeq (sIf (tOf (d2 fLt (oBorS 7) (oTmp (dC (.int 5))))) (sRet (d2 fIxA (oTmp (dLst (aCons (oTmp (dTup (aCons (oTmp (dC (.str "off"))) (aCons (oTmp (dUse 5)) aNil)))) (aCons (oTmp (dTup (aCons (oTmp (dC (.str "load"))) (aCons (oTmp (dUse 3)) (aCons (oTmp (dB fMax (aCons (oTmp (dC (.int 1))) (aCons (oTmp (dCall d__law_pounds (aCons (oBorS 0) aNil))) aNil)))) (aCons (oTmp (dUse 9)) aNil)))))) aNil)))) (oTmp (d2 fSub (oBorS 7) (oTmp (dC (.int 3))))))) sNil)
    (sSeq (sIf (tOf (d2 fEq (oBorS 7) (oTmp (dC (.int 5))))) (sRet (dTup (aCons (oTmp (dC (.str "canoe"))) (aCons (oTmp (dMov 3)) (aCons (oTmp (dB fMax (aCons (oTmp (dC (.int 1))) (aCons (oTmp (dCall d__law_pounds (aCons (oBorS 0) aNil))) aNil)))) (aCons (oTmp (dCall d__law_pounds (aCons (oBorS 0) aNil))) (aCons (oTmp (dMov 9)) aNil))))))) sNil)
    (sSeq (sIf (tOf (d2 fLt (oBorS 7) (oTmp (dC (.int 8))))) (sSeq (sPar 13 14 (aCons (oTmp (d2 fIxA (oTmp (dLst (aCons (oTmp (dC (.int 1))) (aCons (oTmp (dC (.int 320))) (aCons (oTmp (d2 fPow (oTmp (dC (.int 10))) (oTmp (dC (.int 4))))) (aCons (oTmp (d2 fAdd (oTmp (dC (.int 1))) (oTmp (dCall d__law_take (aCons (oBorS 0) (aCons (oTmp (d2 fPow (oTmp (dC (.int 10))) (oTmp (dC (.int 4))))) aNil)))))) aNil)))))) (oTmp (dCall d__law_take (aCons (oBorS 0) (aCons (oTmp (dC (.int 4))) aNil)))))) (aCons (oTmp (d2 fAdd (oTmp (dC (.int 1))) (oTmp (dCall d__law_take (aCons (oBorS 0) (aCons (oTmp (dC (.int 9))) aNil)))))) aNil)))
    (sRet (dTup (aCons (oTmp (dC (.str "way"))) (aCons (oTmp (dMov 4)) (aCons (oTmp (dMov 9)) (aCons (oTmp (dMov 10)) (aCons (oTmp (d2 fIxA (oTmp (dLst (aCons (oTmp (dC (.str "land"))) (aCons (oTmp (dC (.str "water"))) aNil)))) (oTmp (d2 fSub (oBorS 7) (oTmp (dC (.int 6))))))) (aCons (oTmp (dMov 13)) (aCons (oTmp (dMov 14)) aNil)))))))))) sNil)
    (sSeq (sIf (tOf (d2 fLt (oBorS 7) (oTmp (dC (.int 10))))) (sRet (d2 fIxA (oTmp (dLst (aCons (oTmp (d2 fAdd (oTmp (dTup (aCons (oTmp (dC (.str "shut"))) (aCons (oTmp (dUse 4)) aNil)))) (oTmp (dCall d__law_days_of (aCons (oBorS 0) (aCons (oBorS 2) aNil)))))) (aCons (oTmp (d2 fAdd (oTmp (dTup (aCons (oTmp (dC (.str "storm"))) aNil))) (oTmp (dCall d__law_days_of (aCons (oBorS 0) (aCons (oBorS 2) aNil)))))) aNil)))) (oTmp (d2 fSub (oBorS 7) (oTmp (dC (.int 8))))))) sNil)
    (sSeq (sIf (tOf (d2 fLt (oBorS 7) (oTmp (dC (.int 12))))) (sSeq (sAsg (d2 fIxA (oTmp (dLst (aCons (oTmp (dC (.int 1))) (aCons (oTmp (dC (.int 4000))) (aCons (oTmp (d2 fAdd (oTmp (dC (.int 1))) (oTmp (dCall d__law_take (aCons (oBorS 0) (aCons (oTmp (dC (.int 4000))) aNil)))))) aNil))))) (oTmp (dCall d__law_take (aCons (oBorS 0) (aCons (oTmp (dC (.int 3))) aNil))))) (gNm 12))
    (sRet (d2 fIxA (oTmp (dLst (aCons (oTmp (dTup (aCons (oTmp (dC (.str "store"))) (aCons (oTmp (dUse 9)) (aCons (oTmp (dUse 12)) aNil))))) (aCons (oTmp (dTup (aCons (oTmp (dC (.str "fill"))) (aCons (oTmp (dUse 12)) aNil)))) aNil)))) (oTmp (d2 fSub (oBorS 7) (oTmp (dC (.int 10)))))))) sNil)
    (sRet (d2 fIxA (oTmp (dLst (aCons (oTmp (dTup (aCons (oTmp (d2 fIxA (oTmp (dLst (aCons (oTmp (dC (.str "take"))) (aCons (oTmp (dC (.str "leave"))) aNil)))) (oTmp (dCall d__law_take (aCons (oBorS 0) (aCons (oTmp (dC (.int 2))) aNil)))))) (aCons (oTmp (dUse 3)) aNil)))) (aCons (oTmp (dTup (aCons (oTmp (dC (.str "go"))) (aCons (oTmp (dUse 4)) aNil)))) aNil)))) (oTmp (d2 fSub (oBorS 7) (oTmp (dC (.int 12)))))))))))))))))
def d__law_part : DF := dFn 15 b__law_part
theorem sc__law_part : FnScope ["_law_box_here", "_law_world_here", "_law_day", "_law_load", "_law_way", "_law_hand", "_law_at", "_law_pick", "_law_camps", "_law_camp", "_law_other", "_law_strong", "_law_rations", "_law_long", "_law_hard"] ["_law_box_here", "_law_world_here", "_law_day"] (defScope (top 54)) := ⟨rfl, rfl, rfl, by decide +kernel, rfl, by decide +kernel, by decide +kernel⟩
theorem ok__law_part (tx : Txt K w mg) {f : Addr} {fd : FuncData} (F : FnP K "_law_part" (top 54) f fd) (C__law_one_of : Callee P w K mg base ca "_law_one_of" ["_law_box_here", "_law_some"] 2 d__law_one_of) (C__law_take : Callee P w K mg base ca "_law_take" ["_law_box_here", "_law_many"] 1 d__law_take) (C__law_pounds : Callee P w K mg base ca "_law_pounds" ["_law_box_here"] 2 d__law_pounds) (C__law_days_of : Callee P w K mg base ca "_law_days_of" ["_law_box_here", "_law_day"] 2 d__law_days_of) : FnOk P w K mg base CX0 3 f fd ["_law_box_here", "_law_world_here", "_law_day"] (spT K ca 3 d__law_part) :=
  fn_okD F sc__law_part (by decide) (fun cdv A outer s H E hr =>
    (bx_cons (sx_par rfl sc__law_part.nd rfl rfl (by decide) rfl rfl (ax_cons (ox_tmp (ex_call C__law_one_of (hr.mono (by omega)) (ax_cons (ox_borS (pv 0)) (ax_cons (ox_tmp (ex_ixA hr.units (ox_auto (pv 1)) (ox_tmp ex_str) (fun _ _ => rfl))) ax_nil)) (aCons_len (aCons_len aNil_len)))) (ax_cons (ox_tmp (ex_call C__law_one_of (hr.mono (by omega)) (ax_cons (ox_borS (pv 0)) (ax_cons (ox_tmp (ex_ixA hr.units (ox_auto (pv 1)) (ox_tmp ex_str) (fun _ _ => rfl))) ax_nil)) (aCons_len (aCons_len aNil_len)))) ax_nil)) (by rfl))
    (bx_cons (sx_set (i := 3) sc__law_part.nd rfl (by first | exact Or.inl rfl | exact Or.inr rfl) (ex_call C__law_one_of (hr.mono (by omega)) (ax_cons (ox_borS (pv 0)) (ax_cons (ox_tmp (ex_ixA hr.units (ox_auto (pv 1)) (ox_tmp ex_str) (fun _ _ => rfl))) ax_nil)) (aCons_len (aCons_len aNil_len))))
    (bx_cons (sx_par3 rfl sc__law_part.nd rfl rfl rfl (by decide) (by decide) (by decide) rfl rfl rfl (ax_cons (ox_tmp (ex_call C__law_take (hr.mono (by omega)) (ax_cons (ox_borS (pv 0)) (ax_cons (ox_tmp (ex_callB call_lenAny on_len tx.b_len (ax_cons (ox_tmp (ex_ixA hr.units (ox_auto (pv 1)) (ox_tmp ex_str) (fun _ _ => rfl))) ax_nil))) ax_nil)) (aCons_len (aCons_len aNil_len)))) (ax_cons (ox_tmp (ex_call C__law_take (hr.mono (by omega)) (ax_cons (ox_borS (pv 0)) (ax_cons (ox_tmp ex_int) ax_nil)) (aCons_len (aCons_len aNil_len)))) (ax_cons (ox_tmp (ex_ixA hr.units (ox_auto (pv 1)) (ox_tmp ex_str) (fun _ _ => rfl))) ax_nil))) (by rfl))
    (bx_cons (sx_par rfl sc__law_part.nd rfl rfl (by decide) rfl rfl (ax_cons (ox_tmp (ex_ixA hr.units (ox_auto (pv 8)) (ox_borS (pv 6)) (fun _ _ => rfl))) (ax_cons (ox_tmp (ex_ixA hr.units (ox_auto (pv 8)) (ox_tmp (ex_op op_mod o2_mod (ox_tmp (ex_op op_addAny o2_add (ox_tmp (ex_op op_addAny o2_add (ox_borS (pv 6)) (ox_tmp ex_int))) (ox_tmp (ex_call C__law_take (hr.mono (by omega)) (ax_cons (ox_borS (pv 0)) (ax_cons (ox_tmp (ex_op op_sub o2_sub (ox_tmp (ex_callB call_lenAny on_len tx.b_len (ax_cons (ox_borS (pv 8)) ax_nil))) (ox_tmp ex_int))) ax_nil)) (aCons_len (aCons_len aNil_len)))))) (ox_tmp (ex_callB call_lenAny on_len tx.b_len (ax_cons (ox_borS (pv 8)) ax_nil))))) (fun _ _ => rfl))) ax_nil)) (by rfl))
    (bx_cons (sx_if (tx_cmp op_ltA o2_lt (ox_borS (pv 7)) (ox_tmp ex_int) (nomark _)) (bx_cons (sx_set (i := 11) sc__law_part.nd rfl (by first | exact Or.inl rfl | exact Or.inr rfl) (ex_lst (ax_cons (ox_tmp (ex_call C__law_pounds (hr.mono (by omega)) (ax_cons (ox_borS (pv 0)) ax_nil) (aCons_len aNil_len))) (ax_cons (ox_tmp (ex_call C__law_pounds (hr.mono (by omega)) (ax_cons (ox_borS (pv 0)) ax_nil) (aCons_len aNil_len))) (ax_cons (ox_tmp (ex_call C__law_pounds (hr.mono (by omega)) (ax_cons (ox_borS (pv 0)) ax_nil) (aCons_len aNil_len))) ax_nil)))))
    (bx_one (sx_ret (ex_tup (ax_cons (ox_tmp ex_str) (ax_cons (ox_tmp (ex_mov (pv 5))) (ax_cons (ox_tmp (ex_ixA hr.units (ox_auto (pv 11)) (ox_tmp ex_int) (fun _ _ => rfl))) (ax_cons (ox_tmp (ex_ixA hr.units (ox_auto (pv 11)) (ox_tmp ex_int) (fun _ _ => rfl))) (ax_cons (ox_tmp (ex_ixA hr.units (ox_auto (pv 11)) (ox_tmp ex_int) (fun _ _ => rfl))) (ax_cons (ox_tmp (ex_ixA hr.units (ox_tmp (ex_lst (ax_cons (ox_tmp ex_int) (ax_cons (ox_tmp ex_int) (ax_cons (ox_tmp (ex_call C__law_take (hr.mono (by omega)) (ax_cons (ox_borS (pv 0)) (ax_cons (ox_tmp ex_int) ax_nil)) (aCons_len (aCons_len aNil_len)))) ax_nil))))) (ox_tmp (ex_call C__law_take (hr.mono (by omega)) (ax_cons (ox_borS (pv 0)) (ax_cons (ox_tmp ex_int) ax_nil)) (aCons_len (aCons_len aNil_len)))) (fun _ _ => rfl))) ax_nil)))))))))) bx_nil)
    (bx_cons (sx_if (tx_cmp op_ltA o2_lt (ox_borS (pv 7)) (ox_tmp ex_int) (nomark _)) (bx_one (sx_ret (ex_ixA hr.units (ox_tmp (ex_lst (ax_cons (ox_tmp (ex_tup (ax_cons (ox_tmp ex_str) (ax_cons (ox_tmp (ex_use (pv 5))) ax_nil)))) (ax_cons (ox_tmp (ex_tup (ax_cons (ox_tmp ex_str) (ax_cons (ox_tmp (ex_use (pv 3))) (ax_cons (ox_tmp (ex_callB (TL.CallR.or (cr_max rfl) (call_max2 rfl)) on_max tx.b_max (ax_cons (ox_tmp ex_int) (ax_cons (ox_tmp (ex_call C__law_pounds (hr.mono (by omega)) (ax_cons (ox_borS (pv 0)) ax_nil) (aCons_len aNil_len))) ax_nil)))) (ax_cons (ox_tmp (ex_use (pv 9))) ax_nil)))))) ax_nil)))) (ox_tmp (ex_op op_sub o2_sub (ox_borS (pv 7)) (ox_tmp ex_int))) (fun _ _ => rfl)))) bx_nil)
    (bx_cons (sx_if (tx_cmp (op_eqA hr.units) o2_eq (ox_borS (pv 7)) (ox_tmp ex_int) (nomark _)) (bx_one (sx_ret (ex_tup (ax_cons (ox_tmp ex_str) (ax_cons (ox_tmp (ex_mov (pv 3))) (ax_cons (ox_tmp (ex_callB (TL.CallR.or (cr_max rfl) (call_max2 rfl)) on_max tx.b_max (ax_cons (ox_tmp ex_int) (ax_cons (ox_tmp (ex_call C__law_pounds (hr.mono (by omega)) (ax_cons (ox_borS (pv 0)) ax_nil) (aCons_len aNil_len))) ax_nil)))) (ax_cons (ox_tmp (ex_call C__law_pounds (hr.mono (by omega)) (ax_cons (ox_borS (pv 0)) ax_nil) (aCons_len aNil_len))) (ax_cons (ox_tmp (ex_mov (pv 9))) ax_nil)))))))) bx_nil)
    (bx_cons (sx_if (tx_cmp op_ltA o2_lt (ox_borS (pv 7)) (ox_tmp ex_int) (nomark _)) (bx_cons (sx_par rfl sc__law_part.nd rfl rfl (by decide) rfl rfl (ax_cons (ox_tmp (ex_ixA hr.units (ox_tmp (ex_lst (ax_cons (ox_tmp ex_int) (ax_cons (ox_tmp ex_int) (ax_cons (ox_tmp (ex_op op_pow o2_pow (ox_tmp ex_int) (ox_tmp ex_int))) (ax_cons (ox_tmp (ex_op op_addAny o2_add (ox_tmp ex_int) (ox_tmp (ex_call C__law_take (hr.mono (by omega)) (ax_cons (ox_borS (pv 0)) (ax_cons (ox_tmp (ex_op op_pow o2_pow (ox_tmp ex_int) (ox_tmp ex_int))) ax_nil)) (aCons_len (aCons_len aNil_len)))))) ax_nil)))))) (ox_tmp (ex_call C__law_take (hr.mono (by omega)) (ax_cons (ox_borS (pv 0)) (ax_cons (ox_tmp ex_int) ax_nil)) (aCons_len (aCons_len aNil_len)))) (fun _ _ => rfl))) (ax_cons (ox_tmp (ex_op op_addAny o2_add (ox_tmp ex_int) (ox_tmp (ex_call C__law_take (hr.mono (by omega)) (ax_cons (ox_borS (pv 0)) (ax_cons (ox_tmp ex_int) ax_nil)) (aCons_len (aCons_len aNil_len)))))) ax_nil)) (by rfl))
    (bx_one (sx_ret (ex_tup (ax_cons (ox_tmp ex_str) (ax_cons (ox_tmp (ex_mov (pv 4))) (ax_cons (ox_tmp (ex_mov (pv 9))) (ax_cons (ox_tmp (ex_mov (pv 10))) (ax_cons (ox_tmp (ex_ixA hr.units (ox_tmp (ex_lst (ax_cons (ox_tmp ex_str) (ax_cons (ox_tmp ex_str) ax_nil)))) (ox_tmp (ex_op op_sub o2_sub (ox_borS (pv 7)) (ox_tmp ex_int))) (fun _ _ => rfl))) (ax_cons (ox_tmp (ex_mov (pv 13))) (ax_cons (ox_tmp (ex_mov (pv 14))) ax_nil))))))))))) bx_nil)
    (bx_cons (sx_if (tx_cmp op_ltA o2_lt (ox_borS (pv 7)) (ox_tmp ex_int) (nomark _)) (bx_one (sx_ret (ex_ixA hr.units (ox_tmp (ex_lst (ax_cons (ox_tmp (ex_op op_addAny o2_add (ox_tmp (ex_tup (ax_cons (ox_tmp ex_str) (ax_cons (ox_tmp (ex_use (pv 4))) ax_nil)))) (ox_tmp (ex_call C__law_days_of (hr.mono (by omega)) (ax_cons (ox_borS (pv 0)) (ax_cons (ox_borS (pv 2)) ax_nil)) (aCons_len (aCons_len aNil_len)))))) (ax_cons (ox_tmp (ex_op op_addAny o2_add (ox_tmp (ex_tup (ax_cons (ox_tmp ex_str) ax_nil))) (ox_tmp (ex_call C__law_days_of (hr.mono (by omega)) (ax_cons (ox_borS (pv 0)) (ax_cons (ox_borS (pv 2)) ax_nil)) (aCons_len (aCons_len aNil_len)))))) ax_nil)))) (ox_tmp (ex_op op_sub o2_sub (ox_borS (pv 7)) (ox_tmp ex_int))) (fun _ _ => rfl)))) bx_nil)
    (bx_cons (sx_if (tx_cmp op_ltA o2_lt (ox_borS (pv 7)) (ox_tmp ex_int) (nomark _)) (bx_cons (sx_set (i := 12) sc__law_part.nd rfl (by first | exact Or.inl rfl | exact Or.inr rfl) (ex_ixA hr.units (ox_tmp (ex_lst (ax_cons (ox_tmp ex_int) (ax_cons (ox_tmp ex_int) (ax_cons (ox_tmp (ex_op op_addAny o2_add (ox_tmp ex_int) (ox_tmp (ex_call C__law_take (hr.mono (by omega)) (ax_cons (ox_borS (pv 0)) (ax_cons (ox_tmp ex_int) ax_nil)) (aCons_len (aCons_len aNil_len)))))) ax_nil))))) (ox_tmp (ex_call C__law_take (hr.mono (by omega)) (ax_cons (ox_borS (pv 0)) (ax_cons (ox_tmp ex_int) ax_nil)) (aCons_len (aCons_len aNil_len)))) (fun _ _ => rfl)))
    (bx_one (sx_ret (ex_ixA hr.units (ox_tmp (ex_lst (ax_cons (ox_tmp (ex_tup (ax_cons (ox_tmp ex_str) (ax_cons (ox_tmp (ex_use (pv 9))) (ax_cons (ox_tmp (ex_use (pv 12))) ax_nil))))) (ax_cons (ox_tmp (ex_tup (ax_cons (ox_tmp ex_str) (ax_cons (ox_tmp (ex_use (pv 12))) ax_nil)))) ax_nil)))) (ox_tmp (ex_op op_sub o2_sub (ox_borS (pv 7)) (ox_tmp ex_int))) (fun _ _ => rfl))))) bx_nil)
    (bx_one (sx_ret (ex_ixA hr.units (ox_tmp (ex_lst (ax_cons (ox_tmp (ex_tup (ax_cons (ox_tmp (ex_ixA hr.units (ox_tmp (ex_lst (ax_cons (ox_tmp ex_str) (ax_cons (ox_tmp ex_str) ax_nil)))) (ox_tmp (ex_call C__law_take (hr.mono (by omega)) (ax_cons (ox_borS (pv 0)) (ax_cons (ox_tmp ex_int) ax_nil)) (aCons_len (aCons_len aNil_len)))) (fun _ _ => rfl))) (ax_cons (ox_tmp (ex_use (pv 3))) ax_nil)))) (ax_cons (ox_tmp (ex_tup (ax_cons (ox_tmp ex_str) (ax_cons (ox_tmp (ex_use (pv 4))) ax_nil)))) ax_nil)))) (ox_tmp (ex_op op_sub o2_sub (ox_borS (pv 7)) (ox_tmp ex_int))) (fun _ _ => rfl)))))))))))))))
/-! _law_numbers_of -/
def b__law_numbers_of : DS :=
    (sSeq (sAsg (dTup (aCons (oTmp (dCall d__law_take (aCons (oBorS 0) (aCons (oTmp (dC (.int 9999))) aNil)))) (aCons (oTmp (d2 fIxA (oTmp (dLst (aCons (oTmp (dC (.int 1))) (aCons (oTmp (dC (.int 2))) (aCons (oTmp (dC (.int 5))) (aCons (oTmp (dC (.int 7))) (aCons (oTmp (dC (.int 9998))) aNil))))))) (oTmp (dCall d__law_take (aCons (oBorS 0) (aCons (oTmp (dC (.int 5))) aNil)))))) aNil))) (gTp [(gNm 2), (gNm 3)]))
    (sRet (dLc [4] (iR1 (aCons (oTmp (dGet 1)) aNil)) (gNm 4) tYesD (d2 fAdd (oTmp (dC (.int 1))) (oTmp (d2 fMod (oTmp (d2 fAdd (oBorS 2) (oTmp (d2 fMul (oBorS 3) (oBorS 4))))) (oTmp (dC (.int 9999)))))))))
def d__law_numbers_of : DF := dFn 5 b__law_numbers_of
theorem sc__law_numbers_of : FnScope ["_law_box_here", "_law_many", "_law_first", "_law_step", "_law_k"] ["_law_box_here", "_law_many"] (defScope (top 55)) := ⟨rfl, rfl, rfl, by decide +kernel, rfl, by decide +kernel, by decide +kernel⟩
theorem ok__law_numbers_of (tx : Txt K w mg) {f : Addr} {fd : FuncData} (F : FnP K "_law_numbers_of" (top 55) f fd) (C__law_take : Callee P w K mg base ca "_law_take" ["_law_box_here", "_law_many"] 1 d__law_take) : FnOk P w K mg base CX0 2 f fd ["_law_box_here", "_law_many"] (spT K ca 2 d__law_numbers_of) :=
  fn_okD F sc__law_numbers_of (by decide) (fun cdv A outer s H E hr =>
    (bx_cons (sx_asg (ex_tup (ax_cons (ox_tmp (ex_call C__law_take (hr.mono (by omega)) (ax_cons (ox_borS (pv 0)) (ax_cons (ox_tmp ex_int) ax_nil)) (aCons_len (aCons_len aNil_len)))) (ax_cons (ox_tmp (ex_ixA hr.units (ox_tmp (ex_lst (ax_cons (ox_tmp ex_int) (ax_cons (ox_tmp ex_int) (ax_cons (ox_tmp ex_int) (ax_cons (ox_tmp ex_int) (ax_cons (ox_tmp ex_int) ax_nil))))))) (ox_tmp (ex_call C__law_take (hr.mono (by omega)) (ax_cons (ox_borS (pv 0)) (ax_cons (ox_tmp ex_int) ax_nil)) (aCons_len (aCons_len aNil_len)))) (fun _ _ => rfl))) ax_nil))) (gx_tup rfl (gsx_cons (gx_name sc__law_numbers_of.nd rfl (by first | exact Or.inl rfl | exact Or.inr rfl)) (gsx_cons (gx_name sc__law_numbers_of.nd rfl (by first | exact Or.inl rfl | exact Or.inr rfl)) gsx_nil))))
    (bx_one (sx_ret (ex_lc (own := [("_law_k", 4)]) (by decide) rfl sc__law_numbers_of.nd (ix_r1 tx.b_range (ax_cons (ox_tmp (ex_get (pv 1))) ax_nil)) (blkOk_by (own := [("_law_k", 4)]) (by rfl)) (fun _ _ _ _ _ => (gx_name sc__law_numbers_of.nd rfl (by first | exact Or.inl rfl | exact Or.inr rfl))) (fun _ _ _ _ _ => tsx_nil) (fun _ _ _ _ _ => (ex_op op_addAny o2_add (ox_tmp ex_int) (ox_tmp (ex_op op_mod o2_mod (ox_tmp (ex_op op_addAny o2_add (ox_borS (pv 2)) (ox_tmp (ex_op op_mulAny o2_mul (ox_borS (pv 3)) (ox_borS (pv 4)))))) (ox_tmp ex_int))))))))))
/-! _law_log -/
def b__law_log : DS :=
    (sSeq (sPar 4 5 (aCons (oTmp (d2 fIxA (oTmp (dLst (aCons (oTmp (dC (.int 1))) (aCons (oTmp (dC (.int 3))) (aCons (oTmp (dC (.int 20))) (aCons (oTmp (dC (.int 200))) aNil)))))) (oTmp (dCall d__law_take (aCons (oBorS 0) (aCons (oTmp (dC (.int 4))) aNil)))))) (aCons (oTmp (dLst aNil)) aNil)))
    (sSeq (sFor (iSeq (dCall d__law_numbers_of (aCons (oBorS 0) (aCons (oTmp (d2 fIxA (oTmp (dLst (aCons (oTmp (dUse 2)) (aCons (oTmp (dCall d__law_take (aCons (oBorS 0) (aCons (oTmp (d2 fAdd (oBorS 2) (oTmp (dC (.int 1))))) aNil)))) aNil)))) (oTmp (dCall d__law_take (aCons (oBorS 0) (aCons (oTmp (dC (.int 2))) aNil)))))) aNil)))) (gNm 3) (sSeq (sAsg (d2 fIxA (oTmp (dLst (aCons (oTmp (dC (.int 199))) (aCons (oTmp (dCall d__law_take (aCons (oBorS 0) (aCons (oBorS 4) aNil)))) (aCons (oTmp (dCall d__law_take (aCons (oBorS 0) (aCons (oBorS 4) aNil)))) (aCons (oTmp (dCall d__law_take (aCons (oBorS 0) (aCons (oTmp (dC (.int 200))) aNil)))) aNil)))))) (oTmp (dCall d__law_take (aCons (oBorS 0) (aCons (oTmp (dC (.int 4))) aNil))))) (gNm 6))
    (sDrop (dApp 5 (d2 fAdd (oTmp (dTup (aCons (oTmp (dUse 3)) (aCons (oTmp (dUse 6)) aNil)))) (oTmp (dCall d__law_part (aCons (oBorS 0) (aCons (oBorS 1) (aCons (oBorS 6) aNil))))))))))
    (sRet (dMov 5))))
def d__law_log : DF := dFn 7 b__law_log
theorem sc__law_log : FnScope ["_law_box_here", "_law_world_here", "_law_most", "_law_number", "_law_span", "_law_found", "_law_day"] ["_law_box_here", "_law_world_here", "_law_most"] (defScope (top 56)) := ⟨rfl, rfl, rfl, by decide +kernel, rfl, by decide +kernel, by decide +kernel⟩
theorem ok__law_log (tx : Txt K w mg) {f : Addr} {fd : FuncData} (F : FnP K "_law_log" (top 56) f fd) (C__law_take : Callee P w K mg base ca "_law_take" ["_law_box_here", "_law_many"] 1 d__law_take) (C__law_numbers_of : Callee P w K mg base ca "_law_numbers_of" ["_law_box_here", "_law_many"] 2 d__law_numbers_of) (C__law_part : Callee P w K mg base ca "_law_part" ["_law_box_here", "_law_world_here", "_law_day"] 3 d__law_part) : FnOk P w K mg base CX0 4 f fd ["_law_box_here", "_law_world_here", "_law_most"] (spT K ca 3 d__law_log) :=
  fn_okD F sc__law_log (by decide) (fun cdv A outer s H E hr =>
    (bx_cons (sx_par rfl sc__law_log.nd rfl rfl (by decide) rfl rfl (ax_cons (ox_tmp (ex_ixA hr.units (ox_tmp (ex_lst (ax_cons (ox_tmp ex_int) (ax_cons (ox_tmp ex_int) (ax_cons (ox_tmp ex_int) (ax_cons (ox_tmp ex_int) ax_nil)))))) (ox_tmp (ex_call C__law_take (hr.mono (by omega)) (ax_cons (ox_borS (pv 0)) (ax_cons (ox_tmp ex_int) ax_nil)) (aCons_len (aCons_len aNil_len)))) (fun _ _ => rfl))) (ax_cons (ox_tmp (ex_lst ax_nil)) ax_nil)) (by rfl))
    (bx_cons (sx_for PassesOwn.never rfl (ix_seq' (ex_call C__law_numbers_of (hr.mono (by omega)) (ax_cons (ox_borS (pv 0)) (ax_cons (ox_tmp (ex_ixA hr.units (ox_tmp (ex_lst (ax_cons (ox_tmp (ex_use (pv 2))) (ax_cons (ox_tmp (ex_call C__law_take (hr.mono (by omega)) (ax_cons (ox_borS (pv 0)) (ax_cons (ox_tmp (ex_op op_addAny o2_add (ox_borS (pv 2)) (ox_tmp ex_int))) ax_nil)) (aCons_len (aCons_len aNil_len)))) ax_nil)))) (ox_tmp (ex_call C__law_take (hr.mono (by omega)) (ax_cons (ox_borS (pv 0)) (ax_cons (ox_tmp ex_int) ax_nil)) (aCons_len (aCons_len aNil_len)))) (fun _ _ => rfl))) ax_nil)) (aCons_len (aCons_len aNil_len)))) (gx_name sc__law_log.nd rfl (by first | exact Or.inl rfl | exact Or.inr rfl)) (bx_cons (sx_set (i := 6) sc__law_log.nd rfl (by first | exact Or.inl rfl | exact Or.inr rfl) (ex_ixA hr.units (ox_tmp (ex_lst (ax_cons (ox_tmp ex_int) (ax_cons (ox_tmp (ex_call C__law_take (hr.mono (by omega)) (ax_cons (ox_borS (pv 0)) (ax_cons (ox_borS (pv 4)) ax_nil)) (aCons_len (aCons_len aNil_len)))) (ax_cons (ox_tmp (ex_call C__law_take (hr.mono (by omega)) (ax_cons (ox_borS (pv 0)) (ax_cons (ox_borS (pv 4)) ax_nil)) (aCons_len (aCons_len aNil_len)))) (ax_cons (ox_tmp (ex_call C__law_take (hr.mono (by omega)) (ax_cons (ox_borS (pv 0)) (ax_cons (ox_tmp ex_int) ax_nil)) (aCons_len (aCons_len aNil_len)))) ax_nil)))))) (ox_tmp (ex_call C__law_take (hr.mono (by omega)) (ax_cons (ox_borS (pv 0)) (ax_cons (ox_tmp ex_int) ax_nil)) (aCons_len (aCons_len aNil_len)))) (fun _ _ => rfl)))
    (bx_one (sx_expr (ex_app (pv 5) (ex_op op_addAny o2_add (ox_tmp (ex_tup (ax_cons (ox_tmp (ex_use (pv 3))) (ax_cons (ox_tmp (ex_use (pv 6))) ax_nil)))) (ox_tmp (ex_call C__law_part (hr.mono (by omega)) (ax_cons (ox_borS (pv 0)) (ax_cons (ox_borS (pv 1)) (ax_cons (ox_borS (pv 6)) ax_nil))) (aCons_len (aCons_len (aCons_len aNil_len)))))))))))
    (bx_one (sx_ret (ex_mov (pv 5)))))))
/-! _law_asked -/
def b__law_asked : DS :=
    (sSeq (sAsg (dB fList (aCons (oBorS 1) aNil)) (gNm 3))
    (sSeq (sIf (tOf (d2 fEq (oBorS 0) (oTmp (dC (.int 0))))) (sAsg (dLst (aCons (oTmp (dLcK [5] 3 (gNm 5) tYesD (dCall d_is_entry (aCons (oBorS 5) aNil)))) (aCons (oTmp (dCall d_in_order (aCons (oBorS 3) aNil))) aNil))) (gNm 4)) (sIf (tOf (d2 fEq (oBorS 0) (oTmp (dC (.int 1))))) (sAsg (dLst (aCons (oTmp (dCall d_told_by (aCons (oBorS 3) (aCons (oBorS 2) aNil)))) (aCons (oTmp (dCall d_told_by (aCons (oBorS 3) (aCons (oTmp (dC (.int 199))) aNil)))) (aCons (oTmp (dCall d_in_order (aCons (oTmp (dCall d_told_by (aCons (oBorS 3) (aCons (oBorS 2) aNil)))) aNil))) aNil)))) (gNm 4)) (sIf (tOf (d2 fEq (oBorS 0) (oTmp (dC (.int 2))))) (sAsg (dLst (aCons (oTmp (dLcK [5] 3 (gNm 5) tYesD (dCall d_entry_text (aCons (oBorS 5) aNil)))) (aCons (oTmp (dCall d_roll_text (aCons (oBorS 3) aNil))) aNil))) (gNm 4)) (sIf (tOf (d2 fEq (oBorS 0) (oTmp (dC (.int 3))))) (sAsg (dLst (aCons (oTmp (dCall d_read_roll (aCons (oTmp (dCall d_roll_text (aCons (oBorS 3) aNil))) aNil))) (aCons (oTmp (dCall d_read_roll (aCons (oTmp (dCall d_roll_text (aCons (oTmp (dCall d_in_order (aCons (oBorS 3) aNil))) aNil))) aNil))) aNil))) (gNm 4)) (sAsg (dLcK [5] 3 (gNm 5) tYesD (dCall d_read_roll (aCons (oTmp (dCall d_entry_text (aCons (oBorS 5) aNil))) aNil))) (gNm 4))))))
    (sSeq (sDrop (dApp 3 (dC (.str "more"))))
    (sSeq (sDrop (dRev 3))
    (sRet (dMov 4))))))
def d__law_asked : DF := dFn 6 b__law_asked
theorem sc__law_asked : FnScope ["_law_pick", "_law_entries", "_law_day", "_law_handed", "_law_found", "_law_entry"] ["_law_pick", "_law_entries", "_law_day"] (defScope (top 57)) := ⟨rfl, rfl, rfl, by decide +kernel, rfl, by decide +kernel, by decide +kernel⟩
theorem ok__law_asked (tx : Txt K w mg) {f : Addr} {fd : FuncData} (F : FnP K "_law_asked" (top 57) f fd) (C_is_entry : Callee P w K mg base ca "is_entry" ["thing"] 3 d_is_entry) (C_in_order : Callee P w K mg base ca "in_order" ["entries"] 4 d_in_order) (C_told_by : Callee P w K mg base ca "told_by" ["entries", "day"] 5 d_told_by) (C_entry_text : Callee P w K mg base ca "entry_text" ["entry"] 4 d_entry_text) (C_roll_text : Callee P w K mg base ca "roll_text" ["entries"] 5 d_roll_text) (C_read_roll : Callee P w K mg base ca "read_roll" ["text"] 6 d_read_roll) : FnOk P w K mg base CX0 7 f fd ["_law_pick", "_law_entries", "_law_day"] (spT K ca 3 d__law_asked) :=
  fn_okD F sc__law_asked (by decide) (fun cdv A outer s H E hr =>
    (bx_cons (sx_set (i := 3) sc__law_asked.nd rfl (by first | exact Or.inl rfl | exact Or.inr rfl) (ex_callTy call_list_of on_list tx.b_list (ax_cons (ox_borS (pv 1)) ax_nil)))
    (bx_cons (sx_if (tx_cmp (op_eqA hr.units) o2_eq (ox_borS (pv 0)) (ox_tmp ex_int) (nomark _)) (bx_one (sx_set (i := 4) sc__law_asked.nd rfl (by first | exact Or.inl rfl | exact Or.inr rfl) (ex_lst (ax_cons (ox_tmp (ex_lcK (i := 3) (own := [("_law_entry", 5)]) (by decide) rfl sc__law_asked.nd (pv 3) (blkOk_by (own := [("_law_entry", 5)]) (by rfl)) (fun _ _ _ _ _ => (gx_name sc__law_asked.nd rfl (by first | exact Or.inl rfl | exact Or.inr rfl))) (fun _ _ _ _ _ => tsx_nil) (fun _ _ _ _ _ => (ex_call C_is_entry (hr.mono (by omega)) (ax_cons (ox_borS (pv 5)) ax_nil) (aCons_len aNil_len))))) (ax_cons (ox_tmp (ex_call C_in_order (hr.mono (by omega)) (ax_cons (ox_borS (pv 3)) ax_nil) (aCons_len aNil_len))) ax_nil))))) (bx_one (sx_if (tx_cmp (op_eqA hr.units) o2_eq (ox_borS (pv 0)) (ox_tmp ex_int) (nomark _)) (bx_one (sx_set (i := 4) sc__law_asked.nd rfl (by first | exact Or.inl rfl | exact Or.inr rfl) (ex_lst (ax_cons (ox_tmp (ex_call C_told_by (hr.mono (by omega)) (ax_cons (ox_borS (pv 3)) (ax_cons (ox_borS (pv 2)) ax_nil)) (aCons_len (aCons_len aNil_len)))) (ax_cons (ox_tmp (ex_call C_told_by (hr.mono (by omega)) (ax_cons (ox_borS (pv 3)) (ax_cons (ox_tmp ex_int) ax_nil)) (aCons_len (aCons_len aNil_len)))) (ax_cons (ox_tmp (ex_call C_in_order (hr.mono (by omega)) (ax_cons (ox_tmp (ex_call C_told_by (hr.mono (by omega)) (ax_cons (ox_borS (pv 3)) (ax_cons (ox_borS (pv 2)) ax_nil)) (aCons_len (aCons_len aNil_len)))) ax_nil) (aCons_len aNil_len))) ax_nil)))))) (bx_one (sx_if (tx_cmp (op_eqA hr.units) o2_eq (ox_borS (pv 0)) (ox_tmp ex_int) (nomark _)) (bx_one (sx_set (i := 4) sc__law_asked.nd rfl (by first | exact Or.inl rfl | exact Or.inr rfl) (ex_lst (ax_cons (ox_tmp (ex_lcK (i := 3) (own := [("_law_entry", 5)]) (by decide) rfl sc__law_asked.nd (pv 3) (blkOk_by (own := [("_law_entry", 5)]) (by rfl)) (fun _ _ _ _ _ => (gx_name sc__law_asked.nd rfl (by first | exact Or.inl rfl | exact Or.inr rfl))) (fun _ _ _ _ _ => tsx_nil) (fun _ _ _ _ _ => (ex_call C_entry_text (hr.mono (by omega)) (ax_cons (ox_borS (pv 5)) ax_nil) (aCons_len aNil_len))))) (ax_cons (ox_tmp (ex_call C_roll_text (hr.mono (by omega)) (ax_cons (ox_borS (pv 3)) ax_nil) (aCons_len aNil_len))) ax_nil))))) (bx_one (sx_if (tx_cmp (op_eqA hr.units) o2_eq (ox_borS (pv 0)) (ox_tmp ex_int) (nomark _)) (bx_one (sx_set (i := 4) sc__law_asked.nd rfl (by first | exact Or.inl rfl | exact Or.inr rfl) (ex_lst (ax_cons (ox_tmp (ex_call C_read_roll (hr.mono (by omega)) (ax_cons (ox_tmp (ex_call C_roll_text (hr.mono (by omega)) (ax_cons (ox_borS (pv 3)) ax_nil) (aCons_len aNil_len))) ax_nil) (aCons_len aNil_len))) (ax_cons (ox_tmp (ex_call C_read_roll (hr.mono (by omega)) (ax_cons (ox_tmp (ex_call C_roll_text (hr.mono (by omega)) (ax_cons (ox_tmp (ex_call C_in_order (hr.mono (by omega)) (ax_cons (ox_borS (pv 3)) ax_nil) (aCons_len aNil_len))) ax_nil) (aCons_len aNil_len))) ax_nil) (aCons_len aNil_len))) ax_nil))))) (bx_one (sx_setLcK (i := 4) (own := [("_law_entry", 5)]) (by decide) rfl sc__law_asked.nd rfl rfl (sw_true rfl rfl rfl (by decide +kernel)) (pv 3) (blkOk_by (own := [("_law_entry", 5)]) (by rfl)) (fun _ _ _ _ _ => (gx_name sc__law_asked.nd rfl (by first | exact Or.inl rfl | exact Or.inr rfl))) (fun _ _ _ _ _ => tsx_nil) (fun _ _ _ _ _ => (ex_call C_read_roll (hr.mono (by omega)) (ax_cons (ox_tmp (ex_call C_entry_text (hr.mono (by omega)) (ax_cons (ox_borS (pv 5)) ax_nil) (aCons_len aNil_len))) ax_nil) (aCons_len aNil_len))))))))))))
    (bx_cons (sx_expr (ex_app (pv 3) ex_str))
    (bx_cons (sx_expr (ex_revL (pv 3)))
    (bx_one (sx_ret (ex_mov (pv 4)))))))))
/-! _law_pair -/
def b__law_pair : DS :=
    (sSeq (sAsg (dCall d__law_world (aCons (oBorS 0) aNil)) (gNm 1))
    (sSeq (sAsg (dCall d__law_log (aCons (oBorS 0) (aCons (oBorS 1) (aCons (oTmp (dC (.int 30))) aNil)))) (gNm 2))
    (sSeq (sIf (tOrD (tOf (d2 fEq (oTmp (dCall d__law_take (aCons (oBorS 0) (aCons (oTmp (dC (.int 2))) aNil)))) (oTmp (dC (.int 0))))) (tOf (d2 fEq (oBorS 2) (oTmp (dLst aNil))))) (sRet (dLst (aCons (oTmp (dMov 2)) (aCons (oTmp (dCall d__law_log (aCons (oBorS 0) (aCons (oBorS 1) (aCons (oTmp (dC (.int 30))) aNil))))) aNil)))) sNil)
    (sSeq (sPar 3 4 (aCons (oTmp (dCall d__law_take (aCons (oBorS 0) (aCons (oTmp (dB fLen (aCons (oBorS 2) aNil))) aNil)))) (aCons (oTmp (dCall d__law_take (aCons (oBorS 0) (aCons (oTmp (dC (.int 200))) aNil)))) aNil)))
    (sRet (dLst (aCons (oTmp (dUse 2)) (aCons (oTmp (d2 fAdd (oTmp (d2 fAdd (oTmp (d3 fSl (oAuto 2) pNone (pSome (dUse 3)))) (oTmp (dLst (aCons (oTmp (d2 fAdd (oTmp (dTup (aCons (oTmp (d2 fIxA (oTmp (d2 fIxA (oAuto 2) (oBorS 3))) (oTmp (dC (.int 0))))) (aCons (oTmp (dUse 4)) aNil)))) (oTmp (dCall d__law_part (aCons (oBorS 0) (aCons (oBorS 1) (aCons (oBorS 4) aNil))))))) aNil))))) (oTmp (d3 fSl (oAuto 2) (pSome (d2 fAdd (oBorS 3) (oTmp (dC (.int 1))))) pNone)))) aNil))))))))
def d__law_pair : DF := dFn 5 b__law_pair
theorem sc__law_pair : FnScope ["_law_box_here", "_law_world_here", "_law_one", "_law_at", "_law_day"] ["_law_box_here"] (defScope (top 58)) := ⟨rfl, rfl, rfl, by decide +kernel, rfl, by decide +kernel, by decide +kernel⟩
theorem ok__law_pair (tx : Txt K w mg) {f : Addr} {fd : FuncData} (F : FnP K "_law_pair" (top 58) f fd) (C__law_world : Callee P w K mg base ca "_law_world" ["_law_box_here"] 3 d__law_world) (C__law_log : Callee P w K mg base ca "_law_log" ["_law_box_here", "_law_world_here", "_law_most"] 4 d__law_log) (C__law_take : Callee P w K mg base ca "_law_take" ["_law_box_here", "_law_many"] 1 d__law_take) (C__law_part : Callee P w K mg base ca "_law_part" ["_law_box_here", "_law_world_here", "_law_day"] 3 d__law_part) : FnOk P w K mg base CX0 5 f fd ["_law_box_here"] (spT K ca 1 d__law_pair) :=
  fn_okD F sc__law_pair (by decide) (fun cdv A outer s H E hr =>
    (bx_cons (sx_set (i := 1) sc__law_pair.nd rfl (by first | exact Or.inl rfl | exact Or.inr rfl) (ex_call C__law_world (hr.mono (by omega)) (ax_cons (ox_borS (pv 0)) ax_nil) (aCons_len aNil_len)))
    (bx_cons (sx_set (i := 2) sc__law_pair.nd rfl (by first | exact Or.inl rfl | exact Or.inr rfl) (ex_call C__law_log (hr.mono (by omega)) (ax_cons (ox_borS (pv 0)) (ax_cons (ox_borS (pv 1)) (ax_cons (ox_tmp ex_int) ax_nil))) (aCons_len (aCons_len (aCons_len aNil_len)))))
    (bx_cons (sx_if (PW.pt (wx_or (tx_cmp (op_eqA hr.units) o2_eq (ox_tmp (ex_call C__law_take (hr.mono (by omega)) (ax_cons (ox_borS (pv 0)) (ax_cons (ox_tmp ex_int) ax_nil)) (aCons_len (aCons_len aNil_len)))) (ox_tmp ex_int) (nomark _)) (wx_or1 (tx_cmp (op_eqA hr.units) o2_eq (ox_borS (pv 2)) (ox_tmp (ex_lst ax_nil)) (nomark _))))) (bx_one (sx_ret (ex_lst (ax_cons (ox_tmp (ex_mov (pv 2))) (ax_cons (ox_tmp (ex_call C__law_log (hr.mono (by omega)) (ax_cons (ox_borS (pv 0)) (ax_cons (ox_borS (pv 1)) (ax_cons (ox_tmp ex_int) ax_nil))) (aCons_len (aCons_len (aCons_len aNil_len))))) ax_nil))))) bx_nil)
    (bx_cons (sx_par rfl sc__law_pair.nd rfl rfl (by decide) rfl rfl (ax_cons (ox_tmp (ex_call C__law_take (hr.mono (by omega)) (ax_cons (ox_borS (pv 0)) (ax_cons (ox_tmp (ex_callB call_lenAny on_len tx.b_len (ax_cons (ox_borS (pv 2)) ax_nil))) ax_nil)) (aCons_len (aCons_len aNil_len)))) (ax_cons (ox_tmp (ex_call C__law_take (hr.mono (by omega)) (ax_cons (ox_borS (pv 0)) (ax_cons (ox_tmp ex_int) ax_nil)) (aCons_len (aCons_len aNil_len)))) ax_nil)) (by rfl))
    (bx_one (sx_ret (ex_lst (ax_cons (ox_tmp (ex_use (pv 2))) (ax_cons (ox_tmp (ex_op op_addAny o2_add (ox_tmp (ex_op op_addAny o2_add (ox_tmp (ex_sl (ox_auto (pv 2)) px_none (px_some (ex_use (pv 3))))) (ox_tmp (ex_lst (ax_cons (ox_tmp (ex_op op_addAny o2_add (ox_tmp (ex_tup (ax_cons (ox_tmp (ex_ixA hr.units (ox_tmp (ex_ixA hr.units (ox_auto (pv 2)) (ox_borS (pv 3)) (fun _ _ => rfl))) (ox_tmp ex_int) (fun _ _ => rfl))) (ax_cons (ox_tmp (ex_use (pv 4))) ax_nil)))) (ox_tmp (ex_call C__law_part (hr.mono (by omega)) (ax_cons (ox_borS (pv 0)) (ax_cons (ox_borS (pv 1)) (ax_cons (ox_borS (pv 4)) ax_nil))) (aCons_len (aCons_len (aCons_len aNil_len))))))) ax_nil))))) (ox_tmp (ex_sl (ox_auto (pv 2)) (px_some (ex_op op_addAny o2_add (ox_borS (pv 3)) (ox_tmp ex_int))) px_none)))) ax_nil))))))))))
/-! _law_right -/
def b__law_right : DS :=
    (sSeq (sAsg (dTup (aCons (oTmp (dCall d__law_pair (aCons (oBorS 0) aNil))) (aCons (oTmp (dCall d__law_take (aCons (oBorS 0) (aCons (oTmp (dC (.int 200))) aNil)))) aNil))) (gTp [(gNm 3), (gNm 4)]))
    (sSeq (sAsg (dLc [6] (iSeq (dUse 3)) (gNm 6) tYesD (dLc [9] (iR1 (aCons (oTmp (dC (.int 5))) aNil)) (gNm 9) tYesD (dCall (d__law_copied 8) (aCons (oTmp (dCall d__law_asked (aCons (oBorS 9) (aCons (oBorS 6) (aCons (oBorS 4) aNil))))) aNil)))) (gNm 1))
    (sSeq (sFor (iR1 (aCons (oTmp (dC (.int 12))) aNil)) (gNm 2) (sSeq (sPar 8 9 (aCons (oTmp (dCall d__law_take (aCons (oBorS 0) (aCons (oTmp (dC (.int 2))) aNil)))) (aCons (oTmp (dCall d__law_take (aCons (oBorS 0) (aCons (oTmp (dC (.int 5))) aNil)))) aNil)))
    (sSeq (sAsg (dCall d__law_asked (aCons (oBorS 9) (aCons (oTmp (d2 fIxA (oAuto 3) (oBorS 8))) (aCons (oBorS 4) aNil)))) (gNm 5))
    (sSeq (sIf (tNotD (tOf (dCall (d__law_same 8) (aCons (oBorS 5) (aCons (oTmp (d2 fIxA (oTmp (d2 fIxA (oAuto 1) (oBorS 8))) (oBorS 9))) aNil))))) (sRet (dC (.bl false))) sNil)
    (sIf (tOf (d2 fNe (oTmp (dCall (d__law_marked 8) (aCons (oTmp (dMov 5)) aNil))) (oTmp (dCall (d__law_marked 8) (aCons (oTmp (dCall (d__law_copied 8) (aCons (oTmp (d2 fIxA (oTmp (d2 fIxA (oAuto 1) (oBorS 8))) (oBorS 9))) aNil))) aNil))))) (sRet (dC (.bl false))) sNil)))))
    (sSeq (sFor (iZp (aCons (oTmp (dUse 3)) (aCons (oTmp (dUse 1)) aNil))) (gTp [(gNm 6), (gNm 7)]) (sSeq (sIf (tOrD (tOf (d2 fNe (oTmp (d2 fIxA (oAuto 7) (oTmp (dC (.int 3))))) (oTmp (dLst (aCons (oTmp (dUse 6)) (aCons (oTmp (d2 fIxA (oTmp (d2 fIxA (oAuto 7) (oTmp (dC (.int 0))))) (oTmp (dC (.int 1))))) aNil)))))) (tOrD (tOf (d2 fNe (oTmp (d2 fIxA (oAuto 7) (oTmp (dC (.int 4))))) (oTmp (dLc [10] (iSeq (dUse 6)) (gNm 10) tYesD (dLst (aCons (oTmp (dUse 10)) aNil)))))) (tOf (d2 (fInB false) (oTmp (dC (.bl false))) (oTmp (d2 fIxA (oTmp (d2 fIxA (oAuto 7) (oTmp (dC (.int 0))))) (oTmp (dC (.int 0))))))))) (sRet (dC (.bl false))) sNil)
    (sIf (tNotD (tOf (dCall (d__law_same 8) (aCons (oTmp (dCall d_in_order (aCons (oTmp (dCall d__law_strewn (aCons (oBorS 0) (aCons (oBorS 6) aNil)))) aNil))) (aCons (oTmp (d2 fIxA (oTmp (d2 fIxA (oAuto 7) (oTmp (dC (.int 0))))) (oTmp (dC (.int 1))))) aNil))))) (sRet (dC (.bl false))) sNil)))
    (sRet (dC (.bl true)))))))
def d__law_right : DF := dFn 11 b__law_right
theorem sc__law_right : FnScope ["_law_box_here", "_law_first", "_law_turn", "_law_logs", "_law_day", "_law_found", "_law_log_here", "_law_asked_here", "_law_at", "_law_pick", "_law_entry"] ["_law_box_here"] (defScope (top 59)) := ⟨rfl, rfl, rfl, by decide +kernel, rfl, by decide +kernel, by decide +kernel⟩
theorem ok__law_right (tx : Txt K w mg) {f : Addr} {fd : FuncData} (F : FnP K "_law_right" (top 59) f fd) (C__law_pair : Callee P w K mg base ca "_law_pair" ["_law_box_here"] 5 d__law_pair) (C__law_take : Callee P w K mg base ca "_law_take" ["_law_box_here", "_law_many"] 1 d__law_take) (C__law_copied : Callee P w K mg base ca "_law_copied" ["_law_thing"] 8 (d__law_copied 8)) (C__law_asked : Callee P w K mg base ca "_law_asked" ["_law_pick", "_law_entries", "_law_day"] 7 d__law_asked) (C__law_same : Callee P w K mg base ca "_law_same" ["_law_found", "_law_due"] 8 (d__law_same 8)) (C__law_marked : Callee P w K mg base ca "_law_marked" ["_law_thing"] 8 (d__law_marked 8)) (C_in_order : Callee P w K mg base ca "in_order" ["entries"] 4 d_in_order) (C__law_strewn : Callee P w K mg base ca "_law_strewn" ["_law_box_here", "_law_some"] 2 d__law_strewn) : FnOk P w K mg base CX0 9 f fd ["_law_box_here"] (spT K ca 1 d__law_right) :=
  fn_okD F sc__law_right (by decide) (fun cdv A outer s H E hr =>
    (bx_cons (sx_asg (ex_tup (ax_cons (ox_tmp (ex_call C__law_pair (hr.mono (by omega)) (ax_cons (ox_borS (pv 0)) ax_nil) (aCons_len aNil_len))) (ax_cons (ox_tmp (ex_call C__law_take (hr.mono (by omega)) (ax_cons (ox_borS (pv 0)) (ax_cons (ox_tmp ex_int) ax_nil)) (aCons_len (aCons_len aNil_len)))) ax_nil))) (gx_tup rfl (gsx_cons (gx_name sc__law_right.nd rfl (by first | exact Or.inl rfl | exact Or.inr rfl)) (gsx_cons (gx_name sc__law_right.nd rfl (by first | exact Or.inl rfl | exact Or.inr rfl)) gsx_nil))))
    (bx_cons (sx_setLc (i := 1) (own := [("_law_log_here", 6)]) (by decide) rfl sc__law_right.nd rfl rfl (sw_true rfl rfl rfl (by decide +kernel)) (ix_seq' (ex_use (pv 3))) (blkOk_by (own := [("_law_log_here", 6)]) (by rfl)) (fun _ _ _ _ _ => (gx_name sc__law_right.nd rfl (by first | exact Or.inl rfl | exact Or.inr rfl))) (fun _ _ _ _ _ => tsx_nil) (fun _ _ _ _ _ => (ex_lc (own := [("_law_pick", 9)]) (by decide) rfl sc__law_right.nd (ix_r1 tx.b_range (ax_cons (ox_tmp ex_int) ax_nil)) (blkOk_by (own := [("_law_pick", 9)]) (by rfl)) (fun _ _ _ _ _ => (gx_name sc__law_right.nd rfl (by first | exact Or.inl rfl | exact Or.inr rfl))) (fun _ _ _ _ _ => tsx_nil) (fun _ _ _ _ _ => (ex_call C__law_copied (hr.mono (by omega)) (ax_cons (ox_tmp (ex_call C__law_asked (hr.mono (by omega)) (ax_cons (ox_borS (pv 9)) (ax_cons (ox_borS (pv 6)) (ax_cons (ox_borS (pv 4)) ax_nil))) (aCons_len (aCons_len (aCons_len aNil_len))))) ax_nil) (aCons_len aNil_len))))))
    (bx_cons (sx_for PassesOwn.never rfl (ix_r1 tx.b_range (ax_cons (ox_tmp ex_int) ax_nil)) (gx_name sc__law_right.nd rfl (by first | exact Or.inl rfl | exact Or.inr rfl)) (bx_cons (sx_par rfl sc__law_right.nd rfl rfl (by decide) rfl rfl (ax_cons (ox_tmp (ex_call C__law_take (hr.mono (by omega)) (ax_cons (ox_borS (pv 0)) (ax_cons (ox_tmp ex_int) ax_nil)) (aCons_len (aCons_len aNil_len)))) (ax_cons (ox_tmp (ex_call C__law_take (hr.mono (by omega)) (ax_cons (ox_borS (pv 0)) (ax_cons (ox_tmp ex_int) ax_nil)) (aCons_len (aCons_len aNil_len)))) ax_nil)) (by rfl))
    (bx_cons (sx_set (i := 5) sc__law_right.nd rfl (by first | exact Or.inl rfl | exact Or.inr rfl) (ex_call C__law_asked (hr.mono (by omega)) (ax_cons (ox_borS (pv 9)) (ax_cons (ox_tmp (ex_ixA hr.units (ox_auto (pv 3)) (ox_borS (pv 8)) (fun _ _ => rfl))) (ax_cons (ox_borS (pv 4)) ax_nil))) (aCons_len (aCons_len (aCons_len aNil_len)))))
    (bx_cons (sx_if (tx_not (tx_val (ex_call C__law_same (hr.mono (by omega)) (ax_cons (ox_borS (pv 5)) (ax_cons (ox_tmp (ex_ixA hr.units (ox_tmp (ex_ixA hr.units (ox_auto (pv 1)) (ox_borS (pv 8)) (fun _ _ => rfl))) (ox_borS (pv 9)) (fun _ _ => rfl))) ax_nil)) (aCons_len (aCons_len aNil_len))))) (bx_one (sx_ret ex_bl)) bx_nil)
    (bx_one (sx_if (tx_cmp (op_neA hr.units) o2_ne (ox_tmp (ex_call C__law_marked (hr.mono (by omega)) (ax_cons (ox_tmp (ex_mov (pv 5))) ax_nil) (aCons_len aNil_len))) (ox_tmp (ex_call C__law_marked (hr.mono (by omega)) (ax_cons (ox_tmp (ex_call C__law_copied (hr.mono (by omega)) (ax_cons (ox_tmp (ex_ixA hr.units (ox_tmp (ex_ixA hr.units (ox_auto (pv 1)) (ox_borS (pv 8)) (fun _ _ => rfl))) (ox_borS (pv 9)) (fun _ _ => rfl))) ax_nil) (aCons_len aNil_len))) ax_nil) (aCons_len aNil_len))) (nomark _)) (bx_one (sx_ret ex_bl)) bx_nil))))))
    (bx_cons (sx_for PassesOwn.never rfl (ix_zip tx.b_zip (ax_cons (ox_tmp (ex_use (pv 3))) (ax_cons (ox_tmp (ex_use (pv 1))) ax_nil))) (gx_tup rfl (gsx_cons (gx_name sc__law_right.nd rfl (by first | exact Or.inl rfl | exact Or.inr rfl)) (gsx_cons (gx_name sc__law_right.nd rfl (by first | exact Or.inl rfl | exact Or.inr rfl)) gsx_nil))) (bx_cons (sx_if (PW.pt (wx_or (tx_cmp (op_neA hr.units) o2_ne (ox_tmp (ex_ixA hr.units (ox_auto (pv 7)) (ox_tmp ex_int) (fun _ _ => rfl))) (ox_tmp (ex_lst (ax_cons (ox_tmp (ex_use (pv 6))) (ax_cons (ox_tmp (ex_ixA hr.units (ox_tmp (ex_ixA hr.units (ox_auto (pv 7)) (ox_tmp ex_int) (fun _ _ => rfl))) (ox_tmp ex_int) (fun _ _ => rfl))) ax_nil)))) (nomark _)) (wx_or (tx_cmp (op_neA hr.units) o2_ne (ox_tmp (ex_ixA hr.units (ox_auto (pv 7)) (ox_tmp ex_int) (fun _ _ => rfl))) (ox_tmp (ex_lc (own := [("_law_entry", 10)]) (by decide) rfl sc__law_right.nd (ix_seq' (ex_use (pv 6))) (blkOk_by (own := [("_law_entry", 10)]) (by rfl)) (fun _ _ _ _ _ => (gx_name sc__law_right.nd rfl (by first | exact Or.inl rfl | exact Or.inr rfl))) (fun _ _ _ _ _ => tsx_nil) (fun _ _ _ _ _ => (ex_lst (ax_cons (ox_tmp (ex_use (pv 10))) ax_nil))))) (nomark _)) (wx_or1 (tx_cmp (op_inB hr.units) o2_inB (ox_tmp ex_bl) (ox_tmp (ex_ixA hr.units (ox_tmp (ex_ixA hr.units (ox_auto (pv 7)) (ox_tmp ex_int) (fun _ _ => rfl))) (ox_tmp ex_int) (fun _ _ => rfl))) rfl))))) (bx_one (sx_ret ex_bl)) bx_nil)
    (bx_one (sx_if (tx_not (tx_val (ex_call C__law_same (hr.mono (by omega)) (ax_cons (ox_tmp (ex_call C_in_order (hr.mono (by omega)) (ax_cons (ox_tmp (ex_call C__law_strewn (hr.mono (by omega)) (ax_cons (ox_borS (pv 0)) (ax_cons (ox_borS (pv 6)) ax_nil)) (aCons_len (aCons_len aNil_len)))) ax_nil) (aCons_len aNil_len))) (ax_cons (ox_tmp (ex_ixA hr.units (ox_tmp (ex_ixA hr.units (ox_auto (pv 7)) (ox_tmp ex_int) (fun _ _ => rfl))) (ox_tmp ex_int) (fun _ _ => rfl))) ax_nil)) (aCons_len (aCons_len aNil_len))))) (bx_one (sx_ret ex_bl)) bx_nil))))
    (bx_one (sx_ret ex_bl)))))))
/-! law -/
def b_law : DS :=
    (sSeq (sAsg (dCall d__law_folded (aCons (oBorS 0) (aCons (oTmp (dC (.int 2))) aNil))) (gNm 1))
    (sRet (dB fAll (aCons (oTmp (dLc [2] (iR1 (aCons (oTmp (d2 fAdd (oTmp (dC (.int 1))) (oTmp (dB fLen (aCons (oBorS 1) aNil))))) aNil)) (gNm 2) tYesD (dCall d__law_right (aCons (oTmp (dHnd (dCall d__law_box (aCons (oBorS 1) (aCons (oBorS 2) aNil))))) aNil)))) aNil))))
def d_law : DF := dFn 3 b_law
theorem sc_law : FnScope ["_law_script", "_law_cells", "_law_k"] ["_law_script"] (defScope (top 60)) := ⟨rfl, rfl, rfl, by decide +kernel, rfl, by decide +kernel, by decide +kernel⟩
theorem ok_law (tx : Txt K w mg) {f : Addr} {fd : FuncData} (F : FnP K "law" (top 60) f fd) (C__law_folded : Callee P w K mg base ca "_law_folded" ["_law_script", "_law_size"] 1 d__law_folded) (C__law_right : Callee P w K mg base ca "_law_right" ["_law_box_here"] 9 d__law_right) (C__law_box : Callee P w K mg base ca "_law_box" ["_law_script", "_law_k"] 1 d__law_box) : FnOk P w K mg base CX0 10 f fd ["_law_script"] (spT K ca 1 d_law) :=
  fn_okD F sc_law (by decide) (fun cdv A outer s H E hr =>
    (bx_cons (sx_set (i := 1) sc_law.nd rfl (by first | exact Or.inl rfl | exact Or.inr rfl) (ex_call C__law_folded (hr.mono (by omega)) (ax_cons (ox_borS (pv 0)) (ax_cons (ox_tmp ex_int) ax_nil)) (aCons_len (aCons_len aNil_len))))
    (bx_one (sx_ret (ex_callB (cr_all rfl) on_all tx.b_all (ax_cons (ox_tmp (ex_lc (own := [("_law_k", 2)]) (by decide) rfl sc_law.nd (ix_r1 tx.b_range (ax_cons (ox_tmp (ex_op op_addAny o2_add (ox_tmp ex_int) (ox_tmp (ex_callB call_lenAny on_len tx.b_len (ax_cons (ox_borS (pv 1)) ax_nil))))) ax_nil)) (blkOk_by (own := [("_law_k", 2)]) (by rfl)) (fun _ _ _ _ _ => (gx_name sc_law.nd rfl (by first | exact Or.inl rfl | exact Or.inr rfl))) (fun _ _ _ _ _ => tsx_nil) (fun _ _ _ _ _ => (ex_call C__law_right (hr.mono (by omega)) (ax_cons (ox_tmp (ex_hnd (ex_call C__law_box (hr.mono (by omega)) (ax_cons (ox_borS (pv 1)) (ax_cons (ox_borS (pv 2)) ax_nil)) (aCons_len (aCons_len aNil_len))))) ax_nil) (aCons_len aNil_len))))) ax_nil))))))
end
end Wk31

set_option Elab.async false
set_option linter.all false
set_option maxRecDepth 100000
set_option exponentiation.threshold 10000
set_option maxHeartbeats 0
namespace Wk31
open PySem PySem.Spec L2 TL
theorem log_ok {s : Int} (hs : 0 < s) (hl : s < 2 ^ 62) : s.natAbs.log2 < 9000 := by
  have h1 : s.natAbs < 2 ^ 62 := by omega
  have h2 : s.natAbs.log2 < 62 := (Nat.log2_lt (by omega)).mpr h1
  omega
theorem okDiv_of (i : Int) {s : Int} (hs : 0 < s) (hl : s < 2 ^ 62) : okDiv i s = true := decide_eq_true ⟨hs, log_ok hs hl⟩
theorem small_of {i : Int} (h1 : -(2 ^ 62) < i) (h2 : i < 2 ^ 62) : smallI i = true := decide_eq_true ⟨by omega, by omega⟩
/-! ### the box -/
def Bx (O : List Ob) (n : Nat) (k : Nat) : Prop := ∃ a b c : Int, O[n]? = some (.lst [.int a, .int b, .int c]) ∧ 0 ≤ a ∧ 0 ≤ b ∧ b < 2 ^ 60 ∧ 0 ≤ c ∧ c ≤ k
theorem Bx.mono {O : List Ob} {n k k' : Nat} (h : Bx O n k) (hk : k ≤ k') : Bx O n k' := by
  obtain ⟨a, b, c, h1, h2, h3, h4, h5, h6⟩ := h
  exact ⟨a, b, c, h1, h2, h3, h4, h5, by omega⟩
theorem set_at {O : List Ob} {n : Nat} {x y : Ob} (h : O[n]? = some x) : (O.set n y)[n]? = some y := by
  rw [List.getElem?_set_self]
  exact (List.getElem?_eq_some_iff.mp h).1
theorem e_take {O : List Ob} {n k : Nat} {m : Int} (h : Bx O n k) (hm : 0 < m) (hm2 : m < 2 ^ 62) (hk : k < 2 ^ 40) : ∃ r O', d__law_take [.hnd n, .int m] O = some (.int r, O') ∧ 0 ≤ r ∧ r < m ∧ Bx O' n (k + 1) := by
  obtain ⟨a, b, c, h1, h2, h3, h4, h5, h6⟩ := h
  by_cases ha : 0 < a
  · refine ⟨a % m, O.set n (.lst [.int (a / m), .int b, .int c]), ?_, Int.emod_nonneg _ (by omega), Int.emod_lt_of_pos _ hm, a / m, b, c, set_at h1, Int.ediv_nonneg h2 (by omega), h3, h4, h5, by omega⟩
    simp [d__law_take, dFn, b__law_take, view_hnd h1, ha, hm, gIxA, getD', getL, putL, h1, ixN, okDiv_of a hm hm2]
  · have hs2 : (O.set n (.lst [.int a, .int b, .int (c + 1)]))[n]? = some (.lst [.int a, .int b, .int (c + 1)]) := set_at h1
    let once := (b + 39373 * (c + 1)) * (69621 + (c + 1) * (c + 1)) % 2147483587
    let twice := (once * (once % 30011 + 5) + (c + 1)) % 2147483563
    refine ⟨twice * (twice % 1013 + 3) % 998244353 / 16 % m, O.set n (.lst [.int a, .int b, .int (c + 1)]), ?_, Int.emod_nonneg _ (by omega), Int.emod_lt_of_pos _ hm, a, b, c + 1, hs2, h2, h3, h4, by omega, by omega⟩
    have sm1 : smallI (c + 1) = true := decide_eq_true ⟨by omega, by omega⟩
    have sm2 : smallI (b + 39373 * (c + 1)) = true := decide_eq_true ⟨by omega, by omega⟩
    have sm3 : ∀ x : Int, smallI (x % 2147483587) = true := fun x => decide_eq_true ⟨by omega, by omega⟩
    have sm4 : ∀ x : Int, smallI (x % 2147483563) = true := fun x => decide_eq_true ⟨by omega, by omega⟩
    have sm5 : smallI 39373 = true := by decide
    have q1 : ∀ x : Int, okDiv x 16 = true := fun x => okDiv_of x (by omega) (by omega)
    simp [d__law_take, dFn, b__law_take, view_hnd h1, view_hnd hs2, ha, hm, gIxA, getD', getL, putL, h1, hs2, ixN, sm1, sm2, sm3, sm4, sm5, q1, once, twice]
/-- an item of a list by a drawn place -/
theorem e_one_of {O : List Ob} {n k : Nat} {xs : List T} (h : Bx O n k) (hk : k < 2 ^ 40) (h0 : xs ≠ []) (hl : xs.length ≤ 1000) (no : noOws xs = true) (nb : noBrs xs = true) (br : brws xs = xs) : ∃ t O', (∀ m' : Mk, d__law_one_of [.hnd n, .lst m'.brw xs] O = some (t, O')) ∧ t ∈ xs ∧ Bx O' n (k + 1) := by
  have hl0 : 0 < xs.length := List.length_pos_iff.mpr h0
  obtain ⟨r, O', e1, r0, r1, b1⟩ := e_take (m := (xs.length : Int)) h (by omega) (by omega) hk
  have hr : r.toNat < xs.length := by omega
  have at1 : atI xs r = some xs[r.toNat] := by rw [atI_nat (j := r.toNat) (by omega) hr, List.getElem?_eq_getElem hr]
  have hm : xs[r.toNat] ∈ xs := List.getElem_mem hr
  have n1 := noOws_mem no hm
  have n2 : xs[r.toNat].noBr = true := by
    have : ∀ (l : List T) (t : T), noBrs l = true → t ∈ l → t.noBr = true := fun l t hh mm => by
      induction l with
      | nil => exact absurd mm (by simp)
      | cons a l ih =>
        obtain ⟨u1, u2⟩ := Bool.and_eq_true_iff.mp (show (a.noBr && noBrs l) = true from hh)
        rcases List.mem_cons.mp mm with rfl | mm
        · exact u1
        · exact ih u2 mm
    exact this xs _ nb hm
  refine ⟨xs[r.toNat], O', fun m' => ?_, hm, b1⟩
  generalize xs[r.toNat] = t at *
  cases m' <;> simp [d__law_one_of, dFn, b__law_one_of, no, e1, at1, n1, n2]
theorem e_pounds {O : List Ob} {n k : Nat} (h : Bx O n k) (hk : k < 2 ^ 39) : ∃ r O', d__law_pounds [.hnd n] O = some (.int r, O') ∧ 0 ≤ r ∧ r ≤ 1000000 ∧ Bx O' n (k + 6) := by
  obtain ⟨r1, O1, e1, a1, b1, c1⟩ := e_take (m := 3) h (by omega) (by omega) (by omega)
  obtain ⟨r2, O2, e2, a2, b2, c2⟩ := e_take (m := 60) c1 (by omega) (by omega) (by omega)
  obtain ⟨r3, O3, e3, a3, b3, c3⟩ := e_take (m := 60) c2 (by omega) (by omega) (by omega)
  obtain ⟨r4, O4, e4, a4, b4, c4⟩ := e_take (m := 1000001) c3 (by omega) (by omega) (by omega)
  obtain ⟨r5, O5, e5, a5, b5, c5⟩ := e_take (m := 300) c4 (by omega) (by omega) (by omega)
  obtain ⟨r6, O6, e6, a6, b6, c6⟩ := e_take (m := 6) c5 (by omega) (by omega) (by omega)
  have near : ∃ g : Int, atI [T.int 0, T.int 1, T.int 13] r1 = some (.int g) ∧ 0 ≤ g ∧ g ≤ 13 := by
    have : r1 = 0 ∨ r1 = 1 ∨ r1 = 2 := by omega
    rcases this with rfl | rfl | rfl
    · exact ⟨0, by simp, by omega, by omega⟩
    · exact ⟨1, by simp, by omega, by omega⟩
    · exact ⟨13, by simp, by omega, by omega⟩
  obtain ⟨g, eg, g0, g1⟩ := near
  have sm14 : smallI 14 = true := by decide
  have sm112 : smallI 112 = true := by decide
  have s4 : 4 ≤ sizeLine := by decide
  have s3 : 3 ≤ sizeLine := by decide
  have s2 : 2 ≤ sizeLine := by decide
  have fin : ∃ v : Int, atI [T.int g, T.int (1000000 - g), T.int (14 * r2 + g), T.int (112 * r3 + g), T.int r4, T.int r5] r6 = some (.int v) ∧ 0 ≤ v ∧ v ≤ 1000000 := by
    have : r6 = 0 ∨ r6 = 1 ∨ r6 = 2 ∨ r6 = 3 ∨ r6 = 4 ∨ r6 = 5 := by omega
    rcases this with rfl | rfl | rfl | rfl | rfl | rfl
    · exact ⟨g, by simp, by omega, by omega⟩
    · exact ⟨1000000 - g, by simp, by omega, by omega⟩
    · exact ⟨14 * r2 + g, by simp, by omega, by omega⟩
    · exact ⟨112 * r3 + g, by simp, by omega, by omega⟩
    · exact ⟨r4, by simp, by omega, by omega⟩
    · exact ⟨r5, by simp, by omega, by omega⟩
  obtain ⟨v, ev, v0, v1⟩ := fin
  have ad : ∀ (x1 x2 x3 x4 y1 y2 : Int), fAdd (.lst .ow [.int x1, .int x2, .int x3, .int x4]) (.lst .ow [.int y1, .int y2]) = some (.lst .ow [.int x1, .int x2, .int x3, .int x4, .int y1, .int y2]) := by
    intro x1 x2 x3 x4 y1 y2
    rfl
  refine ⟨v, O6, ?_, v0, v1, c6⟩
  simp [d__law_pounds, dFn, b__law_pounds, e1, eg, e2, e3, e4, e5, e6, sm14, sm112, s4, s3, s2, ad, ev]
theorem e_days_of {O : List Ob} {n k : Nat} {d : Int} (h : Bx O n k) (hk : k < 2 ^ 39) (d0 : 0 ≤ d) (d1 : d ≤ 199) : ∃ f t O', d__law_days_of [.hnd n, .int d] O = some (.tup [.int f, .int t], O') ∧ d ≤ f ∧ f ≤ t ∧ t ≤ 199 ∧ Bx O' n (k + 4) := by
  obtain ⟨r1, O1, e1, a1, b1, c1⟩ := e_take (m := 200) h (by omega) (by omega) (by omega)
  obtain ⟨r2, O2, e2, a2, b2, c2⟩ := e_take (m := 4) c1 (by omega) (by omega) (by omega)
  obtain ⟨r3, O3, e3, a3, b3, c3⟩ := e_take (m := 200) c2 (by omega) (by omega) (by omega)
  obtain ⟨r4, O4, e4, a4, b4, c4⟩ := e_take (m := 4) c3 (by omega) (by omega) (by omega)
  have pick : ∀ r q : Int, 0 ≤ r → 0 ≤ q → q < 4 → ∃ v : Int, atI [T.int 0, T.int 0, T.int 1, T.int r] q = some (.int v) ∧ 0 ≤ v := by
    intro r q hr h0 h1
    have : q = 0 ∨ q = 1 ∨ q = 2 ∨ q = 3 := by omega
    rcases this with rfl | rfl | rfl | rfl
    · exact ⟨0, by simp, by omega⟩
    · exact ⟨0, by simp, by omega⟩
    · exact ⟨1, by simp, by omega⟩
    · exact ⟨r, by simp, hr⟩
  obtain ⟨v, ev, v0⟩ := pick r1 r2 a1 a2 b2
  obtain ⟨w, ew, w0⟩ := pick r3 r4 a3 a4 b4
  have s4 : 4 ≤ sizeLine := by decide
  have s2 : 2 ≤ sizeLine := by decide
  have mn : ∀ i j : Int, fMin [.int i, .int j] = some (.int (min i j)) := fun i j => rfl
  let f := min 199 (d + v)
  let t := min 199 (f + w)
  have hf : d ≤ f ∧ f ≤ 199 := by show d ≤ min 199 (d + v) ∧ min 199 (d + v) ≤ 199; omega
  have ht : f ≤ t ∧ t ≤ 199 := by show f ≤ min 199 (f + w) ∧ min 199 (f + w) ≤ 199; omega
  refine ⟨f, t, O4, ?_, hf.1, ht.1, ht.2, c4⟩
  simp [d__law_days_of, dFn, b__law_days_of, e1, e2, ev, e3, e4, ew, s4, s2, mn, f, t]
end Wk31

set_option Elab.async false
set_option linter.all false
set_option maxRecDepth 100000
set_option exponentiation.threshold 10000
set_option maxHeartbeats 0
namespace Wk31
open PySem PySem.Spec L2 TL
theorem e_name {O : List Ob} {n k : Nat} {l : List Str} (h : Bx O n k) (hk : k < 2 ^ 40) (h0 : l ≠ []) (hl : l.length ≤ 40) : ∃ s O', d__law_one_of [.hnd n, .lst .fz (l.map T.str)] O = some (.str s, O') ∧ s ∈ l ∧ Bx O' n (k + 1) := by
  obtain ⟨t, O', e, m, b⟩ := e_one_of (xs := l.map T.str) h hk (by simpa using h0) (by rw [List.length_map]; omega) (noOws_map_str l) (noBrs_map_str l) (brws_map_str l)
  obtain ⟨s, ms, rfl⟩ := List.mem_map.mp m
  exact ⟨s, O', e .fz, ms, b⟩
theorem e_part {O : List Ob} {n k : Nat} {d : Int} {hs ls cs ws : List Str} (w : WOk hs ls cs ws) (h : Bx O n k) (hk : k < 2 ^ 38) (d0 : 0 ≤ d) (d1 : d ≤ 199) : ∃ (p : Part) (O' : List Ob), d__law_part [.hnd n, .dic .br (wkvs hs ls cs ws), .int d] O = some (p.t, O') ∧ p.ok d ∧ (cs.Nodup → p.apart) ∧ Bx O' n (k + 40) := by
  obtain ⟨way, O1, e1, m1, b1⟩ := e_name h (by omega) w.w0 w.wl
  obtain ⟨hand, O2, e2, m2, b2⟩ := e_name b1 (by omega) w.h0 w.hl
  obtain ⟨load, O3, e3, m3, b3⟩ := e_name b2 (by omega) w.l0 w.ll
  have c0 := w.c0
  have cl := w.cl
  obtain ⟨at_, O4, e4, a0, a1, b4⟩ := e_take (m := (cs.length : Int)) b3 (by omega) (by omega) (by omega)
  obtain ⟨pick, O5, e5, p0, p1, b5⟩ := e_take (m := 14) b4 (by omega) (by omega) (by omega)
  obtain ⟨off, O6, e6, o0, o1, b6⟩ := e_take (m := (cs.length : Int) - 1) b5 (by omega) (by omega) (by omega)
  have wn := w.wn way m1
  have hn := w.hn hand m2
  have ln := w.ln load m3
  have i1 : at_.toNat < cs.length := by omega
  have q0 : 0 ≤ (at_ + 1 + off) % (cs.length : Int) := Int.emod_nonneg _ (by omega)
  have q1 : (at_ + 1 + off) % (cs.length : Int) < cs.length := Int.emod_lt_of_pos _ (by omega)
  have i2 : ((at_ + 1 + off) % (cs.length : Int)).toNat < cs.length := by omega
  obtain ⟨camp, hc⟩ : ∃ camp, camp = cs[at_.toNat] := ⟨_, rfl⟩
  obtain ⟨other, ho⟩ : ∃ other, other = cs[((at_ + 1 + off) % (cs.length : Int)).toNat] := ⟨_, rfl⟩
  have ac : atI cs at_ = some camp := by rw [hc, atI_nat (j := at_.toNat) (by omega) i1, List.getElem?_eq_getElem i1]
  have ao : atI cs ((at_ + 1 + off) % (cs.length : Int)) = some other := by rw [ho, atI_nat (j := ((at_ + 1 + off) % (cs.length : Int)).toNat) (by omega) i2, List.getElem?_eq_getElem i2]
  have cn : Nm camp := w.cn _ (by rw [hc]; exact List.getElem_mem _)
  have on : Nm other := w.cn _ (by rw [ho]; exact List.getElem_mem _)
  have hap : cs.Nodup → camp ≠ other := fun nd e => by
    rw [hc, ho] at e
    have ne : at_.toNat ≠ ((at_ + 1 + off) % (cs.length : Int)).toNat := fun q => by
      have : at_ = (at_ + 1 + off) % (cs.length : Int) := by omega
      by_cases h : at_ + 1 + off < cs.length
      · rw [Int.emod_eq_of_lt (by omega) h] at this; omega
      · have e3 : (at_ + 1 + off) % (cs.length : Int) = (at_ + 1 + off - cs.length) % (cs.length : Int) := by rw [Int.sub_emod_right]
        rw [e3, Int.emod_eq_of_lt (by omega) (by omega)] at this; omega
    have pw := List.pairwise_iff_getElem.mp (show cs.Pairwise (· ≠ ·) from nd)
    rcases Nat.lt_or_gt_of_ne ne with lt | lt
    · exact pw _ _ i1 i2 lt e
    · exact pw _ _ i2 i1 lt e.symm
  have cp : 0 < cs.length := by omega
  clear hc ho
  have s7 : 7 ≤ sizeLine := by decide
  have s6 : 6 ≤ sizeLine := by decide
  have s5 : 5 ≤ sizeLine := by decide
  have s4 : 4 ≤ sizeLine := by decide
  have s3 : 3 ≤ sizeLine := by decide
  have s2 : 2 ≤ sizeLine := by decide
  have s1 : 1 ≤ sizeLine := by decide
  have mx : ∀ i j : Int, fMax [.int i, .int j] = some (.int (max i j)) := fun i j => rfl
  have adT : ∀ xs ys : List T, noOws xs = true → noOws ys = true → fAdd (.tup xs) (.tup ys) = (fAdd (.tup xs) (.tup ys)) := fun _ _ _ _ => rfl
  -- the common beginning
  have hp : pick = 0 ∨ pick = 1 ∨ pick = 2 ∨ pick = 3 ∨ pick = 4 ∨ pick = 5 ∨ pick = 6 ∨ pick = 7 ∨ pick = 8 ∨ pick = 9 ∨ pick = 10 ∨ pick = 11 ∨ pick = 12 ∨ pick = 13 := by omega
  have hand3 : pick < 3 → ∃ (p : Part) (O' : List Ob), d__law_part [.hnd n, .dic .br (wkvs hs ls cs ws), .int d] O = some (p.t, O') ∧ p.ok d ∧ (cs.Nodup → p.apart) ∧ Bx O' n (k + 40) := fun lt => by
    obtain ⟨x1, P1, f1, x10, x11, g1⟩ := e_pounds b6 (by omega)
    obtain ⟨x2, P2, f2, x20, x21, g2⟩ := e_pounds g1 (by omega)
    obtain ⟨x3, P3, f3, x30, x31, g3⟩ := e_pounds g2 (by omega)
    obtain ⟨x4, P4, f4, x40, x41, g4⟩ := e_take (m := 10) g3 (by omega) (by omega) (by omega)
    obtain ⟨x5, P5, f5, x50, x51, g5⟩ := e_take (m := 3) g4 (by omega) (by omega) (by omega)
    have fin : ∃ v : Int, atI [T.int 0, T.int 9, T.int x4] x5 = some (.int v) ∧ 0 ≤ v ∧ v ≤ 9 := by
      have : x5 = 0 ∨ x5 = 1 ∨ x5 = 2 := by omega
      rcases this with rfl | rfl | rfl
      · exact ⟨0, by simp, by omega, by omega⟩
      · exact ⟨9, by simp, by omega, by omega⟩
      · exact ⟨x4, by simp, by omega, by omega⟩
    obtain ⟨v, ev, v0, v1⟩ := fin
    refine ⟨.hand hand x1 x2 x3 v, P5, ?_, ⟨hn, ⟨x10, x11⟩, ⟨x20, x21⟩, ⟨x30, x31⟩, v0, v1⟩, fun _ => trivial, g5.mono (by omega)⟩
    simp -implicitDefEqProofs [d__law_part, dFn, b__law_part, e1, e2, e3, e4, e5, e6, ac, ao, cp, lt, f1, f2, f3, f4, f5, ev, s6, s3, Part.t, Part.word, Part.rest]
  rcases hp with rfl | rfl | rfl | rfl | rfl | rfl | rfl | rfl | rfl | rfl | rfl | rfl | rfl | rfl
  · exact hand3 (by omega)
  · exact hand3 (by omega)
  · exact hand3 (by omega)
  · obtain ⟨x1, P1, f1, x10, x11, g1⟩ := e_pounds b6 (by omega)
    refine ⟨.off hand, P1, ?_, hn, fun _ => trivial, g1.mono (by omega)⟩
    simp -implicitDefEqProofs [d__law_part, dFn, b__law_part, e1, e2, e3, e4, e5, e6, ac, ao, cp, f1, mx, s4, s2, Part.t, Part.word, Part.rest]
  · obtain ⟨x1, P1, f1, x10, x11, g1⟩ := e_pounds b6 (by omega)
    refine ⟨.load load (max 1 x1) camp, P1, ?_, ⟨ln, by omega, by omega, cn⟩, fun _ => trivial, g1.mono (by omega)⟩
    simp -implicitDefEqProofs [d__law_part, dFn, b__law_part, e1, e2, e3, e4, e5, e6, ac, ao, cp, f1, mx, s4, s2, Part.t, Part.word, Part.rest]
  · obtain ⟨x1, P1, f1, x10, x11, g1⟩ := e_pounds b6 (by omega)
    obtain ⟨x2, P2, f2, x20, x21, g2⟩ := e_pounds g1 (by omega)
    refine ⟨.canoe load (max 1 x1) x2 camp, P2, ?_, ⟨ln, by omega, by omega, ⟨x20, x21⟩, cn⟩, fun _ => trivial, g2.mono (by omega)⟩
    simp -implicitDefEqProofs [d__law_part, dFn, b__law_part, e1, e2, e3, e4, e5, e6, ac, ao, cp, f1, f2, mx, s5, Part.t, Part.word, Part.rest]
  · obtain ⟨x1, P1, f1, x10, x11, g1⟩ := e_take (m := 10000) b6 (by omega) (by omega) (by omega)
    obtain ⟨x2, P2, f2, x20, x21, g2⟩ := e_take (m := 4) g1 (by omega) (by omega) (by omega)
    obtain ⟨x3, P3, f3, x30, x31, g3⟩ := e_take (m := 9) g2 (by omega) (by omega) (by omega)
    have fin : ∃ v : Int, atI [T.int 1, T.int 320, T.int 10000, T.int (1 + x1)] x2 = some (.int v) ∧ 1 ≤ v ∧ v ≤ 10000 := by
      have : x2 = 0 ∨ x2 = 1 ∨ x2 = 2 ∨ x2 = 3 := by omega
      rcases this with rfl | rfl | rfl | rfl
      · exact ⟨1, by simp, by omega, by omega⟩
      · exact ⟨320, by simp, by omega, by omega⟩
      · exact ⟨10000, by simp, by omega, by omega⟩
      · exact ⟨1 + x1, by simp, by omega, by omega⟩
    obtain ⟨v, ev, v0, v1⟩ := fin
    refine ⟨.way way camp other "land" v (1 + x3), P3, ?_, ⟨wn, cn, on, .inl rfl, v0, v1, by omega, by omega⟩, hap, g3.mono (by omega)⟩
    simp -implicitDefEqProofs [d__law_part, dFn, b__law_part, e1, e2, e3, e4, e5, e6, ac, ao, cp, f1, f2, f3, ev, s7, s4, s2, Part.t, Part.word, Part.rest]
  · obtain ⟨x1, P1, f1, x10, x11, g1⟩ := e_take (m := 10000) b6 (by omega) (by omega) (by omega)
    obtain ⟨x2, P2, f2, x20, x21, g2⟩ := e_take (m := 4) g1 (by omega) (by omega) (by omega)
    obtain ⟨x3, P3, f3, x30, x31, g3⟩ := e_take (m := 9) g2 (by omega) (by omega) (by omega)
    have fin : ∃ v : Int, atI [T.int 1, T.int 320, T.int 10000, T.int (1 + x1)] x2 = some (.int v) ∧ 1 ≤ v ∧ v ≤ 10000 := by
      have : x2 = 0 ∨ x2 = 1 ∨ x2 = 2 ∨ x2 = 3 := by omega
      rcases this with rfl | rfl | rfl | rfl
      · exact ⟨1, by simp, by omega, by omega⟩
      · exact ⟨320, by simp, by omega, by omega⟩
      · exact ⟨10000, by simp, by omega, by omega⟩
      · exact ⟨1 + x1, by simp, by omega, by omega⟩
    obtain ⟨v, ev, v0, v1⟩ := fin
    refine ⟨.way way camp other "water" v (1 + x3), P3, ?_, ⟨wn, cn, on, .inr rfl, v0, v1, by omega, by omega⟩, hap, g3.mono (by omega)⟩
    simp -implicitDefEqProofs [d__law_part, dFn, b__law_part, e1, e2, e3, e4, e5, e6, ac, ao, cp, f1, f2, f3, ev, s7, s4, s2, Part.t, Part.word, Part.rest]
  · obtain ⟨u1, u2, P1, f1, x1, x2, x3, g1⟩ := e_days_of b6 (by omega) d0 d1
    obtain ⟨y1, y2, P2, f2, z1, z2, z3, g2⟩ := e_days_of g1 (by omega) d0 d1
    have ad1 : fAdd (.tup [.str "shut", .str way]) (.tup [.int u1, .int u2]) = some (.tup [.str "shut", .str way, .int u1, .int u2]) := rfl
    have ad2 : fAdd (.tup [.str "storm"]) (.tup [.int y1, .int y2]) = some (.tup [.str "storm", .int y1, .int y2]) := rfl
    refine ⟨.shut way u1 u2, P2, ?_, ⟨wn, x1, x2, x3⟩, fun _ => trivial, g2.mono (by omega)⟩
    simp -implicitDefEqProofs [d__law_part, dFn, b__law_part, e1, e2, e3, e4, e5, e6, ac, ao, cp, f1, f2, ad1, ad2, s4, s2, s1, Part.t, Part.word, Part.rest]
  · obtain ⟨u1, u2, P1, f1, x1, x2, x3, g1⟩ := e_days_of b6 (by omega) d0 d1
    obtain ⟨y1, y2, P2, f2, z1, z2, z3, g2⟩ := e_days_of g1 (by omega) d0 d1
    have ad1 : fAdd (.tup [.str "shut", .str way]) (.tup [.int u1, .int u2]) = some (.tup [.str "shut", .str way, .int u1, .int u2]) := rfl
    have ad2 : fAdd (.tup [.str "storm"]) (.tup [.int y1, .int y2]) = some (.tup [.str "storm", .int y1, .int y2]) := rfl
    refine ⟨.storm y1 y2, P2, ?_, ⟨z1, z2, z3⟩, fun _ => trivial, g2.mono (by omega)⟩
    simp -implicitDefEqProofs [d__law_part, dFn, b__law_part, e1, e2, e3, e4, e5, e6, ac, ao, cp, f1, f2, ad1, ad2, s4, s2, s1, Part.t, Part.word, Part.rest]
  · obtain ⟨x1, P1, f1, x10, x11, g1⟩ := e_take (m := 4000) b6 (by omega) (by omega) (by omega)
    obtain ⟨x2, P2, f2, x20, x21, g2⟩ := e_take (m := 3) g1 (by omega) (by omega) (by omega)
    have fin : ∃ v : Int, atI [T.int 1, T.int 4000, T.int (1 + x1)] x2 = some (.int v) ∧ 1 ≤ v ∧ v ≤ 4000 := by
      have : x2 = 0 ∨ x2 = 1 ∨ x2 = 2 := by omega
      rcases this with rfl | rfl | rfl
      · exact ⟨1, by simp, by omega, by omega⟩
      · exact ⟨4000, by simp, by omega, by omega⟩
      · exact ⟨1 + x1, by simp, by omega, by omega⟩
    obtain ⟨v, ev, v0, v1⟩ := fin
    refine ⟨.store camp v, P2, ?_, ⟨cn, v0, v1⟩, fun _ => trivial, g2.mono (by omega)⟩
    simp -implicitDefEqProofs [d__law_part, dFn, b__law_part, e1, e2, e3, e4, e5, e6, ac, ao, cp, f1, f2, ev, s4, s3, s2, s1, Part.t, Part.word, Part.rest]
  · obtain ⟨x1, P1, f1, x10, x11, g1⟩ := e_take (m := 4000) b6 (by omega) (by omega) (by omega)
    obtain ⟨x2, P2, f2, x20, x21, g2⟩ := e_take (m := 3) g1 (by omega) (by omega) (by omega)
    have fin : ∃ v : Int, atI [T.int 1, T.int 4000, T.int (1 + x1)] x2 = some (.int v) ∧ 1 ≤ v ∧ v ≤ 4000 := by
      have : x2 = 0 ∨ x2 = 1 ∨ x2 = 2 := by omega
      rcases this with rfl | rfl | rfl
      · exact ⟨1, by simp, by omega, by omega⟩
      · exact ⟨4000, by simp, by omega, by omega⟩
      · exact ⟨1 + x1, by simp, by omega, by omega⟩
    obtain ⟨v, ev, v0, v1⟩ := fin
    refine ⟨.fill v, P2, ?_, ⟨v0, v1⟩, fun _ => trivial, g2.mono (by omega)⟩
    simp -implicitDefEqProofs [d__law_part, dFn, b__law_part, e1, e2, e3, e4, e5, e6, ac, ao, cp, f1, f2, ev, s4, s3, s2, s1, Part.t, Part.word, Part.rest]
  · obtain ⟨x1, P1, f1, x10, x11, g1⟩ := e_take (m := 2) b6 (by omega) (by omega) (by omega)
    have : x1 = 0 ∨ x1 = 1 := by omega
    rcases this with rfl | rfl
    · refine ⟨.take load, P1, ?_, ln, fun _ => trivial, g1.mono (by omega)⟩
      simp -implicitDefEqProofs [d__law_part, dFn, b__law_part, e1, e2, e3, e4, e5, e6, ac, ao, cp, f1, s2, Part.t, Part.word, Part.rest]
    · refine ⟨.leave load, P1, ?_, ln, fun _ => trivial, g1.mono (by omega)⟩
      simp -implicitDefEqProofs [d__law_part, dFn, b__law_part, e1, e2, e3, e4, e5, e6, ac, ao, cp, f1, s2, Part.t, Part.word, Part.rest]
  · obtain ⟨x1, P1, f1, x10, x11, g1⟩ := e_take (m := 2) b6 (by omega) (by omega) (by omega)
    have hx : x1 = 0 ∨ x1 = 1 := by omega
    refine ⟨.go way, P1, ?_, wn, fun _ => trivial, g1.mono (by omega)⟩
    rcases hx with rfl | rfl <;> simp -implicitDefEqProofs [d__law_part, dFn, b__law_part, e1, e2, e3, e4, e5, e6, ac, ao, cp, f1, s2, Part.t, Part.word, Part.rest]
end Wk31

set_option Elab.async false
set_option linter.all false
set_option maxRecDepth 100000
set_option exponentiation.threshold 10000
set_option maxHeartbeats 0
namespace Wk31
open PySem PySem.Spec L2 TL
/-! ### names -/
theorem rangeT_map (k : Nat) : rangeT 0 1 k = (List.range k).map fun i : Nat => T.int (i : Int) := by
  unfold rangeT
  refine List.map_congr_left fun i _ => ?_
  show T.int (0 + (i : Int) * 1) = T.int (i : Int)
  congr 1
  omega
theorem chars_loop {n : Nat} {x0 x1 x2 x3 x5 x6 : Option T} : ∀ (ts : List T) (acc : List Nat) (k : Nat) (O : List Ob), Bx O n k → k + ts.length < 2 ^ 39 → acc.length + ts.length ≤ 1000 → (∀ c ∈ acc, 97 ≤ c ∧ c ≤ 122) → ∃ (cs : List Nat) (O' : List Ob), lcGo [7] (gNm 7) tYesD (d2 fIxA (oAuto 4) (oTmp (dCall d__law_take (aCons (oBorS 0) (aCons (oTmp (dC (.int 26))) aNil))))) ts (acc.map fun c => T.str (ch c)) ([some (.hnd n), x1, x2, x3, some (.str abc), x5, x6, none], O) = some (cs.map (fun c => T.str (ch c)), ([some (.hnd n), x1, x2, x3, some (.str abc), x5, x6, none], O')) ∧ cs.length = acc.length + ts.length ∧ (∀ c ∈ cs, 97 ≤ c ∧ c ≤ 122) ∧ Bx O' n (k + ts.length) := by
  intro ts
  induction ts with
  | nil => intro acc k O h _ _ hc; exact ⟨acc, O, rfl, rfl, hc, h⟩
  | cons t ts ih =>
    intro acc k O h hk hl hc
    rw [List.length_cons] at hk hl
    obtain ⟨r, O1, e1, r0, r1, b1⟩ := e_take (m := 26) h (by omega) (by omega) (by omega)
    obtain ⟨cs, O', e2, h1, h2, h3⟩ := ih (acc ++ [r.toNat + 97]) (k + 1) O1 b1 (by omega) (by simp; omega) (fun c m => by
      rcases List.mem_append.mp m with m | m
      · exact hc c m
      · have := List.mem_singleton.mp m; omega)
    refine ⟨cs, O', ?_, by rw [h1]; simp; omega, h2, by rw [List.length_cons]; exact h3.mono (by omega)⟩
    have sl : (acc.map fun c => T.str (ch c)).length < sizeLine := by rw [List.length_map]; exact small_line (by omega)
    have a1 := abc_at r0 r1
    have em : (acc ++ [r.toNat + 97]).map (fun c => T.str (ch c)) = (acc.map fun c => T.str (ch c)) ++ [T.str ⟨#[r.toNat + 97]⟩] := by rw [List.map_append]; rfl
    rw [em] at e2
    rw [lcGo_cons]
    generalize (acc.map fun c => T.str (ch c)) = AT at *
    simp -implicitDefEqProofs [e1, a1, sl, e2]
theorem turn_loop {n : Nat} {x0 x1 x2 x3 : Option T} {O : List Ob} {l : List Str} (hl : l.length < 676) : ∀ (m j : Nat) (z : Str) (x7 : Option T), j + m = 676 → Nm z → (z ∉ l ∨ ∀ t < j, t ∈ l.map TL.code) → ∃ (z' : Str) (y7 : Option T), forGo (gNm 7) (sIf (tOf (d2 (fInB false) (oBorS 6) (oBorS 5))) (sAsg (d2 fAdd (oTmp (d2 fAdd (oTmp (d3 fSl (oAuto 6) pNone (pSome (dC (.int 6))))) (oTmp (d2 fIxA (oAuto 4) (oTmp (d2 fDiv (oBorS 7) (oTmp (dC (.int 26))))))))) (oTmp (d2 fIxA (oAuto 4) (oTmp (d2 fMod (oBorS 7) (oTmp (dC (.int 26)))))))) (gNm 6)) sNil) ((List.range' j m).map fun i : Nat => T.int (i : Int)) ([x0, x1, x2, x3, some (.str abc), some (.lst .ow (l.map T.str)), some (.str z), x7], O) = some (.nx, ([x0, x1, x2, x3, some (.str abc), some (.lst .ow (l.map T.str)), some (.str z'), y7], O)) ∧ Nm z' ∧ z' ∉ l := by
  intro m
  induction m with
  | zero =>
    intro j z x7 hj hz h
    refine ⟨z, x7, rfl, hz, ?_⟩
    rcases h with h | h
    · exact h
    · exfalso
      have q := pigeon (List.range j) (l.map TL.code) List.nodup_range fun x mx => h x (List.mem_range.mp mx)
      rw [List.length_range, List.length_map] at q
      omega
  | succ m ih =>
    intro j z x7 hj hz h
    rw [List.range'_succ, List.map_cons]
    have fl := strs_flat l
    have inf := inF_strs z l
    by_cases hin : z ∈ l
    · have h : ∀ t < j, t ∈ l.map TL.code := by
        rcases h with h | h
        · exact absurd hin h
        · exact h
      obtain ⟨z', y7, e2, h1, h2⟩ := ih (j + 1) (renamed z j) (some (.int (j : Int))) (by omega) (renamed_nm hz (by omega)) (by
        by_cases q : renamed z j ∈ l
        · right
          intro t ht
          by_cases e : t = j
          · subst e
            exact List.mem_map.mpr ⟨_, q, renamed_code z t⟩
          · exact h t (by omega)
        · exact .inl q)
      refine ⟨z', y7, forGo_step ?_ e2, h1, h2⟩
      have z8 : z.length ≤ sizeLine := by rw [len_tl]; exact Nat.le_of_lt (small_line (by have := hz.2.1; show z.cps.toList.length ≤ 1000; omega))
      have a1 := abc_at (r := (j : Int) / 26) (by omega) (by omega)
      have a2 := abc_at (r := (j : Int) % 26) (by omega) (by omega)
      have t1 : ((j : Int) / 26).toNat = j / 26 := by omega
      have t2 : ((j : Int) % 26).toNat = j % 26 := by omega
      rw [t1] at a1
      rw [t2] at a2
      obtain ⟨f1, f2⟩ := renamed_fits (z := z) j
      have ok26 : okDiv (j : Int) 26 = true := okDiv_of _ (by omega) (by omega)
      have ev : (cutS z none (some 6) ++ ch (j / 26 + 97)) ++ ch (j % 26 + 97) = renamed z j := rfl
      unfold ch at f1 f2 ev
      generalize l.map T.str = LT at *
      simp -implicitDefEqProofs [fl, inf, hin, z8, ok26, a1, a2, f1, f2, ev]
    · obtain ⟨z', y7, e2, h1, h2⟩ := ih (j + 1) z (some (.int (j : Int))) (by omega) hz (.inl hin)
      refine ⟨z', y7, forGo_step ?_ e2, h1, h2⟩
      generalize l.map T.str = LT at *
      simp -implicitDefEqProofs [fl, inf, hin]
theorem e_names {O : List Ob} {n k : Nat} {many : Nat} (h : Bx O n k) (hk : k < 2 ^ 38) (hm : many ≤ 24) : ∃ (l : List Str) (O' : List Ob), d__law_names [.hnd n, .int (many : Int)] O = some (.lst .ow (l.map T.str), O') ∧ l.length = many ∧ (∀ s ∈ l, Nm s) ∧ l.Nodup ∧ Bx O' n (k + 20 * many) := by
  have loop : ∀ (m : Nat) (ts : List T) (l : List Str) (k : Nat) (O : List Ob) (x3 x6 x7 : Option T), ts.length = m → l.length + m ≤ 24 → (∀ s ∈ l, Nm s) → l.Nodup → Bx O n k → k + 20 * m < 2 ^ 39 → ∃ (l' : List Str) (O' : List Ob) (y3 y6 y7 : Option T),
      forGo (gNm 3) (sSeq (sAsg (dM1 fJoin (dC (.str "")) (dLc [7] (iR1 (aCons (oTmp (d2 fIxA (oTmp (dLst (aCons (oTmp (dC (.int 1))) (aCons (oTmp (dC (.int 2))) (aCons (oTmp (dC (.int 3))) (aCons (oTmp (dC (.int 8))) aNil)))))) (oTmp (dCall d__law_take (aCons (oBorS 0) (aCons (oTmp (dC (.int 4))) aNil)))))) aNil)) (gNm 7) tYesD (d2 fIxA (oAuto 4) (oTmp (dCall d__law_take (aCons (oBorS 0) (aCons (oTmp (dC (.int 26))) aNil))))))) (gNm 6))
    (sSeq (sIf (tOf (d2 fEq (oTmp (dCall d__law_take (aCons (oBorS 0) (aCons (oTmp (dC (.int 12))) aNil)))) (oTmp (dC (.int 0))))) (sAsg (d2 fIxA (oTmp (dM1 fSplit (dUse 2) (dC (.str " ")))) (oTmp (dCall d__law_take (aCons (oBorS 0) (aCons (oTmp (dC (.int 18))) aNil))))) (gNm 6)) sNil)
    (sSeq (sFor (iR1 (aCons (oTmp (dC (.int 676))) aNil)) (gNm 7) (sIf (tOf (d2 (fInB false) (oBorS 6) (oBorS 5))) (sAsg (d2 fAdd (oTmp (d2 fAdd (oTmp (d3 fSl (oAuto 6) pNone (pSome (dC (.int 6))))) (oTmp (d2 fIxA (oAuto 4) (oTmp (d2 fDiv (oBorS 7) (oTmp (dC (.int 26))))))))) (oTmp (d2 fIxA (oAuto 4) (oTmp (d2 fMod (oBorS 7) (oTmp (dC (.int 26)))))))) (gNm 6)) sNil))
    (sDrop (dApp 5 (dUse 6)))))) ts ([some (.hnd n), some (.int (many : Int)), some (.str allWords), x3, some (.str abc), some (.lst .ow (l.map T.str)), x6, x7], O) = some (.nx, ([some (.hnd n), some (.int (many : Int)), some (.str allWords), y3, some (.str abc), some (.lst .ow (l'.map T.str)), y6, y7], O')) ∧ l'.length = l.length + m ∧ (∀ s ∈ l', Nm s) ∧ l'.Nodup ∧ Bx O' n (k + 20 * m) := by
    intro m
    induction m with
    | zero =>
      intro ts l k O x3 x6 x7 ht _ hn hd b _
      have : ts = [] := List.length_eq_zero_iff.mp ht
      subst this
      exact ⟨l, O, x3, x6, x7, rfl, rfl, hn, hd, b⟩
    | succ m ih =>
      intro ts l k O x3 x6 x7 ht hl hn hd b hk
      obtain ⟨t, ts, rfl⟩ : ∃ t r, ts = t :: r := by
        cases ts with
        | nil => cases ht
        | cons t r => exact ⟨t, r, rfl⟩
      rw [List.length_cons] at ht
      obtain ⟨r1, O1, e1, a1, c1, b1⟩ := e_take (m := 4) b (by omega) (by omega) (by omega)
      have pick : ∃ v : Nat, atI [T.int 1, T.int 2, T.int 3, T.int 8] r1 = some (.int (v : Int)) ∧ 1 ≤ v ∧ v ≤ 8 := by
        have : r1 = 0 ∨ r1 = 1 ∨ r1 = 2 ∨ r1 = 3 := by omega
        rcases this with rfl | rfl | rfl | rfl
        · exact ⟨1, by simp, by omega, by omega⟩
        · exact ⟨2, by simp, by omega, by omega⟩
        · exact ⟨3, by simp, by omega, by omega⟩
        · exact ⟨8, by simp, by omega, by omega⟩
      obtain ⟨v, ev, v1, v8⟩ := pick
      have rl : (rangeT 0 1 v).length = v := by simp [rangeT]
      obtain ⟨cs, O2, e2, l2, g2, b2⟩ := chars_loop (x0 := none) (x1 := some (.int (many : Int))) (x2 := some (.str allWords)) (x3 := some t) (x5 := some (.lst .ow (l.map T.str))) (x6 := x6) (rangeT 0 1 v) [] (k + 1) O1 b1 (by rw [rl]; omega) (by rw [rl]; simp; omega) (fun c m => absurd m (by simp))
      rw [rl] at b2 l2
      simp only [List.length_nil, Nat.zero_add] at l2
      have jn : fJoin (.str "") (.lst .ow (cs.map fun c => T.str (ch c))) = some (.str (Txt.join "" (cs.map ch))) := by
        have e : (cs.map fun c => T.str (ch c)) = (cs.map ch).map T.str := by rw [List.map_map]; rfl
        have sm : ((cs.map ch).map (·.length)).sum = cs.length := by
          have : ∀ l : List Nat, ((l.map ch).map (·.length)).sum = l.length := fun l => by
            induction l with
            | nil => rfl
            | cons a l ih => simp only [List.map_cons, List.sum_cons, List.length_cons]; rw [ih]; show 1 + _ = _; omega
          exact this cs
        rw [e]
        show (strsT ((cs.map ch).map T.str)).bind (fun ys => if (ys.map (·.length)).sum + ys.length * ("" : Str).length ≤ 16777216 then some (T.str (Txt.join "" ys)) else none) = _
        rw [strsT_map, Option.bind_some, if_pos (by
          have : ("" : Str).length = 0 := by decide +kernel
          rw [sm, this]; omega)]
      have nm1 : Nm (Txt.join "" (cs.map ch)) := by
        unfold Nm
        rw [join_chars]
        exact ⟨by omega, by omega, g2⟩
      obtain ⟨r3, O3, e3, a3, c3, b3⟩ := e_take (m := 12) b2 (by omega) (by omega) (by omega)
      -- the name ahead of the turns
      have two : ∃ (z : Str) (O4 : List Ob) (b4 : Nm z), Bx O4 n (k + 1 + v + 1 + 1) ∧ ((r3 = 0 ∧ ∃ r4, d__law_take [.hnd n, .int 18] O3 = some (.int r4, O4) ∧ atI (wordL.map T.str) r4 = some (.str z)) ∨ (r3 ≠ 0 ∧ z = Txt.join "" (cs.map ch) ∧ O4 = O3)) := by
        by_cases h0 : r3 = 0
        · obtain ⟨r4, O4, e4, a4, c4, b4⟩ := e_take (m := 18) b3 (by omega) (by omega) (by omega)
          have hw : r4.toNat < wordL.length := by show r4.toNat < 18; omega
          exact ⟨wordL[r4.toNat], O4, words_nm _ (List.getElem_mem hw), b4.mono (by omega), .inl ⟨h0, r4, e4, by rw [atI_map_str, atI_nat (j := r4.toNat) (by omega) hw, List.getElem?_eq_getElem hw]; rfl⟩⟩
        · exact ⟨_, O3, nm1, b3.mono (by omega), .inr ⟨h0, rfl, rfl⟩⟩
      obtain ⟨z, O4, zn, b4, two⟩ := two
      obtain ⟨z', y7, e5, zn', znl⟩ := turn_loop (n := n) (x0 := some (.hnd n)) (x1 := some (.int (many : Int))) (x2 := some (.str allWords)) (x3 := some t) (O := O4) (l := l) (by omega) 676 0 z none rfl zn (.inr fun t h => absurd h (by omega))
      have r676 : rangeT 0 1 676 = (List.range' 0 676).map fun i : Nat => T.int (i : Int) := by rw [rangeT_map, List.range_eq_range']
      rw [← r676] at e5
      obtain ⟨l', O', y3, y6, y7', e6, h1, h2, h3, h4⟩ := ih ts (l ++ [z']) (k + 20) O4 (some t) (some (.str z')) y7 (by omega) (by simp; omega) (fun s m => by
        rcases List.mem_append.mp m with m | m
        · exact hn s m
        · rw [List.mem_singleton.mp m]; exact zn') (List.nodup_append.mpr ⟨hd, by simp, fun a ma b mb e => znl (by rw [← List.mem_singleton.mp mb, ← e]; exact ma)⟩) (b4.mono (by omega)) (by omega)
      refine ⟨l', O', y3, y6, y7', forGo_step ?_ e6, by rw [h1]; simp; omega, h2, h3, h4.mono (by omega)⟩
      have s4 : 4 ≤ sizeLine := by decide
      have okv : okR (v : Int) = true := decide_eq_true ⟨by omega, by omega⟩
      have ok676 : okR 676 = true := by decide
      have sll : l.length < sizeLine := small_line (by omega)
      have wsp := words_split
      rw [List.map_append]
      have lm : (l.map T.str).length = l.length := List.length_map _
      generalize allWords = AW at *
      generalize abc = AB at *
      rw [List.map_nil] at e2
      rcases two with ⟨h0, r4, e4, at4⟩ | ⟨h0, rfl, rfl⟩
      · subst h0
        generalize l.map T.str = LT at *
        generalize wordL.map T.str = WL at *
        generalize (cs.map fun c => T.str (ch c)) = CT at *
        simp -implicitDefEqProofs [e1, ev, s4, okv, ok676, e2, jn, e3, e4, wsp, at4, e5, getL, putL, lm, sll]
      · generalize l.map T.str = LT at *
        generalize (cs.map fun c => T.str (ch c)) = CT at *
        simp -implicitDefEqProofs [e1, ev, s4, okv, ok676, e2, jn, e3, h0, e5, getL, putL, lm, sll]
  have rl : (rangeT 0 1 many).length = many := by simp [rangeT]
  obtain ⟨l', O', y3, y6, y7, e, h1, h2, h3, h4⟩ := loop many (rangeT 0 1 many) [] k O none none none rl (by simpa using hm) (fun s m => absurd m (by simp)) List.nodup_nil h (by omega)
  refine ⟨l', O', ?_, by simpa using h1, h2, h3, h4⟩
  have okm : okR (many : Int) = true := decide_eq_true ⟨by omega, by omega⟩
  rw [List.map_nil] at e
  have nb := noBrs_map_str l'
  generalize l'.map T.str = LT at *
  unfold abc allWords at e
  have s2 : 2 ≤ sizeLine := by decide
  have s0 : 0 ≤ sizeLine := by decide
  simp -implicitDefEqProofs [d__law_names, dFn, b__law_names, okm, e, nb, s2, s0]
end Wk31

set_option Elab.async false
set_option linter.all false
set_option maxRecDepth 100000
set_option exponentiation.threshold 10000
set_option maxHeartbeats 0
namespace Wk31
open PySem PySem.Spec L2 TL
/-! ### the world -/
theorem e_pools {O : List Ob} {n k : Nat} {x1 x2 : Option T} {m1 m2 m3 m4 : Nat} (h : Bx O n k) (hk : k < 2 ^ 37) (h1 : m1 ≤ 24) (h2 : m2 ≤ 24) (h3 : m3 ≤ 24) (h4 : m4 ≤ 24) : ∃ (l1 l2 l3 l4 : List Str) (O' : List Ob), lcGo [4] (gNm 4) tYesD (dCall d__law_names (aCons (oBorS 0) (aCons (oBorS 4) aNil))) [.int (m1 : Int), .int (m2 : Int), .int (m3 : Int), .int (m4 : Int)] [] ([some (.hnd n), x1, x2, none, none], O) = some ([.lst .ow (l1.map T.str), .lst .ow (l2.map T.str), .lst .ow (l3.map T.str), .lst .ow (l4.map T.str)], ([some (.hnd n), x1, x2, none, none], O')) ∧ l1.length = m1 ∧ l2.length = m2 ∧ l3.length = m3 ∧ l4.length = m4 ∧ (∀ s ∈ l1, Nm s) ∧ (∀ s ∈ l2, Nm s) ∧ (∀ s ∈ l3, Nm s) ∧ (∀ s ∈ l4, Nm s) ∧ l3.Nodup ∧ Bx O' n (k + 20 * (m1 + m2 + m3 + m4)) := by
  obtain ⟨l1, O1, e1, a1, b1, c1, d1⟩ := e_names h (by omega) h1
  obtain ⟨l2, O2, e2, a2, b2, c2, d2⟩ := e_names d1 (by omega) h2
  obtain ⟨l3, O3, e3, a3, b3, c3, d3⟩ := e_names d2 (by omega) h3
  obtain ⟨l4, O4, e4, a4, b4, c4, d4⟩ := e_names d3 (by omega) h4
  refine ⟨l1, l2, l3, l4, O4, ?_, a1, a2, a3, a4, b1, b2, b3, b4, c3, d4.mono (by omega)⟩
  have s0 : 0 < sizeLine := by decide
  have s1 : 1 < sizeLine := by decide
  have s2 : 2 < sizeLine := by decide
  have s3 : 3 < sizeLine := by decide
  have q1 := noBrs_map_str l1
  have q2 := noBrs_map_str l2
  have q3 := noBrs_map_str l3
  have q4 := noBrs_map_str l4
  rw [lcGo_cons]
  generalize l1.map T.str = L1 at *
  generalize l2.map T.str = L2 at *
  generalize l3.map T.str = L3 at *
  generalize l4.map T.str = L4 at *
  simp -implicitDefEqProofs [lcGo_cons, e1, e2, e3, e4, s0, s1, s2, s3, q1, q2, q3, q4]
theorem e_world {O : List Ob} {n k : Nat} (h : Bx O n k) (hk : k < 2 ^ 36) : ∃ (hs ls cs ws : List Str) (O' : List Ob), d__law_world [.hnd n] O = some (.dic .ow (wkvs hs ls cs ws), O') ∧ WOk hs ls cs ws ∧ cs.Nodup ∧ Bx O' n (k + 3000) := by
  obtain ⟨r1, O1, e1, a1, c1, b1⟩ := e_take (m := 4) h (by omega) (by omega) (by omega)
  obtain ⟨r2, O2, e2, a2, c2, b2⟩ := e_take (m := 3) b1 (by omega) (by omega) (by omega)
  obtain ⟨r3, O3, e3, a3, c3, b3⟩ := e_take (m := 4) b2 (by omega) (by omega) (by omega)
  obtain ⟨r4, O4, e4, a4, c4, b4⟩ := e_take (m := 3) b3 (by omega) (by omega) (by omega)
  have t2 : 1 + r2 = ((1 + r2).toNat : Int) := by omega
  have t3 : 1 + r3 = ((1 + r3).toNat : Int) := by omega
  have t4 : 2 + r4 = ((2 + r4).toNat : Int) := by omega
  have s4 : 4 ≤ sizeLine := by decide
  have nd : ([Sum.inr "hands", Sum.inr "loads", Sum.inr "camps", Sum.inr "ways"] : List Key).Nodup := by decide +kernel
  -- the pools, whatever their sizes
  have core : ∀ (m1 m2 m3 m4 : Nat) (g : Bool) (x2 : T), m1 ≤ 24 → m2 ≤ 24 → m3 ≤ 24 → m4 ≤ 24 → 1 ≤ m1 → 1 ≤ m2 → 2 ≤ m3 → 1 ≤ m4 → g = decide (r1 = 0) → x2 = .lst (if g = true then .ow else .fz) [.int (1 + r2), .int (1 + r3), .int (2 + r4), .int 2] → (if g = true then ([.int 8, .int 24, .int 10, .int 16] : List T) else [.int (1 + r2), .int (1 + r3), .int (2 + r4), .int 2]) = [.int (m1 : Int), .int (m2 : Int), .int (m3 : Int), .int (m4 : Int)] → ∃ (hs ls cs ws : List Str) (O' : List Ob), d__law_world [.hnd n] O = some (.dic .ow (wkvs hs ls cs ws), O') ∧ WOk hs ls cs ws ∧ cs.Nodup ∧ Bx O' n (k + 3000) := by
    intro m1 m2 m3 m4 g x2 h1 h2 h3 h4 g1 g2 g3 g4 eg ex el
    obtain ⟨l1, l2, l3, l4, O5, e5, i1, i2, i3, i4, n1, n2, n3, n4, nd3, b5⟩ := e_pools (x1 := some (.bl g)) (x2 := some x2) b4 (by omega) h1 h2 h3 h4
    obtain ⟨r6, O6, e6, a6, c6, b6⟩ := e_take (m := 4) b5 (by omega) (by omega) (by omega)
    have q1 := noBrs_map_str l1
    have q2 := noBrs_map_str l2
    have q3 := noBrs_map_str l3
    have q4 := noBrs_map_str l4
    have w1 := noOws_map_str l1
    have w2 := noOws_map_str l2
    have w3 := noOws_map_str l3
    have w4 := noOws_map_str l4
    have f1 := frzs_map_str l1
    have f2 := frzs_map_str l2
    have f3 := frzs_map_str l3
    have f4 := frzs_map_str l4
    have f38 := frzs_map_str (l3.take 8)
    have w38 := noOws_map_str (l3.take 8)
    have q38 := noBrs_map_str (l3.take 8)
    have ct : cutT (l3.map T.str) none (some 8) = (l3.take 8).map T.str := by rw [List.map_take]; exact cutT_to _ 8
    have ne : ∀ {l : List Str} {m : Nat}, l.length = m → 1 ≤ m → l ≠ [] := fun e hm e2 => by rw [e2] at e; simp at e; omega
    subst eg ex
    by_cases h6 : r6 = 0
    · refine ⟨l3.take 8, l3, l3, l3, O6, ?_, ⟨?_, ne i3 (by omega), by omega, ne i3 (by omega), by rw [List.length_take]; omega, by omega, by omega, by omega, fun s m => n3 s (List.mem_of_mem_take m), n3, n3, n3⟩, nd3, b6.mono (by omega)⟩
      · unfold wkvs
        subst h6
        generalize l1.map T.str = L1 at *
        generalize l2.map T.str = L2 at *
        generalize (l3.take 8).map T.str = L8 at *
        generalize l3.map T.str = L3 at *
        generalize l4.map T.str = L4 at *
        by_cases hg : r1 = 0
        · subst hg
          simp only [decide_true, if_true] at el e5
          rw [← el] at e5
          simp -implicitDefEqProofs [d__law_world, dFn, b__law_world, e1, e2, e3, e4, s4, e5, e6, dicGo, w1, w2, w3, w4, w38, f1, f2, f3, f4, f38, q1, q2, q3, q4, q38, ct, nd]
        · simp only [hg, decide_false, Bool.false_eq_true, if_false] at el e5
          rw [← el] at e5
          simp -implicitDefEqProofs [d__law_world, dFn, b__law_world, e1, e2, e3, e4, s4, hg, e5, e6, dicGo, w1, w2, w3, w4, w38, f1, f2, f3, f4, f38, q1, q2, q3, q4, q38, ct, nd]
      · intro e
        have := congrArg List.length e
        rw [List.length_take, List.length_nil] at this
        omega
    · refine ⟨l1, l2, l3, l4, O6, ?_, ⟨ne i1 g1, ne i2 g2, by omega, ne i4 g4, by omega, by omega, by omega, by omega, n1, n2, n3, n4⟩, nd3, b6.mono (by omega)⟩
      unfold wkvs
      generalize l1.map T.str = L1 at *
      generalize l2.map T.str = L2 at *
      generalize (l3.take 8).map T.str = L8 at *
      generalize l3.map T.str = L3 at *
      generalize l4.map T.str = L4 at *
      by_cases hg : r1 = 0
      · subst hg
        simp only [decide_true, if_true] at el e5
        rw [← el] at e5
        simp -implicitDefEqProofs [d__law_world, dFn, b__law_world, e1, e2, e3, e4, s4, e5, e6, h6, dicGo, w1, w2, w3, w4, f1, f2, f3, f4, q1, q2, q3, q4, nd]
      · simp only [hg, decide_false, Bool.false_eq_true, if_false] at el e5
        rw [← el] at e5
        simp -implicitDefEqProofs [d__law_world, dFn, b__law_world, e1, e2, e3, e4, s4, hg, e5, e6, h6, dicGo, w1, w2, w3, w4, f1, f2, f3, f4, q1, q2, q3, q4, nd]
  by_cases h1 : r1 = 0
  · exact core 8 24 10 16 true _ (by omega) (by omega) (by omega) (by omega) (by omega) (by omega) (by omega) (by omega) (by simp [h1]) rfl rfl
  · exact core (1 + r2).toNat (1 + r3).toNat (2 + r4).toNat 2 false _ (by omega) (by omega) (by omega) (by omega) (by omega) (by omega) (by omega) (by omega) (by simp [h1]) rfl (by rw [← t2, ← t3, ← t4]; rfl)
/-! ### a log -/
theorem e_numbers {O : List Ob} {n k : Nat} {many : Nat} (h : Bx O n k) (hk : k < 2 ^ 39) (hm : many ≤ 60) : ∃ (l : List Int) (O' : List Ob), d__law_numbers_of [.hnd n, .int (many : Int)] O = some (.lst .ow (l.map T.int), O') ∧ l.length = many ∧ l.Nodup ∧ (∀ i ∈ l, 1 ≤ i ∧ i ≤ 9999) ∧ Bx O' n (k + 2) := by
  obtain ⟨r1, O1, e1, a1, c1, b1⟩ := e_take (m := 9999) h (by omega) (by omega) (by omega)
  obtain ⟨r2, O2, e2, a2, c2, b2⟩ := e_take (m := 5) b1 (by omega) (by omega) (by omega)
  have pick : ∃ v : Int, atI [T.int 1, T.int 2, T.int 5, T.int 7, T.int 9998] r2 = some (.int v) ∧ (v = 1 ∨ v = 2 ∨ v = 5 ∨ v = 7 ∨ v = 9998) := by
    have : r2 = 0 ∨ r2 = 1 ∨ r2 = 2 ∨ r2 = 3 ∨ r2 = 4 := by omega
    rcases this with rfl | rfl | rfl | rfl | rfl
    · exact ⟨1, by simp, by omega⟩
    · exact ⟨2, by simp, by omega⟩
    · exact ⟨5, by simp, by omega⟩
    · exact ⟨7, by simp, by omega⟩
    · exact ⟨9998, by simp, by omega⟩
  obtain ⟨v, ev, hv⟩ := pick
  let f : Nat → Int := fun j => 1 + (r1 + v * (j : Int)) % 9999
  have sv : smallI v = true := small_of (by omega) (by omega)
  have lc := lcGo_all (own := [4]) (g := gNm 4) (te := d2 fAdd (oTmp (dC (.int 1))) (oTmp (d2 fMod (oTmp (d2 fAdd (oBorS 2) (oTmp (d2 fMul (oBorS 3) (oBorS 4))))) (oTmp (dC (.int 9999)))))) (S := ([some (.hnd n), some (.int (many : Int)), some (.int r1), some (.int v), none], O2)) (fun j : Nat => T.int (f j)) (fun j : Nat => T.int (j : Int)) (ts := List.range many) (fun j m => ⟨([some (.hnd n), some (.int (many : Int)), some (.int r1), some (.int v), some (.int (j : Int))], O2), ([some (.hnd n), some (.int (many : Int)), some (.int r1), some (.int v), some (.int (j : Int))], O2), by simp, by simp [sv, f], by simp⟩) (by rw [List.length_range]; exact Nat.le_of_lt (small_line (by omega)))
  rw [← rangeT_map] at lc
  refine ⟨(List.range many).map f, O2, ?_, by simp, ?_, fun i m => ?_, b2⟩
  · have s5 : 5 ≤ sizeLine := by decide
    have s2 : 2 ≤ sizeLine := by decide
    have okm : okR (many : Int) = true := decide_eq_true ⟨by omega, by omega⟩
    have em : ((List.range many).map f).map T.int = (List.range many).map fun j => T.int (f j) := by rw [List.map_map]; rfl
    have nb : noBrs ((List.range many).map fun j => T.int (f j)) = true := by rw [← em]; exact noBrs_map_int _
    rw [em]
    generalize ((List.range many).map fun j => T.int (f j)) = LF at *
    simp -implicitDefEqProofs [d__law_numbers_of, dFn, b__law_numbers_of, e1, e2, ev, s5, s2, okm, lc, nb]
  · refine List.pairwise_map.mpr (List.Pairwise.imp_of_mem (fun {a b} ma mb ne => ?_) (show (List.range many).Pairwise (· ≠ ·) from List.nodup_range))
    have h1 := List.mem_range.mp ma
    have h2 := List.mem_range.mp mb
    show 1 + (r1 + v * (a : Int)) % 9999 ≠ 1 + (r1 + v * (b : Int)) % 9999
    rcases hv with rfl | rfl | rfl | rfl | rfl <;> omega
  · obtain ⟨j, mj, rfl⟩ := List.mem_map.mp m
    show 1 ≤ 1 + (r1 + v * (j : Int)) % 9999 ∧ 1 + (r1 + v * (j : Int)) % 9999 ≤ 9999
    omega
theorem e_log {O : List Ob} {n k : Nat} {most : Nat} {hs ls cs ws : List Str} (w : WOk hs ls cs ws) (h : Bx O n k) (hk : k < 2 ^ 36) (hm : most ≤ 60) : ∃ (es : List En) (O' : List Ob), d__law_log [.hnd n, .dic .br (wkvs hs ls cs ws), .int (most : Int)] O = some (.lst .ow (es.map En.t), O') ∧ es.length ≤ most ∧ (∀ e ∈ es, e.ok ∧ (cs.Nodup → e.part.apart)) ∧ Uq es ∧ Bx O' n (k + 5000) := by
  obtain ⟨r1, O1, e1, a1, c1, b1⟩ := e_take (m := 4) h (by omega) (by omega) (by omega)
  have pick : ∃ v : Int, atI [T.int 1, T.int 3, T.int 20, T.int 200] r1 = some (.int v) ∧ 1 ≤ v ∧ v ≤ 200 := by
    have : r1 = 0 ∨ r1 = 1 ∨ r1 = 2 ∨ r1 = 3 := by omega
    rcases this with rfl | rfl | rfl | rfl
    · exact ⟨1, by simp, by omega, by omega⟩
    · exact ⟨3, by simp, by omega, by omega⟩
    · exact ⟨20, by simp, by omega, by omega⟩
    · exact ⟨200, by simp, by omega, by omega⟩
  obtain ⟨v, ev, v1, v2⟩ := pick
  obtain ⟨r2, O2, e2, a2, c2, b2⟩ := e_take (m := (most : Int) + 1) b1 (by omega) (by omega) (by omega)
  obtain ⟨r3, O3, e3, a3, c3, b3⟩ := e_take (m := 2) b2 (by omega) (by omega) (by omega)
  have pick2 : ∃ u : Nat, atI [T.int (most : Int), T.int r2] r3 = some (.int (u : Int)) ∧ u ≤ most := by
    have : r3 = 0 ∨ r3 = 1 := by omega
    rcases this with rfl | rfl
    · exact ⟨most, by simp, by omega⟩
    · exact ⟨r2.toNat, by simp; omega, by omega⟩
  obtain ⟨u, eu, u1⟩ := pick2
  obtain ⟨nums, O4, e4, l4, nd4, ok4, b4⟩ := e_numbers b3 (by omega) (show u ≤ 60 by omega)
  have loop : ∀ (ns : List Int) (es : List En) (k : Nat) (O : List Ob) (x3 x6 : Option T), Bx O n k → k + 60 * ns.length < 2 ^ 38 → es.length + ns.length ≤ 60 → (∀ i ∈ ns, 1 ≤ i ∧ i ≤ 9999) → (∀ e ∈ es, e.ok ∧ (cs.Nodup → e.part.apart)) → (es.map En.num ++ ns).Nodup → ∃ (es' : List En) (O' : List Ob) (y3 y6 : Option T),
      forGo (gNm 3) (sSeq (sAsg (d2 fIxA (oTmp (dLst (aCons (oTmp (dC (.int 199))) (aCons (oTmp (dCall d__law_take (aCons (oBorS 0) (aCons (oBorS 4) aNil)))) (aCons (oTmp (dCall d__law_take (aCons (oBorS 0) (aCons (oBorS 4) aNil)))) (aCons (oTmp (dCall d__law_take (aCons (oBorS 0) (aCons (oTmp (dC (.int 200))) aNil)))) aNil)))))) (oTmp (dCall d__law_take (aCons (oBorS 0) (aCons (oTmp (dC (.int 4))) aNil))))) (gNm 6))
    (sDrop (dApp 5 (d2 fAdd (oTmp (dTup (aCons (oTmp (dUse 3)) (aCons (oTmp (dUse 6)) aNil)))) (oTmp (dCall d__law_part (aCons (oBorS 0) (aCons (oBorS 1) (aCons (oBorS 6) aNil))))))))) (ns.map T.int) ([some (.hnd n), some (.dic .br (wkvs hs ls cs ws)), some (.int (most : Int)), x3, some (.int v), some (.lst .ow (es.map En.t)), x6], O) = some (.nx, ([some (.hnd n), some (.dic .br (wkvs hs ls cs ws)), some (.int (most : Int)), y3, some (.int v), some (.lst .ow (es'.map En.t)), y6], O')) ∧ es'.length = es.length + ns.length ∧ (∀ e ∈ es', e.ok ∧ (cs.Nodup → e.part.apart)) ∧ Uq es' ∧ Bx O' n (k + 60 * ns.length) := by
    intro ns
    induction ns with
    | nil => intro es k O x3 x6 b _ _ _ he hu; exact ⟨es, O, x3, x6, rfl, rfl, he, by rw [List.append_nil] at hu; exact hu, b⟩
    | cons i ns ih =>
      intro es k O x3 x6 b hk hl hi he hu
      rw [List.length_cons] at hk hl
      obtain ⟨p1, P1, f1, x1, z1, g1⟩ := e_take (m := v) b (by omega) (by omega) (by omega)
      obtain ⟨p2, P2, f2, x2, z2, g2⟩ := e_take (m := v) g1 (by omega) (by omega) (by omega)
      obtain ⟨p3, P3, f3, x3', z3, g3⟩ := e_take (m := 200) g2 (by omega) (by omega) (by omega)
      obtain ⟨p4, P4, f4, x4, z4, g4⟩ := e_take (m := 4) g3 (by omega) (by omega) (by omega)
      have pk : ∃ d : Int, atI [T.int 199, T.int p1, T.int p2, T.int p3] p4 = some (.int d) ∧ 0 ≤ d ∧ d ≤ 199 := by
        have : p4 = 0 ∨ p4 = 1 ∨ p4 = 2 ∨ p4 = 3 := by omega
        rcases this with rfl | rfl | rfl | rfl
        · exact ⟨199, by simp, by omega, by omega⟩
        · exact ⟨p1, by simp, by omega, by omega⟩
        · exact ⟨p2, by simp, by omega, by omega⟩
        · exact ⟨p3, by simp, by omega, by omega⟩
      obtain ⟨d, ed, d0, d1⟩ := pk
      obtain ⟨p, P5, f5, ok5, ap5, g5⟩ := e_part w g4 (by omega) d0 d1
      have hi0 := hi i (by simp)
      obtain ⟨es', O', y3, y6, e6, h1, h2, h3, h4⟩ := ih (es ++ [⟨i, d, p⟩]) (k + 60) P5 (some (.int i)) (some (.int d)) (g5.mono (by omega)) (by omega) (by simp; omega) (fun j m => hi j (List.mem_cons_of_mem _ m)) (fun e m => by
        rcases List.mem_append.mp m with m | m
        · exact he e m
        · rw [List.mem_singleton.mp m]; exact ⟨⟨hi0.1, hi0.2, d0, d1, ok5⟩, ap5⟩) (by simpa using hu)
      refine ⟨es', O', y3, y6, forGo_step ?_ e6, by rw [h1]; simp; omega, h2, h3, by rw [List.length_cons]; exact h4.mono (by omega)⟩
      have s4 : 4 ≤ sizeLine := by decide
      have s2 : 2 ≤ sizeLine := by decide
      have ad : fAdd (.tup [.int i, .int d]) p.t = some (En.t ⟨i, d, p⟩) := by
        show fAdd (.tup [.int i, .int d]) (.tup (.str p.word :: p.rest)) = _
        have no : noOws (.str p.word :: p.rest) = true := by rw [noOws_cons, rest_noOw]; rfl
        have ll : 2 + (p.rest.length + 1) ≤ sizeLine := by
          have := (rest_plain ok5).2
          exact Nat.le_of_lt (small_line (by omega))
        simp [fAdd, no, ll, En.t]
      have sl : (es.map En.t).length < sizeLine := by rw [List.length_map]; exact small_line (by omega)
      have vp : ∀ S, view S p.t = p.t := fun _ => rfl
      rw [List.map_append]
      generalize es.map En.t = ET at *
      simp -implicitDefEqProofs [f1, f2, f3, f4, ed, s4, s2, f5, vp, ad, getL, putL, sl]
  obtain ⟨es', O', y3, y6, e6, h1, h2, h3, h4⟩ := loop nums [] (k + 5) O4 none none (b4.mono (by omega)) (by omega) (by simp; omega) ok4 (fun e m => absurd m (by simp)) (by simpa using nd4)
  refine ⟨es', O', ?_, by rw [h1]; simp; omega, h2, h3, h4.mono (by rw [l4]; omega)⟩
  have s4 : 4 ≤ sizeLine := by decide
  have s2 : 2 ≤ sizeLine := by decide
  have s0 : 0 ≤ sizeLine := by decide
  have nb := ens_noBr es'
  have no := noOws_map_int nums
  have nbn := noBrs_map_int nums
  rw [List.map_nil] at e6
  generalize es'.map En.t = ET at *
  generalize nums.map T.int = NT at *
  simp -implicitDefEqProofs [d__law_log, dFn, b__law_log, e1, ev, e2, e3, eu, e4, e6, s4, s2, s0, nb, no, nbn]
/-! ### a list in a drawn order -/
theorem rangeT_down (j : Nat) : rangeT ((j + 1 : Nat) : Int) (-1) (j + 1) = .int ((j + 1 : Nat) : Int) :: rangeT (j : Int) (-1) j := by
  unfold rangeT
  rw [List.range_succ_eq_map, List.map_cons, List.map_map]
  refine List.cons_eq_cons.mpr ⟨congrArg T.int (by omega), List.map_congr_left fun i _ => congrArg T.int ?_⟩
  show ((j + 1 : Nat) : Int) + ((i + 1 : Nat) : Int) * (-1) = (j : Int) + (i : Int) * (-1)
  omega
theorem e_strewn {O : List Ob} {n k : Nat} {m : Mk} {es : List En} (h : Bx O n k) (hk : k < 2 ^ 38) (hl : es.length ≤ 100) : ∃ (es' : List En) (O' : List Ob), d__law_strewn [.hnd n, .lst m.brw (es.map En.t)] O = some (.lst .ow (es'.map En.t), O') ∧ es'.Perm es ∧ Bx O' n (k + 100) := by
  have loop : ∀ (j : Nat) (ys : List En) (k : Nat) (O : List Ob) (x3 x4 : Option T), ys.Perm es → j < es.length ∨ j = 0 → Bx O n k → k + j < 2 ^ 39 → ∃ (ys' : List En) (O' : List Ob) (y3 y4 : Option T), forGo (gNm 3) (sSeq (sAsg (dCall d__law_take (aCons (oBorS 0) (aCons (oTmp (d2 fAdd (oBorS 3) (oTmp (dC (.int 1))))) aNil))) (gNm 4))
    (sAsg (dTup (aCons (oTmp (d2 fIxA (oAuto 2) (oBorS 4))) (aCons (oTmp (d2 fIxA (oAuto 2) (oBorS 3))) aNil))) (gTp [(gIxA 2 (dGet 3)), (gIxA 2 (dGet 4))]))) (rangeT (j : Int) (-1) j) ([some (.hnd n), some (.lst m.brw (es.map En.t)), some (.lst .ow (ys.map En.t)), x3, x4], O) = some (.nx, ([some (.hnd n), some (.lst m.brw (es.map En.t)), some (.lst .ow (ys'.map En.t)), y3, y4], O')) ∧ ys'.Perm es ∧ Bx O' n (k + j) := by
    intro j
    induction j with
    | zero => intro ys k O x3 x4 p _ b _; exact ⟨ys, O, x3, x4, rfl, p, b⟩
    | succ j ih =>
      intro ys k O x3 x4 p hj b hk
      have hj : j + 1 < es.length := by omega
      have hy : ys.length = es.length := p.length_eq
      obtain ⟨r, O1, e1, r0, r1, b1⟩ := e_take (m := ((j + 1 : Nat) : Int) + 1) b (by omega) (by omega) (by omega)
      have q1 : r.toNat < ys.length := by omega
      have q2 : j + 1 < ys.length := by omega
      have sw := List.set_set_perm (as := ys) q2 q1
      obtain ⟨ys', O', y3, y4, e2, p2, b2⟩ := ih ((ys.set (j + 1) ys[r.toNat]).set r.toNat ys[j + 1]) (k + 1) O1 (some (.int ((j + 1 : Nat) : Int))) (some (.int r)) (sw.trans p) (by omega) b1 (by omega)
      have rg := rangeT_down j
      rw [rg]
      refine ⟨ys', O', y3, y4, forGo_step ?_ e2, p2, b2.mono (by omega)⟩
      have a1 : atI (ys.map En.t) r = some ys[r.toNat].t := by rw [atI_map, atI_nat (j := r.toNat) (by omega) q1, List.getElem?_eq_getElem q1]; rfl
      have a2 : atI (ys.map En.t) ((j : Int) + 1) = some ys[j + 1].t := by rw [atI_map, atI_nat (j := j + 1) (by omega) q2, List.getElem?_eq_getElem q2]; rfl
      have n1 := en_noOw ys[r.toNat]
      have n2 := en_noOw ys[j + 1]
      have lm : (ys.map En.t).length = ys.length := List.length_map _
      have i1 : ixN ys.length ((j : Int) + 1) = some (j + 1) := by
        unfold ixN
        rw [if_pos (by omega), if_pos (by omega)]
        congr 1
      have i2 : ixN ys.length r = some r.toNat := by
        unfold ixN
        rw [if_pos (by omega), if_pos (by omega)]
      have no := ens_noOw ys
      have s2 : 2 ≤ sizeLine := by decide
      have c1 : ((j + 1 : Nat) : Int) = (j : Int) + 1 := by omega
      rw [c1] at e1 ⊢
      rw [List.map_set, List.map_set]
      generalize ys[r.toNat].t = T1 at *
      generalize ys[j + 1].t = T2 at *
      generalize ys.map En.t = YT at *
      generalize es.map En.t = ET at *
      simp -implicitDefEqProofs [e1, a1, a2, n1, n2, no, s2, gIxA, getD', getL, putL, lm, i1, i2]
  have no := ens_noOw es
  have fl : ∀ m' : Mk, fList [.lst m' (es.map En.t)] = some (.lst .ow (es.map En.t)) := fun m' => by
    show (if noOws (es.map En.t) = true then some (T.lst .ow (es.map En.t)) else none) = _
    rw [no]; rfl
  have ln : (es.map En.t).length = es.length := List.length_map _
  by_cases h0 : es.length = 0
  · have : es = [] := List.length_eq_zero_iff.mp h0
    subst this
    refine ⟨[], O, ?_, List.Perm.refl _, h.mono (by omega)⟩
    have ok1 : okR (-1) = true := by decide
    have ok0 : okR 0 = true := by decide
    have r0 : rangeT (-1) (-1) 0 = [] := rfl
    have fl0 := fl m.brw
    rw [List.map_nil] at fl0
    cases m <;> simp -implicitDefEqProofs [d__law_strewn, dFn, b__law_strewn, ok1, ok0, r0, Mk.brw] at fl0 ⊢ <;> simp -implicitDefEqProofs [fl0, ok1, ok0, r0]
  · obtain ⟨ys', O', y3, y4, e2, p2, b2⟩ := loop (es.length - 1) es k O none none (List.Perm.refl _) (by omega) h (by omega)
    refine ⟨ys', O', ?_, p2, b2.mono (by omega)⟩
    have fl0 := fl m.brw
    have c1 : ((es.length - 1 : Nat) : Int) = (es.length : Int) - 1 := by omega
    have c2 : ((es.length : Int) - 1).toNat = es.length - 1 := by omega
    rw [c1] at e2
    have ok1 : okR ((es.length : Int) - 1) = true := decide_eq_true ⟨by omega, by omega⟩
    have ok0 : okR 0 = true := by decide
    have nb := ens_noBr ys'
    generalize m.brw = mb at *
    generalize ys'.map En.t = YT at *
    generalize es.map En.t = ET at *
    simp -implicitDefEqProofs [d__law_strewn, dFn, b__law_strewn, fl0, ln, ok1, ok0, c2, e2, nb]
end Wk31

set_option Elab.async false
set_option linter.all false
set_option maxRecDepth 100000
set_option exponentiation.threshold 10000
set_option maxHeartbeats 0
namespace Wk31
open PySem PySem.Spec L2 TL
theorem same_items {n : Nat} {xs ys : List T} {O : List Ob} (ih : ∀ x y, x.noOw = true → y.noOw = true → Sm n x y → d__law_same n [x, y] O = some (.bl true, O)) (hx : noOws xs = true) (hy : noOws ys = true) (hl : xs.length = ys.length) (hs : xs.length ≤ sizeLine) (h : ∀ (i : Nat) (x y : T), xs[i]? = some x → ys[i]? = some y → Sm n x y) (t u : T) :
    lcGo [2, 3] (gTp [(gNm 2), (gNm 3)]) tYesD (dCall (d__law_same n) (aCons (oBorS 2) (aCons (oBorS 3) aNil))) (zipT xs ys) [] ([some t, some u, none, none], O) = some ((zipT xs ys).map fun _ => T.bl true, ([some t, some u, none, none], O)) := by
  have e : zipT xs ys = (zipT xs ys).map id := (List.map_id _).symm
  conv => lhs; rw [e]
  refine lcGo_all (fun _ : T => T.bl true) id (ts := zipT xs ys) (fun p m => ?_) (by rw [zipT_len]; omega)
  obtain ⟨i, hi⟩ := List.mem_iff_getElem?.mp m
  obtain ⟨x, y, h1, h2, rfl⟩ := zipT_get _ _ _ _ hi
  have nx := noOws_mem hx (List.mem_of_getElem? h1)
  have ny := noOws_mem hy (List.mem_of_getElem? h2)
  refine ⟨([some t, some u, some x, some y], O), ([some t, some u, some x, some y], O), by simp, ?_, by simp⟩
  simp [brw_noOw x nx, brw_noOw y ny, ih x y nx ny (h i x y h1 h2)]
theorem e_same : ∀ (n : Nat) (t u : T) (O : List Ob), Sm n t.frz u.frz → d__law_same n [t, u] O = some (.bl true, O)
  | 0, _, _, _, h => (show False from h).elim
  | n + 1, t, u, O, h => by
    have e : d__law_same (n + 1) = dFn 4 (b__law_same (d__law_same n)) := rfl
    rw [e]
    have go : ∀ x y : T, x.noOw = true → y.noOw = true → Sm n x y → d__law_same n [x, y] O = some (.bl true, O) := fun x y nx ny hh => e_same n x y O (by rw [frz_noOw x nx, frz_noOw y ny]; exact hh)
    cases t with
    | int i => cases u with
      | int j => have h : i = j := h; simp [dFn, b__law_same, tyIs, h]
      | _ => exact (show False from h).elim
    | str i => cases u with
      | str j => have h : i = j := h; simp [dFn, b__law_same, tyIs, h]
      | _ => exact (show False from h).elim
    | bl i => cases u with
      | bl j => have h : i = j := h; simp [dFn, b__law_same, tyIs, h]
      | _ => exact (show False from h).elim
    | non => cases u with
      | non => simp [dFn, b__law_same, tyIs]
      | _ => exact (show False from h).elim
    | lst m xs => cases u with
      | lst m' ys =>
        obtain ⟨h1, h2, h3⟩ := (show (frzs xs).length = (frzs ys).length ∧ (frzs xs).length ≤ sizeLine ∧ ∀ (i : Nat) (x y : T), (frzs xs)[i]? = some x → (frzs ys)[i]? = some y → Sm n x y from h)
        have lc := same_items go (noOws_frz xs) (noOws_frz ys) h1 h2 h3 (.lst m.frz (frzs xs)) (.lst m'.frz (frzs ys))
        have hl : (xs.length : Int) = ys.length := by rw [← frzs_len' xs, ← frzs_len' ys, h1]
        have zp : zipOf (.lst m.frz (frzs xs)) (.lst m'.frz (frzs ys)) = some (zipT (frzs xs) (frzs ys)) := by
          show (if (noOws (frzs xs) && noOws (frzs ys)) = true then some (zipT (frzs xs) (frzs ys)) else none) = _
          rw [noOws_frz, noOws_frz]; rfl
        have u0 : ∀ τ : List (Option T), dUse 0 (some (.lst m xs) :: τ, O) = some ((T.lst m xs).frz, (some (T.lst m xs).frz :: τ, O)) := fun τ => use_eq rfl
        have u1 : ∀ (x : Option T) (τ : List (Option T)), dUse 1 (x :: some (.lst m' ys) :: τ, O) = some ((T.lst m' ys).frz, (x :: some (T.lst m' ys).frz :: τ, O)) := fun x τ => use_eq rfl
        simp [dFn, b__law_same, tyIs, hl, u0, u1, -r_dUse, zp, lc, all_true]
      | _ => exact (show False from h).elim
    | tup xs => cases u with
      | tup ys =>
        obtain ⟨h1, h2, h3⟩ := (show (frzs xs).length = (frzs ys).length ∧ (frzs xs).length ≤ sizeLine ∧ ∀ (i : Nat) (x y : T), (frzs xs)[i]? = some x → (frzs ys)[i]? = some y → Sm n x y from h)
        have lc := same_items go (noOws_frz xs) (noOws_frz ys) h1 h2 h3 (.tup (frzs xs)) (.tup (frzs ys))
        have hl : (xs.length : Int) = ys.length := by rw [← frzs_len' xs, ← frzs_len' ys, h1]
        have zp : zipOf (.tup (frzs xs)) (.tup (frzs ys)) = some (zipT (frzs xs) (frzs ys)) := by
          show (if (noOws (frzs xs) && noOws (frzs ys)) = true then some (zipT (frzs xs) (frzs ys)) else none) = _
          rw [noOws_frz, noOws_frz]; rfl
        have u0 : ∀ τ : List (Option T), dUse 0 (some (.tup xs) :: τ, O) = some ((T.tup xs).frz, (some (T.tup xs).frz :: τ, O)) := fun τ => use_eq rfl
        have u1 : ∀ (x : Option T) (τ : List (Option T)), dUse 1 (x :: some (.tup ys) :: τ, O) = some ((T.tup ys).frz, (x :: some (T.tup ys).frz :: τ, O)) := fun x τ => use_eq rfl
        simp [dFn, b__law_same, tyIs, hl, u0, u1, -r_dUse, zp, lc, all_true]
      | _ => exact (show False from h).elim
    | dic m xs => exact (show False from h).elim
    | hnd k => exact (show False from h).elim
/-- two plain things that are one but for their marks -/
theorem same_ow {n : Nat} {t u : T} (O : List Ob) (ht : t.plainT = true) (hd : t.deep ≤ n) (hu : u.plainT = true) (e : t.owT = u.owT) : d__law_same n [t, u] O = some (.bl true, O) :=
  e_same n t u O (Sm_owT n _ _ (by rw [plainT_frz]; exact ht) (by rw [deep_frz]; exact hd) (by rw [owT_frz, owT_frz]; exact e) (by rw [plainT_frz]; exact hu))
theorem copied_items {n : Nat} {xs : List T} {O : List Ob} (ih : ∀ x, x.noOw = true → x.plainT = true → x.deep ≤ n → d__law_copied n [x] O = some (x.owT, O)) (hx : noOws xs = true) (hp : plainTs xs = true) (hd : deeps xs ≤ n) (hs : xs.length ≤ sizeLine) (t : T) :
    lcGo [1] (gNm 1) tYesD (dCall (d__law_copied n) (aCons (oBorS 1) aNil)) xs [] ([some t, none], O) = some (owTs xs, ([some t, none], O)) := by
  have e : xs = xs.map id := (List.map_id _).symm
  rw [owTs_map]
  conv => lhs; rw [e]
  refine lcGo_all T.owT id (ts := xs) (fun p m => ?_) hs
  have n1 := noOws_mem hx m
  have p1 := plainTs_mem hp m
  have d1 := Nat.le_trans (deeps_mem m) hd
  have b1 := noBr_owT p p1
  refine ⟨([some t, some p], O), ([some t, some p], O), by simp, ?_, by simp⟩
  simp [brw_noOw p n1, ih p n1 p1 d1, b1]
theorem e_copied : ∀ (n : Nat) (t : T) (O : List Ob), t.plainT = true → t.deep ≤ n → d__law_copied n [t] O = some (t.owT, O)
  | 0, t, _, _, h => by cases t <;> simp [T.deep] at h
  | n + 1, t, O, hp, hd => by
    have e : d__law_copied (n + 1) = dFn 2 (b__law_copied (d__law_copied n)) := rfl
    rw [e]
    cases t with
    | int i => simp [dFn, b__law_copied, tyIs, T.owT]
    | str i => simp [dFn, b__law_copied, tyIs, T.owT]
    | bl i => simp [dFn, b__law_copied, tyIs, T.owT]
    | non => simp [dFn, b__law_copied, tyIs, T.owT]
    | hnd k => cases hp
    | dic m xs => cases hp
    | lst m xs =>
      obtain ⟨p1, p2⟩ := Bool.and_eq_true_iff.mp (show (plainTs xs && decide (xs.length < sizeLine)) = true from hp)
      have hdx : deeps xs ≤ n := by have : deeps xs + 1 ≤ n + 1 := hd; omega
      have lc := copied_items (O := O) (xs := frzs xs) (fun x _ h1 h2 => e_copied n x O h1 h2) (noOws_frz xs) (by rw [plainTs_frz]; exact p1) (by rw [deeps_frz]; exact hdx) (by rw [frzs_len']; exact Nat.le_of_lt (of_decide_eq_true p2)) (.lst m.frz (frzs xs))
      rw [owTs_frz] at lc
      have u0 : ∀ τ : List (Option T), dUse 0 (some (.lst m xs) :: τ, O) = some ((T.lst m xs).frz, (some (T.lst m xs).frz :: τ, O)) := fun τ => use_eq rfl
      have nf := noOws_frz xs
      have nb := noBrs_owT xs p1
      simp [dFn, b__law_copied, tyIs, u0, -r_dUse, nf, lc, T.owT, nb]
    | tup xs =>
      obtain ⟨p1, p2⟩ := Bool.and_eq_true_iff.mp (show (plainTs xs && decide (xs.length < sizeLine ∧ noOws (owTs xs) = true)) = true from hp)
      have p3 := (of_decide_eq_true p2).2
      have hdx : deeps xs ≤ n := by have : deeps xs + 1 ≤ n + 1 := hd; omega
      have lc := copied_items (O := O) (xs := frzs xs) (fun x _ h1 h2 => e_copied n x O h1 h2) (noOws_frz xs) (by rw [plainTs_frz]; exact p1) (by rw [deeps_frz]; exact hdx) (by rw [frzs_len']; exact Nat.le_of_lt (of_decide_eq_true p2).1) (.tup (frzs xs))
      rw [owTs_frz] at lc
      have u0 : ∀ τ : List (Option T), dUse 0 (some (.tup xs) :: τ, O) = some ((T.tup xs).frz, (some (T.tup xs).frz :: τ, O)) := fun τ => use_eq rfl
      have nf := noOws_frz xs
      have nb := noBrs_owT xs p1
      have ft : fTuple [.lst .ow (owTs xs)] = some (.tup (owTs xs)) := by
        show (if noOws (owTs xs) = true then some (T.tup (owTs xs)) else none) = _
        rw [p3]; rfl
      simp [dFn, b__law_copied, tyIs, u0, -r_dUse, nf, lc, T.owT, nb, ft]
end Wk31

set_option Elab.async false
set_option linter.all false
set_option maxRecDepth 100000
set_option exponentiation.threshold 10000
set_option maxHeartbeats 0
namespace Wk31
open PySem PySem.Spec L2 TL
/-! ### the script -/
theorem e_folded {ns : List Int} {O : List Ob} {p : Nat} (p1 : 1 ≤ p) (p8 : p ≤ 8) : ∃ cells : List Int, d__law_folded [.lst .sc (ns.map T.int), .int (p : Int)] O = some (.lst .ow (cells.map T.int), O) ∧ cells.length ≤ p := by
  have loop : ∀ (xs : List Int) (j : Nat) (cells : List Int) (x3 x4 : Option T), cells.length = p → j + xs.length ≤ 100 → ∃ (c' : List Int) (y3 y4 : Option T), c'.length = p ∧ forGo (gTp [(gNm 3), (gNm 4)]) (sAsg (d2 fAdd (oTmp (d2 fIxA (oAuto 2) (oTmp (d2 fMod (oBorS 3) (oBorS 1))))) (oTmp (d2 fMul (oBorS 4) (oTmp (d2 fAdd (oBorS 3) (oTmp (dC (.int 2)))))))) (gIxA 2 (d2 fMod (oBorS 3) (oBorS 1))))
      (enumT j (xs.map T.int)) ([some (.lst .sc (ns.map T.int)), some (.int (p : Int)), some (.lst .ow (cells.map T.int)), x3, x4], O) = some (.nx, ([some (.lst .sc (ns.map T.int)), some (.int (p : Int)), some (.lst .ow (c'.map T.int)), y3, y4], O)) := by
    intro xs
    induction xs with
    | nil => intro j cells x3 x4 h _; exact ⟨cells, x3, x4, h, rfl⟩
    | cons x xs ih =>
      intro j cells x3 x4 h hj
      rw [List.length_cons] at hj
      have jp : j % p < p := Nat.mod_lt _ (by omega)
      obtain ⟨w, hw⟩ : ∃ w, cells[j % p]? = some w := ⟨cells[j % p]'(by omega), List.getElem?_eq_getElem (by omega)⟩
      obtain ⟨c', y3, y4, h1, e1⟩ := ih (j + 1) (cells.set (j % p) (w + x * ((j : Int) + 2))) (some (.int (j : Int))) (some (.int x)) (by rw [List.length_set]; exact h) (by omega)
      refine ⟨c', y3, y4, h1, ?_⟩
      refine forGo_step (t := .tup [.int (j : Int), .int x]) ?_ e1
      have cm : (j : Int) % (p : Int) = ((j % p : Nat) : Int) := by omega
      have at1 : atI (cells.map T.int) ((j : Int) % (p : Int)) = some (.int w) := by
        rw [atI_map, atI_nat (j := j % p) cm (by omega), hw]; rfl
      have ixn : ixN (cells.map T.int).length ((j : Int) % (p : Int)) = some (j % p) := by
        unfold ixN
        rw [List.length_map, h, cm, if_pos (by omega), if_pos (by omega)]
        congr 1
      have sm : smallI ((j : Int) + 2) = true := decide_eq_true ⟨by omega, by omega⟩
      have no := noOws_map_int cells
      have pp : 0 < p := by omega
      rw [List.map_set]
      generalize cells.map T.int = CT at *
      generalize ns.map T.int = NT at *
      simp -implicitDefEqProofs [no, at1, ixn, sm, gIxA, getD', getL, putL, pp]
  have no := noOws_map_int ns
  have ct1 : cutT (ns.map T.int) none (some (p : Int)) = (ns.take p).map T.int := by rw [List.map_take]; exact cutT_to _ p
  have ct2 : cutT (ns.map T.int) (some (p : Int)) (some 63) = ((ns.take 63).drop p).map T.int := by rw [List.map_drop, List.map_take]; exact cutT_mid _ p 63
  have fl : fList [.lst .ow ((ns.take p).map T.int)] = some (.lst .ow ((ns.take p).map T.int)) := by
    show (if noOws ((ns.take p).map T.int) = true then some (T.lst .ow ((ns.take p).map T.int)) else none) = _
    rw [noOws_map_int]; rfl
  have nd := noOws_map_int ((ns.take 63).drop p)
  by_cases hn : ns.length ≤ p
  · refine ⟨ns.take p, ?_, by rw [List.length_take]; omega⟩
    have d0 : (ns.take 63).drop p = [] := List.drop_of_length_le (by rw [List.length_take]; omega)
    rw [d0] at ct2 nd
    have nb := noBrs_map_int (ns.take p)
    generalize ns.map T.int = NT at *
    generalize (ns.take p).map T.int = CT at *
    simp only [List.map_nil] at ct2
    have en : enumT 0 [] = [] := rfl
    simp -implicitDefEqProofs [d__law_folded, dFn, b__law_folded, no, ct1, ct2, fl, nb, en]
  · obtain ⟨c', y3, y4, h1, e1⟩ := loop ((ns.take 63).drop p) 0 (ns.take p) none none (by rw [List.length_take]; omega) (by simp; omega)
    refine ⟨c', ?_, by omega⟩
    have nb := noBrs_map_int c'
    generalize ns.map T.int = NT at *
    generalize (ns.take p).map T.int = CT at *
    generalize ((ns.take 63).drop p).map T.int = DT at *
    generalize c'.map T.int = C' at *
    simp -implicitDefEqProofs [d__law_folded, dFn, b__law_folded, no, ct1, ct2, fl, nb, nd, e1]
theorem e_box {cells : List Int} {i : Int} {O : List Ob} (h0 : 0 ≤ i) (h1 : i ≤ 10) : ∃ a b : Int, d__law_box [.lst .br (cells.map T.int), .int i] O = some (.lst .ow [.int a, .int b, .int 0], O) ∧ 0 ≤ a ∧ 0 ≤ b ∧ b < 2 ^ 60 := by
  have sm48 : smallI 48271 = true := by decide
  have sm15 : smallI 15485863 = true := by decide
  have s3 : 3 ≤ sizeLine := by decide
  have no := noOws_map_int cells
  have fab : ∀ c : Int, fAbs [.int c] = some (.int c.natAbs) := fun _ => rfl
  have fib : ∀ b : Bool, fInt [.bl b] = some (.int (if b = true then 1 else 0)) := fun _ => rfl
  have smb : ∀ b : Bool, smallI (if b = true then 1 else 0) = true := fun b => by cases b <;> decide
  have smb2 : ∀ y : Int, smallI (if (1000000000000000000 : Int) ≤ y then 1 else 0) = true := fun y => by split <;> decide
  have sm0 : smallI 0 = true := by decide
  have core : ∀ c : Int, 0 ≤ ((c.natAbs : Nat) : Int) * (if decide ((10 : Int) ^ 18 ≤ ((c.natAbs : Nat) : Int)) = true then 1 else 0) ∧ 0 ≤ c % 2147483629 * 48271 + 15485863 * i + 37 ∧ c % 2147483629 * 48271 + 15485863 * i + 37 < 2 ^ 60 := fun c => by
    refine ⟨Int.mul_nonneg (by omega) (by split <;> omega), by omega, by omega⟩
  have pw : (10 : Int) ^ 18 = 1000000000000000000 := by decide
  by_cases hi : i < (cells.length : Int)
  · obtain ⟨c, hc⟩ : ∃ c, atI cells i = some c := by
      rw [atI_nat (j := i.toNat) (by omega) (by omega)]
      exact ⟨cells[i.toNat]'(by omega), List.getElem?_eq_getElem (by omega)⟩
    obtain ⟨g1, g2, g3⟩ := core c
    refine ⟨_, _, ?_, g1, g2, g3⟩
    have at1 : atI (cells.map T.int) i = some (.int c) := by rw [atI_map, hc]; rfl
    have ln : ((cells.map T.int).length : Int) = cells.length := by simp
    generalize cells.map T.int = CT at *
    simp -implicitDefEqProofs [d__law_box, dFn, b__law_box, ln, hi, no, at1, sm48, sm15, s3, fab, fib, smb, smb2, sm0]
  · obtain ⟨g1, g2, g3⟩ := core 0
    refine ⟨_, _, ?_, g1, g2, g3⟩
    have ln : ((cells.map T.int).length : Int) = cells.length := by simp
    generalize cells.map T.int = CT at *
    simp -implicitDefEqProofs [d__law_box, dFn, b__law_box, ln, hi, no, sm48, sm15, s3, fab, fib, smb, smb2, sm0]
/-- a box that has just been laid -/
theorem bx_new {O : List Ob} {a b : Int} (h0 : 0 ≤ a) (h1 : 0 ≤ b) (h2 : b < 2 ^ 60) : Bx (O ++ [.lst [.int a, .int b, .int 0]]) O.length 0 := ⟨a, b, 0, by rw [List.getElem?_append_right (Nat.le_refl _), Nat.sub_self]; rfl, h0, h1, h2, by omega, by omega⟩
end Wk31

set_option Elab.async false
set_option linter.all false
set_option maxRecDepth 100000
set_option exponentiation.threshold 10000
set_option maxHeartbeats 0
namespace Wk31
open PySem PySem.Spec L2 TL
/-! ### weights and lengths as texts -/
theorem e_plain {n : Nat} {O : List Ob} (h : n < 10 ^ 9) : d_plain_number [.str (num n)] O = some (.int n, O) := by
  have l1 := num_pos n
  have l2 := num_len h
  have lc := lcGo_all (own := [1]) (g := gNm 1) (te := d2 (fInB false) (oBorS 1) (oTmp (dC k_FIGURES))) (S := ([some (.str (num n)), none], O)) (fun _ : Nat => T.bl true) (fun c => T.str ⟨#[c]⟩) (ts := numL n) (fun c m => ⟨([some (.str (num n)), some (.str ⟨#[c]⟩)], O), ([some (.str (num n)), some (.str ⟨#[c]⟩)], O), by simp, by
    have : fInB false (.str ⟨#[c]⟩) k_FIGURES = some (.bl (decide (c ∈ ("0123456789" : Str).cps.toList))) := rfl
    have vk : ∀ S, view S k_FIGURES = k_FIGURES := fun _ => rfl
    simp [vk, this, digit_in (numL_dig n c m)], by simp⟩) (Nat.le_trans (numL_len (k := 9) (by omega) h) (by decide))
  have fa : fAll [.lst .ow ((numL n).map fun _ => T.bl true)] = some (.bl true) := by
    have : ((numL n).map fun _ : Nat => T.bl true) = ((numL n).map fun _ => true).map T.bl := by simp
    show (blsT ((numL n).map fun _ : Nat => T.bl true)).bind _ = _
    rw [this, blsT_map]
    show some (T.bl (((numL n).map fun _ => true).all id)) = _
    simp
  have sg : signsOf (num n) = (numL n).map fun c => T.str ⟨#[c]⟩ := by unfold signsOf; rw [cps_num]
  have ls : (num n).length ≤ sizeLine := Nat.le_trans l2 (by decide)
  have i1 : (1 : Int) ≤ (num n).length := by omega
  have i2 : ((num n).length : Int) ≤ 9 := by omega
  have fi : fInt [.str (num n)] = some (.int n) := by
    show (if (num n).length ≤ 640 then (intText? (num n)).bind fun n => some (T.int n) else none) = _
    rw [if_pos (by omega), num_int h]
    rfl
  by_cases h0 : n = 0
  · have nz : num n = "0" := by rw [h0]; exact num_zero
    have at0 : fIxA (.str (num n)) (.int 0) = some (.str "0") := by rw [nz]; rfl
    have nzT : (num n = ("0" : Str)) = True := eq_true nz
    simp -implicitDefEqProofs [d_plain_number, dFn, b_plain_number, k_MOST_FIGURES, ls, i1, i2, sg, lc, fa, at0, nzT, fi]
  · obtain ⟨c, r, e, hc⟩ := num_head (n := n) (by omega)
    have at0 : atI (num n).cps.toList 0 = some c := by rw [cps_num, e]; exact atI_zero c r
    have ne : ¬ (⟨#[c]⟩ : Str) = ("0" : Str) := fun h => hc (by
      have e2 : tl (⟨#[c]⟩ : Str) = tl ("0" : Str) := congrArg tl h
      have e3 : tl ("0" : Str) = [48] := by decide +kernel
      rw [e3] at e2
      have e4 : [c] = [48] := e2
      exact List.head_eq_of_cons_eq e4)
    have ix : fIxA (.str (num n)) (.int 0) = some (.str ⟨#[c]⟩) := by
      rw [fIxA_str, fIx_str, if_pos ls, at0]; rfl
    simp -implicitDefEqProofs [d_plain_number, dFn, b_plain_number, k_MOST_FIGURES, ls, i1, i2, sg, lc, fa, ix, ne, fi]
section
variable {x y z : Str} {a b : Nat}
theorem e_utext {w : Nat} {O : List Ob} (hx : x.length = 1) (hy : y.length = 1) (hz : z.length = 1) (a0 : 0 < a) (b0 : 0 < b) (a1 : a < 1000) (b1 : b < 1000) (h : w < 10 ^ 8) : d_units_text [.int w, unitsT x y z a b] O = some (.str (utext x y z a b w), O) := by
  have vk : ∀ S, view S (unitsT x y z a b) = unitsT x y z a b := fun _ => rfl
  have hk : (unitsT x y z a b).kids = true := rfl
  have step : ∀ (found : Str) (l q : Nat) (u : Str) (x4 x5 : Option T), u.length = 1 → 0 < q → q < 1000 → l < 10 ^ 8 → found.length ≤ 20 → (gTp [gNm 4, gNm 5] (.tup [.str u, .int q]) ([some (.int w), some (unitsT x y z a b), some (.str found), some (.int l), x4, x5], O)).bind
      (sSeq (sIf (tOf (d2 fGe (oBorS 3) (oBorS 5))) (sAug fAugAdd 2 (d2 fAdd (oTmp (dB fStr (aCons (oTmp (d2 fDiv (oBorS 3) (oBorS 5))) aNil))) (oBorS 4))) sNil) (sAsg (d2 fMod (oBorS 3) (oBorS 5)) (gNm 3)))
      = some (.nx, ([some (.int w), some (unitsT x y z a b), some (.str (found ++ upart (l / q) u)), some (.int ((l % q : Nat) : Int)), some (.str u), some (.int q)], O)) := by
    intro found l q u x4 x5 hu hq hq2 hl hf
    have md : (l : Int) % (q : Int) = ((l % q : Nat) : Int) := by omega
    have dv : (l : Int) / (q : Int) = ((l / q : Nat) : Int) := by omega
    have ok : okDiv (l : Int) (q : Int) = true := okDiv_of _ (by omega) (by omega)
    by_cases hg : q ≤ l
    · have hq1 : 0 < l / q := Nat.div_pos hg hq
      have hlt : l / q < 10 ^ 9 := Nat.lt_of_le_of_lt (Nat.div_le_self l q) (by omega)
      have n9 := num_len hlt
      have sl : 40 ≤ sizeLine := by decide
      have c1 : (num (l / q)).length + u.length ≤ sizeLine := by omega
      have c2 : found.length + (num (l / q) ++ u).length ≤ sizeLine := by rw [len_app]; omega
      have hg' : (q : Int) ≤ (l : Int) := by omega
      have pt : upart (l / q) u = num (l / q) ++ u := if_neg (by omega)
      have au : fAugAdd (.str found) (.str (num (l / q) ++ u)) = some (.str (found ++ (num (l / q) ++ u))) := by
        unfold fAugAdd
        exact if_pos c2
      have nq : (0 : Int) < q := by omega
      simp -implicitDefEqProofs [hg', ok, dv, md, fStr_num hlt, c1, au, pt, nq, hq, -Int.natCast_ediv, -Int.natCast_emod]
    · have hq1 : l / q = 0 := Nat.div_eq_of_lt (by omega)
      have hg' : ¬ (q : Int) ≤ (l : Int) := by omega
      have pt : upart (l / q) u = Str.empty := if_pos hq1
      have nq : (0 : Int) < q := by omega
      simp -implicitDefEqProofs [hg', md, pt, app_empty, nq, hq, -Int.natCast_emod]
  have p1 := upart_len (q := w / a) (u := x) (Nat.lt_of_le_of_lt (Nat.div_le_self _ _) (by omega)) hx
  have m1 : w % a < 1000 := by have := Nat.mod_lt w a0; omega
  have p2 := upart_len (q := w % a / b) (u := y) (Nat.lt_of_le_of_lt (Nat.div_le_self _ _) (by omega)) hy
  have m2 : w % a % b < 1000 := by have := Nat.mod_lt (w % a) b0; omega
  have s1 := step Str.empty w a x none none hx a0 a1 h (by show 0 ≤ 20; omega)
  have s2 := step (Str.empty ++ upart (w / a) x) (w % a) b y (some (.str x)) (some (.int (a : Int))) hy b0 b1 (by omega) (by rw [len_app]; show 0 + _ ≤ 20; omega)
  have s3 := step (Str.empty ++ upart (w / a) x ++ upart (w % a / b) y) (w % a % b) 1 z (some (.str y)) (some (.int (b : Int))) hz (by omega) (by omega) (by omega) (by rw [len_app, len_app]; show 0 + _ + _ ≤ 20; omega)
  have it : itemsOf (unitsT x y z a b) = some [.tup [.str x, .int a], .tup [.str y, .int b], .tup [.str z, .int 1]] := rfl
  have no : T.noOw (unitsT x y z a b) = true := rfl
  have loop : ∀ V : Str, Str.empty ++ upart (w / a) x ++ upart (w % a / b) y ++ upart (w % a % b / 1) z = V → forGo (gTp [gNm 4, gNm 5]) (sSeq (sIf (tOf (d2 fGe (oBorS 3) (oBorS 5))) (sAug fAugAdd 2 (d2 fAdd (oTmp (dB fStr (aCons (oTmp (d2 fDiv (oBorS 3) (oBorS 5))) aNil))) (oBorS 4))) sNil) (sAsg (d2 fMod (oBorS 3) (oBorS 5)) (gNm 3)))
      [.tup [.str x, .int a], .tup [.str y, .int b], .tup [.str z, .int 1]] ([some (.int w), some (unitsT x y z a b), some (.str Str.empty), some (.int w), none, none], O) = some (.nx, ([some (.int w), some (unitsT x y z a b), some (.str V), some (.int ((w % a % b % 1 : Nat) : Int)), some (.str z), some (.int 1)], O)) := fun V hV => by
    rw [hV] at s3
    exact forGo_step s1 (forGo_step s2 (forGo_step s3 rfl))
  have e0 : (T.str ("" : Str)) = .str Str.empty := by rw [str_empty]
  have ixl : fIxA (unitsT x y z a b) (.int (-1)) = some (.tup [.str z, .int 1]) := rfl
  by_cases hw : w = 0
  · have lp := loop Str.empty (by
      subst hw
      rw [Nat.zero_div, Nat.zero_mod, Nat.zero_div, Nat.zero_mod, Nat.zero_div]
      rfl)
    have ut : utext x y z a b w = num 0 ++ z := if_pos hw
    have c1 : (num 0).length + z.length ≤ sizeLine := by rw [hz, num_zero]; decide +kernel
    have ad : fAdd (.str "0") (.str z) = some (.str (num 0 ++ z)) := by
      rw [← num_zero]
      exact if_pos c1
    simp -implicitDefEqProofs [d_units_text, dFn, b_units_text, no, it, e0, lp, ut, vk, hk, ixl, ad, -Int.natCast_ediv, -Int.natCast_emod]
  · have whole : Str.empty ++ upart (w / a) x ++ upart (w % a / b) y ++ upart (w % a % b / 1) z = utext x y z a b w := by
      unfold utext
      rw [if_neg hw, empty_app, Nat.div_one, app_assoc]
    have lp := loop _ whole
    have ne' : ¬ utext x y z a b w = Str.empty := fun e => by
      have e2 := congrArg Str.length e
      unfold utext at e2
      rw [if_neg hw, len_app, len_app] at e2
      have e3 : (Str.empty).length = 0 := rfl
      rw [e3] at e2
      by_cases h1 : w / a = 0
      · by_cases h2 : w % a / b = 0
        · by_cases h3 : w % a % b = 0
          · have g1 := Nat.div_add_mod w a
            have g2 := Nat.div_add_mod (w % a) b
            rw [h1, Nat.mul_zero] at g1
            rw [h2, Nat.mul_zero] at g2
            omega
          · have := upart_ne (u := z) h3; omega
        · have := upart_ne (u := y) h2; omega
      · have := upart_ne (u := x) h1; omega
    simp -implicitDefEqProofs [d_units_text, dFn, b_units_text, no, it, e0, lp, ne', -Int.natCast_ediv, -Int.natCast_emod]
/-- the text read again, sign by sign -/
theorem uin_step {O : List Ob} : ∀ (t : T) (found : Nat) (R H : Str) (q worth : Nat) (u : Str) (c : Nat) (x4 x5 x6 x7 x8 x9 : Option T), tl u = [c] → (c < 48 ∨ 57 < c) → q < 10 ^ 8 → worth < 1000 → R.length ≤ 100 → (H = num q ++ u ++ R ∨ (q = 0 ∧ H = R ∧ c ∉ tl R)) → ∃ y4 y5 y6 y7 y8 y9 : Option T,
      (gTp [gNm 4, gNm 5] (.tup [.str u, .int worth]) ([some t, some (unitsT x y z a b), some (.int found), some (.str H), x4, x5, x6, x7, x8, x9], O)).bind
      (sSeq (sAsg (dM1 fPart (dUse 3) (dUse 4)) (gTp [(gNm 6), (gNm 7), (gNm 8)]))
        (sIf (tOf (d2 fEq (oBorS 7) (oBorS 4))) (sSeq (sAsg (dCall d_plain_number (aCons (oBorS 6) aNil)) (gNm 9)) (sSeq (sIf (tOf (d2 fIsN (oBorS 9) (oTmp (dC .non)))) (sRet (dC .non)) sNil) (sSeq (sAug fAugAdd 2 (d2 fMul (oBorS 9) (oBorS 5))) (sAsg (dUse 8) (gNm 3))))) sNil))
      = some (.nx, ([some t, some (unitsT x y z a b), some (.int ((found + q * worth : Nat) : Int)), some (.str R), y4, y5, y6, y7, y8, y9], O)) := by
    have sl : 1000 ≤ sizeLine := by decide
    intro t found R H q worth u c x4 x5 x6 x7 x8 x9 hu hc hq hw hR hn
    have ul : u.length = 1 := by rw [len_tl, hu]; rfl
    have ul0 : (u.length == 0) = false := by rw [ul]; rfl
    have n9 := num_len (n := q) (by omega)
    rcases hn with rfl | ⟨hq0, rfl, hnot⟩
    · have fp : fPart (.str (num q ++ u ++ R)) (.str u) = some (.tup [.str (num q), .str u, .str R]) := by
        show (if (u.length == 0) = false ∧ (num q ++ u ++ R).length ≤ sizeLine then some (T.tup [.str (Txt.partition (num q ++ u ++ R) u).1, .str (Txt.partition (num q ++ u ++ R) u).2.1, .str (Txt.partition (num q ++ u ++ R) u).2.2]) else none) = _
        rw [if_pos ⟨ul0, by rw [len_app, len_app]; omega⟩, partition_app hu (by rw [tl_num']; exact numL_free hc)]
      have sm : smallI (q : Int) = true := decide_eq_true ⟨by omega, by omega⟩
      have au : fAugAdd (.int (found : Int)) (.int ((q : Int) * (worth : Int))) = some (.int ((found : Int) + (q : Int) * (worth : Int))) := rfl
      refine ⟨some (.str u), some (.int worth), some (.str (num q)), some (.str u), some (.str R), some (.int q), ?_⟩
      have ep := e_plain (n := q) (O := O) (by omega)
      simp -implicitDefEqProofs [fp, ep, sm, au]
    · have fp : fPart (.str H) (.str u) = some (.tup [.str H, .str Str.empty, .str Str.empty]) := by
        show (if (u.length == 0) = false ∧ H.length ≤ sizeLine then some (T.tup [.str (Txt.partition H u).1, .str (Txt.partition H u).2.1, .str (Txt.partition H u).2.2]) else none) = _
        rw [if_pos ⟨ul0, by omega⟩, partition_none hu hnot]
      have ne : ¬ Str.empty = u := fun e => by rw [← e] at ul; exact absurd ul (by decide)
      have z0 : found + q * worth = found := by rw [hq0]; omega
      rw [z0]
      refine ⟨some (.str u), some (.int worth), some (.str H), some (.str Str.empty), some (.str Str.empty), x9, ?_⟩
      simp -implicitDefEqProofs [fp, ne]
theorem e_uin {w : Nat} {O : List Ob} {cx cy cz : Nat} (tx : tl x = [cx]) (ty : tl y = [cy]) (tz : tl z = [cz]) (nx : cx < 48 ∨ 57 < cx) (ny : cy < 48 ∨ 57 < cy) (nz : cz < 48 ∨ 57 < cz) (ne1 : cx ≠ cy) (ne2 : cx ≠ cz) (ne3 : cy ≠ cz) (a0 : 0 < a) (b0 : 0 < b) (a1 : a < 1000) (b1 : b < 1000) (h : w < 10 ^ 8) :
    d_units_in [.str (utext x y z a b w), unitsT x y z a b] O = some (.int w, O) := by
  have hx : x.length = 1 := by rw [len_tl, tx]; rfl
  have hy : y.length = 1 := by rw [len_tl, ty]; rfl
  have hz : z.length = 1 := by rw [len_tl, tz]; rfl
  have m1 : w % a < 1000 := by have := Nat.mod_lt w a0; omega
  have m2 : w % a % b < 1000 := by have := Nat.mod_lt (w % a) b0; omega
  have q2 : w % a / b < 1000 := Nat.lt_of_le_of_lt (Nat.div_le_self _ _) m1
  have p2 := upart_len (q := w % a / b) (u := y) (by omega) hy
  have p3 := upart_len (q := w % a % b) (u := z) (by omega) hz
  have it : itemsOf (unitsT x y z a b) = some [.tup [.str x, .int a], .tup [.str y, .int b], .tup [.str z, .int 1]] := rfl
  have no : T.noOw (unitsT x y z a b) = true := rfl
  have br : T.brw (unitsT x y z a b) = unitsT x y z a b := rfl
  have e0 : (T.str ("" : Str)) = .str Str.empty := by rw [str_empty]
  have alt : ∀ (q : Nat) (u R : Str) (c : Nat), tl u = [c] → (q = 0 → c ∉ tl R) → (upart q u ++ R = num q ++ u ++ R ∨ (q = 0 ∧ upart q u ++ R = R ∧ c ∉ tl R)) := fun q u R c hu hn => by
    unfold upart
    by_cases hq : q = 0
    · exact .inr ⟨hq, by rw [if_pos hq, empty_app], hn hq⟩
    · exact .inl (by rw [if_neg hq])
  have loop : ∃ d4 d5 d6 d7 d8 d9 : Option T, forGo (gTp [gNm 4, gNm 5]) (sSeq (sAsg (dM1 fPart (dUse 3) (dUse 4)) (gTp [(gNm 6), (gNm 7), (gNm 8)]))
        (sIf (tOf (d2 fEq (oBorS 7) (oBorS 4))) (sSeq (sAsg (dCall d_plain_number (aCons (oBorS 6) aNil)) (gNm 9)) (sSeq (sIf (tOf (d2 fIsN (oBorS 9) (oTmp (dC .non)))) (sRet (dC .non)) sNil) (sSeq (sAug fAugAdd 2 (d2 fMul (oBorS 9) (oBorS 5))) (sAsg (dUse 8) (gNm 3))))) sNil))
      [.tup [.str x, .int a], .tup [.str y, .int b], .tup [.str z, .int 1]] ([some (.str (utext x y z a b w)), some (unitsT x y z a b), some (.int 0), some (.str (utext x y z a b w)), none, none, none, none, none, none], O) = some (.nx, ([some (.str (utext x y z a b w)), some (unitsT x y z a b), some (.int w), some (.str Str.empty), d4, d5, d6, d7, d8, d9], O)) := by
    by_cases hw : w = 0
    · have ut : utext x y z a b w = num 0 ++ z := if_pos hw
      have f1 : ∀ c, c ≠ cz → (c < 48 ∨ 57 < c) → c ∉ tl (num 0 ++ z) := fun c hc hd m => by
        rw [tl_append, tl_num', tz] at m
        rcases List.mem_append.mp m with m | m
        · exact numL_free hd m
        · exact hc (by simpa using m)
      have ln : (num 0 ++ z).length ≤ 100 := by rw [len_app, hz]; have := num_len (n := 0) (by omega); omega
      obtain ⟨a4, a5, a6, a7, a8, a9, s1⟩ := uin_step (x := x) (y := y) (z := z) (a := a) (b := b) (O := O) (.str (utext x y z a b w)) 0 (num 0 ++ z) (num 0 ++ z) 0 a x cx none none none none none none tx nx (by omega) a1 ln (.inr ⟨rfl, rfl, f1 cx ne2 nx⟩)
      obtain ⟨b4, b5, b6, b7, b8, b9, s2⟩ := uin_step (x := x) (y := y) (z := z) (a := a) (b := b) (O := O) (.str (utext x y z a b w)) (0 + 0 * a) (num 0 ++ z) (num 0 ++ z) 0 b y cy a4 a5 a6 a7 a8 a9 ty ny (by omega) b1 ln (.inr ⟨rfl, rfl, f1 cy ne3 ny⟩)
      obtain ⟨d4, d5, d6, d7, d8, d9, s3⟩ := uin_step (x := x) (y := y) (z := z) (a := a) (b := b) (O := O) (.str (utext x y z a b w)) (0 + 0 * a + 0 * b) Str.empty (num 0 ++ z) 0 1 z cz b4 b5 b6 b7 b8 b9 tz nz (by omega) (by omega) (by show 0 ≤ 100; omega) (.inl (by rw [app_empty]))
      have fin : 0 + 0 * a + 0 * b + 0 * 1 = w := by rw [hw]; omega
      rw [fin] at s3
      rw [ut] at s1 s2 s3 ⊢
      exact ⟨d4, d5, d6, d7, d8, d9, forGo_step s1 (forGo_step s2 (forGo_step s3 rfl))⟩
    · have ut : utext x y z a b w = upart (w / a) x ++ (upart (w % a / b) y ++ upart (w % a % b) z) := if_neg hw
      have fyz : ∀ c (q : Nat), c ≠ cz → (c < 48 ∨ 57 < c) → c ∉ tl (upart q z) := fun c q hc hd => tl_upart hd (by rw [tz]; simpa using hc)
      obtain ⟨a4, a5, a6, a7, a8, a9, s1⟩ := uin_step (x := x) (y := y) (z := z) (a := a) (b := b) (O := O) (.str (utext x y z a b w)) 0 (upart (w % a / b) y ++ upart (w % a % b) z) (upart (w / a) x ++ (upart (w % a / b) y ++ upart (w % a % b) z)) (w / a) a x cx none none none none none none tx nx (Nat.lt_of_le_of_lt (Nat.div_le_self _ _) h) a1 (by rw [len_app]; omega) (alt _ _ _ _ tx fun _ m => by
        rw [tl_append] at m
        rcases List.mem_append.mp m with m | m
        · exact tl_upart nx (by rw [ty]; simpa using ne1) m
        · exact fyz cx _ ne2 nx m)
      obtain ⟨b4, b5, b6, b7, b8, b9, s2⟩ := uin_step (x := x) (y := y) (z := z) (a := a) (b := b) (O := O) (.str (utext x y z a b w)) (0 + w / a * a) (upart (w % a % b) z) (upart (w % a / b) y ++ upart (w % a % b) z) (w % a / b) b y cy a4 a5 a6 a7 a8 a9 ty ny (by omega) b1 (by omega) (alt _ _ _ _ ty fun _ => fyz cy _ ne3 ny)
      obtain ⟨d4, d5, d6, d7, d8, d9, s3⟩ := uin_step (x := x) (y := y) (z := z) (a := a) (b := b) (O := O) (.str (utext x y z a b w)) (0 + w / a * a + w % a / b * b) Str.empty (upart (w % a % b) z ++ Str.empty) (w % a % b) 1 z cz b4 b5 b6 b7 b8 b9 tz nz (by omega) (by omega) (by show 0 ≤ 100; omega) (alt _ _ _ _ tz fun _ => by show cz ∉ []; simp)
      have fin : 0 + w / a * a + w % a / b * b + w % a % b * 1 = w := by
        have g1 := Nat.div_add_mod w a
        have g2 := Nat.div_add_mod (w % a) b
        rw [Nat.mul_comm a] at g1
        rw [Nat.mul_comm b] at g2
        omega
      rw [fin, app_empty] at s3
      rw [← ut] at s1
      exact ⟨d4, d5, d6, d7, d8, d9, forGo_step s1 (forGo_step s2 (forGo_step s3 rfl))⟩
  obtain ⟨d4, d5, d6, d7, d8, d9, lp⟩ := loop
  have et := e_utext (x := x) (y := y) (z := z) (a := a) (b := b) (w := w) (O := O) hx hy hz a0 b0 a1 b1 h
  generalize utext x y z a b w = U at *
  simp -implicitDefEqProofs [d_units_in, dFn, b_units_in, no, it, e0, lp, br, et]
end
theorem e_wt {w : Nat} {O : List Ob} (h : w < 10 ^ 8) : d_weight_text [.int w] O = some (.str (wtext w), O) := by
  have e : d_units_text [.int w, k_WEIGHT_UNITS] O = some (.str (wtext w), O) := e_utext (x := "c") (y := "s") (z := "p") (a := 112) (b := 14) (by decide +kernel) (by decide +kernel) (by decide +kernel) (by omega) (by omega) (by omega) (by omega) h
  simp -implicitDefEqProofs [d_weight_text, dFn, b_weight_text, e]
theorem e_wi {w : Nat} {O : List Ob} (h : w < 10 ^ 8) : d_weight_in [.str (wtext w)] O = some (.int w, O) := by
  have e : d_units_in [.str (wtext w), k_WEIGHT_UNITS] O = some (.int w, O) := e_uin (x := "c") (y := "s") (z := "p") (a := 112) (b := 14) (cx := 99) (cy := 115) (cz := 112) (by decide +kernel) (by decide +kernel) (by decide +kernel) (by omega) (by omega) (by omega) (by omega) (by omega) (by omega) (by omega) (by omega) (by omega) (by omega) h
  simp -implicitDefEqProofs [d_weight_in, dFn, b_weight_in, e]
theorem e_lt {w : Nat} {O : List Ob} (h : w < 10 ^ 8) : d_length_text [.int w] O = some (.str (ltext w), O) := by
  have e : d_units_text [.int w, k_LENGTH_UNITS] O = some (.str (ltext w), O) := e_utext (x := "m") (y := "f") (z := "r") (a := 320) (b := 40) (by decide +kernel) (by decide +kernel) (by decide +kernel) (by omega) (by omega) (by omega) (by omega) h
  simp -implicitDefEqProofs [d_length_text, dFn, b_length_text, e]
theorem e_li {w : Nat} {O : List Ob} (h : w < 10 ^ 8) : d_length_in [.str (ltext w)] O = some (.int w, O) := by
  have e : d_units_in [.str (ltext w), k_LENGTH_UNITS] O = some (.int w, O) := e_uin (x := "m") (y := "f") (z := "r") (a := 320) (b := 40) (cx := 109) (cy := 102) (cz := 114) (by decide +kernel) (by decide +kernel) (by decide +kernel) (by omega) (by omega) (by omega) (by omega) (by omega) (by omega) (by omega) (by omega) (by omega) (by omega) h
  simp -implicitDefEqProofs [d_length_in, dFn, b_length_in, e]
end Wk31

set_option Elab.async false
set_option linter.all false
set_option maxRecDepth 100000
set_option exponentiation.threshold 10000
set_option maxHeartbeats 0
namespace Wk31
open PySem PySem.Spec L2 TL
@[simp] theorem noOw_mbrw (m : Mk) (xs : List T) : T.noOw (.lst m.brw xs) = noOws xs := by cases m <;> rfl
@[simp] theorem mbrw_idem (m : Mk) : m.brw.brw = m.brw := by cases m <;> rfl
@[simp] theorem mbrw_frz (m : Mk) : m.brw.frz = m.brw := by cases m <;> rfl
/-! ### the order -/
theorem e_spot (e : En) (O : List Ob) : d_order_spot [e.t] O = some (keyE e, O) := by
  have s2 : 2 ≤ sizeLine := by decide
  simp [d_order_spot, dFn, b_order_spot, keyE, s2]
theorem keys_en (O : List Ob) : ∀ es : List En, keysGo d_order_spot (es.map En.t) O = some (es.map keyE, O)
  | [] => rfl
  | e :: es => by
    rw [List.map_cons]
    unfold keysGo
    rw [e_spot, Option.bind_some, keys_en O es]
    rfl
theorem e_in_order (m : Mk) (es : List En) (O : List Ob) : d_in_order [.lst m (es.map En.t)] O = some (.lst .ow ((sortE es).map En.t), O) := by
  have u0 : ∀ τ : List (Option T), dUse 0 (some (.lst m (es.map En.t)) :: τ, O) = some (.lst m.frz (es.map En.t), (some (.lst m.frz (es.map En.t)) :: τ, O)) := fun τ => by
    rw [use_eq (i := 0) rfl]
    rw [frz_lst, ens_frz]; rfl
  have no := ens_noOw es
  have k := keys_en O es
  have tp := keys_toPs es
  have ok := keys_ok es
  have so := sortT_en es
  have nb := ens_noBr (sortE es)
  generalize es.map En.t = ET at *
  generalize (sortE es).map En.t = ST at *
  simp [d_in_order, dFn, b_in_order, u0, -r_dUse, no, k, tp, ok, so, nb]
theorem e_told {m : Mk} {es : List En} {d : Int} {O : List Ob} (hl : es.length ≤ 100) : d_told_by [.lst m.brw (es.map En.t), .int d] O = some (.lst .ow ((told es d).map En.t), O) := by
  have lc := lcGo_if (own := [2]) (g := gNm 2) (tt := tOf (d2 fLe (oTmp (d2 fIxA (oAuto 2) (oTmp (dC (.int 1))))) (oBorS 1))) (te := dUse 2) (S := ([some (.lst m.brw (es.map En.t)), some (.int d), none], O)) (fun e : En => decide (e.day ≤ d)) En.t En.t (ts := es)
    (fun e _ => ⟨([some (.lst m.brw (es.map En.t)), some (.int d), some e.t], O), ([some (.lst m.brw (es.map En.t)), some (.int d), some e.t], O), by simp, by simp, fun _ => ⟨([some (.lst m.brw (es.map En.t)), some (.int d), some e.t], O), by simp, by simp⟩, fun _ => by simp⟩) (Nat.le_of_lt (small_line (by omega)))
  have e1 := e_in_order .ow (es.filter fun e => decide (e.day ≤ d)) O
  have no := ens_noOw es
  have nb := ens_noBr (sortE (es.filter fun e => decide (e.day ≤ d)))
  unfold told
  generalize es.map En.t = ET at *
  generalize (es.filter fun e => decide (e.day ≤ d)).map En.t = FT at *
  generalize (sortE (es.filter fun e => decide (e.day ≤ d))).map En.t = ST at *
  simp -implicitDefEqProofs [d_told_by, dFn, b_told_by, no, lc, e1, nb]
end Wk31

set_option Elab.async false
set_option linter.all false
set_option maxRecDepth 100000
set_option exponentiation.threshold 10000
set_option maxHeartbeats 0
namespace Wk31
open PySem PySem.Spec L2 TL
/-! ### is_entry -/
theorem e_between {i a b : Int} (O : List Ob) (h1 : a ≤ i) (h2 : i ≤ b) : d_number_between [.int i, .int a, .int b] O = some (.bl true, O) := by
  simp -implicitDefEqProofs [d_number_between, dFn, b_number_between, tyIs, h1, h2]
theorem e_name_like {s : Str} (h : Nm s) (O : List Ob) : d_name_like [.str s] O = some (.bl true, O) := by
  obtain ⟨h1, h2, h3⟩ := h
  have hl : s.length = s.cps.toList.length := len_tl s
  have ab : k_SMALL_LETTERS = .str abc := rfl
  have lc := lcGo_all (own := [1]) (g := gNm 1) (te := d2 (fInB false) (oBorS 1) (oTmp (dC k_SMALL_LETTERS))) (S := ([some (.str s), none], O)) (fun _ : Nat => T.bl true) (fun c => T.str ⟨#[c]⟩) (ts := s.cps.toList) (fun c m => ⟨([some (.str s), some (.str ⟨#[c]⟩)], O), ([some (.str s), some (.str ⟨#[c]⟩)], O), by simp, by
    have hc : c ∈ abc.cps.toList := by
      have := h3 c m
      rw [abc_list]
      exact List.mem_map.mpr ⟨c - 97, List.mem_range.mpr (by omega), by omega⟩
    have : fInB false (.str ⟨#[c]⟩) k_SMALL_LETTERS = some (.bl true) := by
      show some (T.bl (decide (c ∈ abc.cps.toList))) = _
      rw [decide_eq_true hc]
    have vk : ∀ S, view S k_SMALL_LETTERS = k_SMALL_LETTERS := fun _ => rfl
    simp [vk, this], by simp⟩) (Nat.le_trans h2 (by decide))
  have fa : fAll [.lst .ow (s.cps.toList.map fun _ => T.bl true)] = some (.bl true) := by
    have : (s.cps.toList.map fun _ : Nat => T.bl true) = (s.cps.toList.map fun _ => true).map T.bl := by simp
    show (blsT (s.cps.toList.map fun _ : Nat => T.bl true)).bind _ = _
    rw [this, blsT_map]
    show some (T.bl ((s.cps.toList.map fun _ => true).all id)) = _
    simp
  have ls : s.length ≤ sizeLine := by rw [hl]; exact Nat.le_trans h2 (by decide)
  have i1 : (1 : Int) ≤ s.length := by omega
  have i2 : (s.length : Int) ≤ 8 := by omega
  have sg : signsOf s = s.cps.toList.map fun c => T.str ⟨#[c]⟩ := rfl
  generalize s.cps.toList = L at *
  simp -implicitDefEqProofs [d_name_like, dFn, b_name_like, tyIs, k_MOST_LETTERS, ls, i1, i2, sg, lc, fa]
/-- of a sort -/
inductive Fit : Str → T → Prop where
  | name {s : Str} (h : Nm s) : Fit "name" (.str s)
  | land : Fit "kind" (.str "land")
  | water : Fit "kind" (.str "water")
  | strength {i : Int} (h1 : 0 ≤ i) (h2 : i ≤ 1000000) : Fit "strength" (.int i)
  | weight {i : Int} (h1 : 1 ≤ i) (h2 : i ≤ 1000000) : Fit "weight" (.int i)
  | eats {i : Int} (h1 : 0 ≤ i) (h2 : i ≤ 9) : Fit "eats" (.int i)
  | length {i : Int} (h1 : 1 ≤ i) (h2 : i ≤ 10000) : Fit "length" (.int i)
  | hard {i : Int} (h1 : 1 ≤ i) (h2 : i ≤ 9) : Fit "hard" (.int i)
  | rations {i : Int} (h1 : 1 ≤ i) (h2 : i ≤ 4000) : Fit "rations" (.int i)
  | day {i : Int} (h1 : 0 ≤ i) (h2 : i ≤ 199) : Fit "day" (.int i)
theorem getS_cons (k z : Str) (t : T) (l : List (Str × T)) : getS ((k, t) :: l) z = if k = z then some t else getS l z := by
  unfold getS
  by_cases h : k = z
  · rw [List.find?_cons_of_pos (by simpa using h), if_pos h]; rfl
  · rw [List.find?_cons_of_neg (by simpa using h), if_neg h]
theorem gb_strength : getS dk_SORT_BOUNDS "strength" = some (.tup [.int 0, .int 1000000]) := by unfold dk_SORT_BOUNDS; rw [getS_cons, if_pos rfl]
theorem gb_weight : getS dk_SORT_BOUNDS "weight" = some (.tup [.int 1, .int 1000000]) := by unfold dk_SORT_BOUNDS; rw [getS_cons, if_neg (by decide +kernel), getS_cons, if_pos rfl]
theorem gb_eats : getS dk_SORT_BOUNDS "eats" = some (.tup [.int 0, .int 9]) := by unfold dk_SORT_BOUNDS; rw [getS_cons, if_neg (by decide +kernel), getS_cons, if_neg (by decide +kernel), getS_cons, if_pos rfl]
theorem gb_length : getS dk_SORT_BOUNDS "length" = some (.tup [.int 1, .int 10000]) := by unfold dk_SORT_BOUNDS; rw [getS_cons, if_neg (by decide +kernel), getS_cons, if_neg (by decide +kernel), getS_cons, if_neg (by decide +kernel), getS_cons, if_pos rfl]
theorem gb_hard : getS dk_SORT_BOUNDS "hard" = some (.tup [.int 1, .int 9]) := by unfold dk_SORT_BOUNDS; rw [getS_cons, if_neg (by decide +kernel), getS_cons, if_neg (by decide +kernel), getS_cons, if_neg (by decide +kernel), getS_cons, if_neg (by decide +kernel), getS_cons, if_pos rfl]
theorem gb_rations : getS dk_SORT_BOUNDS "rations" = some (.tup [.int 1, .int 4000]) := by unfold dk_SORT_BOUNDS; rw [getS_cons, if_neg (by decide +kernel), getS_cons, if_neg (by decide +kernel), getS_cons, if_neg (by decide +kernel), getS_cons, if_neg (by decide +kernel), getS_cons, if_neg (by decide +kernel), getS_cons, if_pos rfl]
theorem gb_day : getS dk_SORT_BOUNDS "day" = some (.tup [.int 0, .int 199]) := by unfold dk_SORT_BOUNDS; rw [getS_cons, if_neg (by decide +kernel), getS_cons, if_neg (by decide +kernel), getS_cons, if_neg (by decide +kernel), getS_cons, if_neg (by decide +kernel), getS_cons, if_neg (by decide +kernel), getS_cons, if_neg (by decide +kernel), getS_cons, if_pos rfl]
theorem in_tup (s : Str) (l : List Str) : fInB false (.str s) (.tup (l.map T.str)) = some (.bl (decide (s ∈ l))) := by
  show (if (flatT (.str s) && (l.map T.str).all flatT) = true then some (T.bl (if false = true then !inF (.str s) (l.map T.str) else inF (.str s) (l.map T.str))) else none) = _
  rw [strs_flat, inF_strs]; rfl
theorem fits_num {z : Str} {i a b : Int} (O : List Ob) (hg : getS dk_SORT_BOUNDS z = some (.tup [.int a, .int b])) (n1 : (z = ("name" : Str)) = False) (n2 : (z = ("kind" : Str)) = False) (h1 : a ≤ i) (h2 : i ≤ b) : d_sort_fits [.str z, .int i] O = some (.bl true, O) := by
  have e := e_between O h1 h2
  simp -implicitDefEqProofs [d_sort_fits, dFn, b_sort_fits, n1, n2, dKIx, hg, e]
theorem e_fits {z : Str} {t : T} (h : Fit z t) (O : List Ob) : d_sort_fits [.str z, t] O = some (.bl true, O) := by
  cases h with
  | @name s h =>
    have e := e_name_like h O
    simp -implicitDefEqProofs [d_sort_fits, dFn, b_sort_fits, e]
  | land =>
    have n1 : (("kind" : Str) = ("name" : Str)) = False := eq_false (by decide +kernel)
    have e := in_tup "land" ["land", "water"]
    rw [decide_eq_true (by decide +kernel : ("land" : Str) ∈ (["land", "water"] : List Str))] at e
    have e : fInB false (.str "land") k_WAY_KINDS = some (.bl true) := e
    have vk : ∀ S, view S k_WAY_KINDS = k_WAY_KINDS := fun _ => rfl
    simp -implicitDefEqProofs [d_sort_fits, dFn, b_sort_fits, n1, tyIs, vk, e]
  | water =>
    have n1 : (("kind" : Str) = ("name" : Str)) = False := eq_false (by decide +kernel)
    have e := in_tup "water" ["land", "water"]
    rw [decide_eq_true (by decide +kernel : ("water" : Str) ∈ (["land", "water"] : List Str))] at e
    have e : fInB false (.str "water") k_WAY_KINDS = some (.bl true) := e
    have vk : ∀ S, view S k_WAY_KINDS = k_WAY_KINDS := fun _ => rfl
    simp -implicitDefEqProofs [d_sort_fits, dFn, b_sort_fits, n1, tyIs, vk, e]
  | strength h1 h2 => exact fits_num O gb_strength (eq_false (by decide +kernel)) (eq_false (by decide +kernel)) h1 h2
  | weight h1 h2 => exact fits_num O gb_weight (eq_false (by decide +kernel)) (eq_false (by decide +kernel)) h1 h2
  | eats h1 h2 => exact fits_num O gb_eats (eq_false (by decide +kernel)) (eq_false (by decide +kernel)) h1 h2
  | length h1 h2 => exact fits_num O gb_length (eq_false (by decide +kernel)) (eq_false (by decide +kernel)) h1 h2
  | hard h1 h2 => exact fits_num O gb_hard (eq_false (by decide +kernel)) (eq_false (by decide +kernel)) h1 h2
  | rations h1 h2 => exact fits_num O gb_rations (eq_false (by decide +kernel)) (eq_false (by decide +kernel)) h1 h2
  | day h1 h2 => exact fits_num O gb_day (eq_false (by decide +kernel)) (eq_false (by decide +kernel)) h1 h2
end Wk31

set_option Elab.async false
set_option linter.all false
set_option maxRecDepth 100000
set_option exponentiation.threshold 10000
set_option maxHeartbeats 0
namespace Wk31
open PySem PySem.Spec L2 TL
def Part.closing : Part → Bool
  | .shut .. => true
  | .storm .. => true
  | _ => false
theorem ww (p : Part) : (p.word = "way") = (p.isWay = true) := by cases p <;> first | exact propext ⟨fun _ => rfl, fun _ => rfl⟩ | exact propext ⟨fun h => absurd h (by simp only [Part.word]; decide +kernel), fun h => absurd (show false = true from h) (by decide)⟩
theorem wc (p : Part) : (("shut" : Str) = p.word ∨ ("storm" : Str) = p.word) = (Part.closing p = true) := by
  cases p <;> first
    | exact propext ⟨fun _ => rfl, fun _ => by simp only [Part.word]; decide +kernel⟩
    | exact propext ⟨fun h => absurd h (by simp only [Part.word]; decide +kernel), fun h => absurd (show false = true from h) (by decide)⟩
theorem e_agree {e : En} (h : e.ok) (ha : e.part.apart) (O : List Ob) : d_parts_agree [e.t] O = some (.bl true, O) := by
  have e2 := en_2 e
  have e1 := en_1 e
  have s2 : 2 ≤ sizeLine := by decide
  have hw := ww e.part
  have hc := wc e.part
  have kd := kids_en e
  have vv : ∀ S, view S e.t = e.t := fun S => view_en S e
  by_cases q : e.part.isWay = true
  · have key : ∃ a b : Str, fIxA e.t (.int 4) = some (.str a) ∧ fIxA e.t (.int 5) = some (.str b) ∧ a ≠ b := by
      obtain ⟨nn, dd, p⟩ := e
      cases p with
      | way n a b k l hh => exact ⟨a, b, rfl, rfl, ha⟩
      | _ => exact absurd (show false = true from q) (by decide)
    obtain ⟨a, b, e4, e5, ne⟩ := key
    have ne : (a = b) = False := eq_false ne
    have hw : (e.part.word = "way") = True := eq_true (by rw [hw]; exact q)
    generalize e.t = ET at *
    simp -implicitDefEqProofs [d_parts_agree, dFn, b_parts_agree, kd, vv, e2, hw, e4, e5, ne]
  · have hw : (e.part.word = "way") = False := eq_false (by rw [hw]; exact q)
    by_cases q2 : Part.closing e.part = true
    · have key : ∃ f t : Int, fIxA e.t (.int (-2)) = some (.int f) ∧ fIxA e.t (.int (-1)) = some (.int t) ∧ e.day ≤ f ∧ f ≤ t := by
        obtain ⟨nn, dd, p⟩ := e
        cases p with
        | shut n f t => exact ⟨f, t, rfl, rfl, h.2.2.2.2.2.1, h.2.2.2.2.2.2.1⟩
        | storm f t => exact ⟨f, t, rfl, rfl, h.2.2.2.2.1, h.2.2.2.2.2.1⟩
        | _ => exact absurd (show false = true from q2) (by decide)
      obtain ⟨f, t, k1, k2, k3, k4⟩ := key
      have tp := hc.trans (eq_true q2)
      generalize e.t = ET at *
      simp -implicitDefEqProofs [d_parts_agree, dFn, b_parts_agree, kd, vv, e2, hw, s2, tp, e1, k1, k2, k3, k4]
    · have tp := hc.trans (eq_false q2)
      generalize e.t = ET at *
      simp -implicitDefEqProofs [d_parts_agree, dFn, b_parts_agree, kd, vv, e2, hw, s2, tp]
theorem gf (p : Part) : getS dk_ENTRY_FORMS p.word = some (.tup (p.sorts.map T.str)) := by
  have hd : ∀ (k z : Str) (t : T) (l : List (Str × T)), k ≠ z → getS ((k, t) :: l) z = getS l z := fun k z t l h => by rw [getS_cons, if_neg h]
  unfold dk_ENTRY_FORMS
  cases p <;> (simp only [Part.word]; first
    | (rw [getS_cons, if_pos rfl]; rfl)
    | (repeat (rw [hd _ _ _ _ (by decide +kernel)])
       rw [getS_cons, if_pos rfl]; rfl))
theorem fit_all {d : Int} {p : Part} (h : p.ok d) (h0 : 0 ≤ d) : ∀ q ∈ p.sorts.zip p.rest, Fit q.1 q.2 := by
  have hk : ∀ k : Str, k = "land" ∨ k = "water" → Fit "kind" (.str k) := fun k h => by
    rcases h with rfl | rfl
    · exact .land
    · exact .water
  cases p <;> simp only [Part.sorts, Part.rest, List.zip_cons_cons, List.zip_nil_right, List.mem_cons, List.not_mem_nil, or_false, forall_eq_or_imp, forall_eq] <;> simp only [Part.ok, lbs] at h
  · exact ⟨.name h.1, .strength h.2.1.1 h.2.1.2, .strength h.2.2.1.1 h.2.2.1.2, .strength h.2.2.2.1.1 h.2.2.2.1.2, .eats h.2.2.2.2.1 h.2.2.2.2.2⟩
  · exact .name h
  · exact ⟨.name h.1, .weight h.2.1 h.2.2.1, .name h.2.2.2⟩
  · exact ⟨.name h.1, .weight h.2.1 h.2.2.1, .strength h.2.2.2.1.1 h.2.2.2.1.2, .name h.2.2.2.2⟩
  · exact ⟨.name h.1, .name h.2.1, .name h.2.2.1, hk _ h.2.2.2.1, .length h.2.2.2.2.1 h.2.2.2.2.2.1, .hard h.2.2.2.2.2.2.1 h.2.2.2.2.2.2.2⟩
  · exact ⟨.name h.1, .day (by omega) (by omega), .day (by omega) (by omega)⟩
  · exact ⟨.day (by omega) (by omega), .day (by omega) (by omega)⟩
  · exact ⟨.name h.1, .rations h.2.1 h.2.2⟩
  · exact .rations h.1 h.2
  · exact .name h
  · exact .name h
  · exact .name h
theorem zipT_zip (l : List Str) (r : List T) : zipT (l.map T.str) r = (l.zip r).map fun q => .tup [.str q.1, q.2] := by
  induction l generalizing r with
  | nil => rfl
  | cons a l ih =>
    cases r with
    | nil => rfl
    | cons b r => show T.tup [.str a, b] :: zipT (l.map T.str) r = _; rw [ih]; rfl
theorem en_rest (e : En) : fSl e.t (some 3) none = some (.tup e.part.rest) := by
  have h := rest_noOw e.part
  have e1 : isWhole (e.part.rest.length + 1 + 1 + 1) (some 3) none = false := by
    cases e.part <;> rfl
  have e2 : cutT (.int e.num :: .int e.day :: .str e.part.word :: e.part.rest) (some 3) none = e.part.rest := by
    obtain ⟨a, b, p⟩ := e
    cases p <;> rfl
  show (if noOws (.int e.num :: .int e.day :: .str e.part.word :: e.part.rest) = true ∧ isWhole (.int e.num :: .int e.day :: .str e.part.word :: e.part.rest).length (some 3) none = false then some (T.tup (cutT (.int e.num :: .int e.day :: .str e.part.word :: e.part.rest) (some 3) none)) else none) = _
  rw [if_pos ⟨h, e1⟩, e2]
theorem noBrs_mem : ∀ {l : List T} {t : T}, noBrs l = true → t ∈ l → t.noBr = true
  | a :: l, t, h, m => by
    obtain ⟨u1, u2⟩ := Bool.and_eq_true_iff.mp (show (a.noBr && noBrs l) = true from h)
    rcases List.mem_cons.mp m with rfl | m
    · exact u1
    · exact noBrs_mem u2 m
theorem rest_no (p : Part) : ∀ q ∈ p.sorts.zip p.rest, q.2.noOw = true ∧ q.2.noBr = true ∧ q.2.brw = q.2 := by
  intro q m
  have m2 := (List.of_mem_zip m).2
  have h1 := noOws_mem (rest_noOw p) m2
  exact ⟨h1, noBrs_mem (rest_noBr p) m2, brw_noOw _ h1⟩
theorem rest_view (p : Part) : ∀ q ∈ p.sorts.zip p.rest, ∀ S, view S q.2 = q.2 := by
  intro q m
  have m2 := (List.of_mem_zip m).2
  have key : ∀ t ∈ p.rest, ∀ S, view S t = t := by
    intro t m S
    have : ∀ l : List T, (l.all fun t => match t with | .hnd _ => false | _ => true) = true → ∀ t ∈ l, view S t = t := fun l h t m => by
      have := List.all_eq_true.mp h t m
      cases t <;> first | rfl | exact absurd (show false = true from this) (by decide)
    exact this p.rest (by cases p <;> rfl) t m
  exact key _ m2
theorem e_is_entry {e : En} (h : e.ok) (ha : e.part.apart) (O : List Ob) : d_is_entry [e.t] O = some (.bl true, O) := by
  have q0 := en_0 e
  have q1 := en_1 e
  have q2 := en_2 e
  have q3 := en_rest e
  have kd := kids_en e
  have vv : ∀ S, view S e.t = e.t := fun S => view_en S e
  obtain ⟨h1, h2, h3, h4, h5⟩ := h
  have b1 := e_between (a := 1) (b := 9999) O h1 h2
  have b2 := e_between (a := 0) (b := 199) O h3 h4
  have g := gf e.part
  have wf := words_few e.part
  have ag := e_agree ⟨h1, h2, h3, h4, h5⟩ ha O
  have zz := zipT_zip e.part.sorts e.part.rest
  have fit := fit_all h5 h3
  have rn := rest_no e.part
  have rv := rest_view e.part
  have ln : fLen [e.t] = some (.int ((e.part.rest.length + 3 : Nat) : Int)) := rfl
  have ty : tyName e.t = some "tuple" := rfl
  have bw := en_brw e
  have noS : noOws (e.part.sorts.map T.str) = true := noOws_map (fun _ => rfl) _
  have noR := rest_noOw e.part
  have lc := lcGo_all (own := [2, 3]) (g := gTp [gNm 2, gNm 3]) (te := dCall d_sort_fits (aCons (oBorS 2) (aCons (oBorS 3) aNil))) (S := ([some e.t, some (.tup (e.part.sorts.map T.str)), none, none], O)) (fun _ : Str × T => T.bl true) (fun q => .tup [.str q.1, q.2]) (ts := e.part.sorts.zip e.part.rest) (fun q m => by
    obtain ⟨z, t⟩ := q
    have f1 := e_fits (fit _ m) O
    obtain ⟨r1, r2, r3⟩ := rn _ m
    have r4 := rv _ m
    simp only at f1 r1 r2 r3 r4
    refine ⟨([some e.t, some (.tup (e.part.sorts.map T.str)), some (.str z), some t], O), ([some e.t, some (.tup (e.part.sorts.map T.str)), some (.str z), some t], O), ?_, ?_, ?_⟩
    · generalize e.t = ET at *
      generalize e.part.sorts.map T.str = ST at *
      simp
    · generalize e.t = ET at *
      generalize e.part.sorts.map T.str = ST at *
      simp -implicitDefEqProofs [f1, r1, r2, r3, r4]
    · generalize e.t = ET at *
      generalize e.part.sorts.map T.str = ST at *
      simp) (by
    rw [List.length_zip]
    exact Nat.le_trans (Nat.min_le_left _ _) (Nat.le_trans (by omega : e.part.sorts.length ≤ 6) (by decide)))
  have fa : ∀ l : List (Str × T), fAll [.lst .ow (l.map fun _ => T.bl true)] = some (.bl true) := fun l => by
    have : (l.map fun _ => T.bl true) = (l.map fun _ => true).map T.bl := by simp
    show (blsT (l.map fun _ => T.bl true)).bind _ = _
    rw [this, blsT_map]
    show some (T.bl ((l.map fun _ => true).all id)) = _
    simp
  have fa := fa (e.part.sorts.zip e.part.rest)
  have zo : zipOf (.tup (e.part.sorts.map T.str)) (.tup e.part.rest) = some ((e.part.sorts.zip e.part.rest).map fun q => T.tup [.str q.1, q.2]) := by
    show (if (noOws (e.part.sorts.map T.str) && noOws e.part.rest) = true then some (zipT (e.part.sorts.map T.str) e.part.rest) else none) = _
    rw [noS, noR, zz]; rfl
  have lnS : fLen [.tup (e.part.sorts.map T.str)] = some (.int (e.part.rest.length : Int)) := by
    show some (T.int ((e.part.sorts.map T.str).length : Int)) = _
    rw [List.length_map, ← wf.2.2.1, wf.2.2.2]
  have l4 : ¬ ((e.part.rest.length + 3 : Nat) : Int) < 4 := by omega
  have ls3 : ((e.part.rest.length + 3 : Nat) : Int) - 3 = (e.part.rest.length : Int) := by omega
  generalize e.t = ET at *
  generalize e.part.sorts.map T.str = ST at *
  generalize (e.part.sorts.zip e.part.rest).map (fun q => T.tup [.str q.1, q.2]) = ZT at *
  generalize (e.part.sorts.zip e.part.rest).map (fun _ => T.bl true) = BT at *
  generalize e.part.rest = RT at *
  generalize ((RT.length + 3 : Nat) : Int) = N at *
  simp -implicitDefEqProofs [d_is_entry, dFn, b_is_entry, ty, ln, l4, kd, vv, q2, tyIs, q0, q1, k_MOST_NUMBER, k_LAST_DAY, b1, b2, dKGet2, g, lnS, ls3, q3, noS, noR, zo, lc, fa, bw, ag]
end Wk31

set_option Elab.async false
set_option linter.all false
set_option maxRecDepth 100000
set_option exponentiation.threshold 10000
set_option maxHeartbeats 0
namespace Wk31
open PySem PySem.Spec L2 TL
/-! ### entries as texts, and read -/
/-- a part of a sort, its word -/
inductive Wrd : Str → T → Str → Prop where
  | text {z s : Str} (h : z = "name" ∨ z = "kind") : Wrd z (.str s) s
  | weight {z : Str} {i : Int} (h : z = "strength" ∨ z = "weight") (h1 : 0 ≤ i) (h2 : i ≤ 1000000) : Wrd z (.int i) (wI i)
  | length {i : Int} (h1 : 0 ≤ i) (h2 : i ≤ 1000000) : Wrd "length" (.int i) (lI i)
  | number {z : Str} {i : Int} (h : z = "eats" ∨ z = "hard" ∨ z = "rations" ∨ z = "day") (h1 : 0 ≤ i) (h2 : i ≤ 1000000) : Wrd z (.int i) (nI i)
theorem vkT : ∀ S, view S k_TEXT_SORTS = k_TEXT_SORTS := fun _ => rfl
theorem vkW : ∀ S, view S k_WEIGHT_SORTS = k_WEIGHT_SORTS := fun _ => rfl
theorem inT (z : Str) : fInB false (.str z) k_TEXT_SORTS = some (.bl (decide (z ∈ (["name", "kind"] : List Str)))) := in_tup z ["name", "kind"]
theorem inW (z : Str) : fInB false (.str z) k_WEIGHT_SORTS = some (.bl (decide (z ∈ (["strength", "weight"] : List Str)))) := in_tup z ["strength", "weight"]
theorem nat_of {i : Int} (h : 0 ≤ i) : ((i.toNat : Nat) : Int) = i := Int.toNat_of_nonneg h
theorem e_word {z s : Str} {t : T} (h : Wrd z t s) (O : List Ob) : d_part_word [.str z, t] O = some (.str s, O) := by
  have a1 := inT z
  have a2 := inW z
  cases h with
  | text h =>
    rw [decide_eq_true (by rcases h with rfl | rfl <;> decide +kernel)] at a1
    simp -implicitDefEqProofs [d_part_word, dFn, b_part_word, vkT, a1]
  | @weight _ i h h1 h2 =>
    rw [decide_eq_false (by rcases h with rfl | rfl <;> decide +kernel)] at a1
    rw [decide_eq_true (by rcases h with rfl | rfl <;> decide +kernel)] at a2
    have e := e_wt (w := i.toNat) (O := O) (by omega)
    rw [nat_of h1] at e
    have e : d_weight_text [.int i] O = some (.str (wI i), O) := e
    simp -implicitDefEqProofs [d_part_word, dFn, b_part_word, vkT, vkW, a1, a2, e]
  | @length i h1 h2 =>
    rw [decide_eq_false (by decide +kernel)] at a1
    rw [decide_eq_false (by decide +kernel)] at a2
    have e := e_lt (w := i.toNat) (O := O) (by omega)
    rw [nat_of h1] at e
    have e : d_length_text [.int i] O = some (.str (lI i), O) := e
    simp -implicitDefEqProofs [d_part_word, dFn, b_part_word, vkT, vkW, a1, a2, e]
  | @number _ i h h1 h2 =>
    rw [decide_eq_false (by rcases h with rfl | rfl | rfl | rfl <;> decide +kernel)] at a1
    rw [decide_eq_false (by rcases h with rfl | rfl | rfl | rfl <;> decide +kernel)] at a2
    have nl : (z = ("length" : Str)) = False := eq_false (by rcases h with rfl | rfl | rfl | rfl <;> decide +kernel)
    have e := fStr_num (n := i.toNat) (by omega)
    rw [nat_of h1] at e
    have e : fStr [.int i] = some (.str (nI i)) := e
    simp -implicitDefEqProofs [d_part_word, dFn, b_part_word, vkT, vkW, a1, a2, nl, e]
theorem e_in {z s : Str} {t : T} (h : Wrd z t s) (O : List Ob) : d_part_in [.str z, .str s] O = some (t, O) := by
  have a1 := inT z
  have a2 := inW z
  cases h with
  | text h =>
    rw [decide_eq_true (by rcases h with rfl | rfl <;> decide +kernel)] at a1
    simp -implicitDefEqProofs [d_part_in, dFn, b_part_in, vkT, a1]
  | @weight _ i h h1 h2 =>
    rw [decide_eq_false (by rcases h with rfl | rfl <;> decide +kernel)] at a1
    rw [decide_eq_true (by rcases h with rfl | rfl <;> decide +kernel)] at a2
    have e := e_wi (w := i.toNat) (O := O) (by omega)
    rw [nat_of h1] at e
    have e : d_weight_in [.str (wI i)] O = some (.int i, O) := e
    simp -implicitDefEqProofs [d_part_in, dFn, b_part_in, vkT, vkW, a1, a2, e]
  | @length i h1 h2 =>
    rw [decide_eq_false (by decide +kernel)] at a1
    rw [decide_eq_false (by decide +kernel)] at a2
    have e := e_li (w := i.toNat) (O := O) (by omega)
    rw [nat_of h1] at e
    have e : d_length_in [.str (lI i)] O = some (.int i, O) := e
    simp -implicitDefEqProofs [d_part_in, dFn, b_part_in, vkT, vkW, a1, a2, e]
  | @number _ i h h1 h2 =>
    rw [decide_eq_false (by rcases h with rfl | rfl | rfl | rfl <;> decide +kernel)] at a1
    rw [decide_eq_false (by rcases h with rfl | rfl | rfl | rfl <;> decide +kernel)] at a2
    have nl : (z = ("length" : Str)) = False := eq_false (by rcases h with rfl | rfl | rfl | rfl <;> decide +kernel)
    have e := e_plain (n := i.toNat) (O := O) (by omega)
    rw [nat_of h1] at e
    have e : d_plain_number [.str (nI i)] O = some (.int i, O) := e
    simp -implicitDefEqProofs [d_part_in, dFn, b_part_in, vkT, vkW, a1, a2, nl, e]
/-- a part's sorts, trees and words side by side -/
def Part.tri (p : Part) : List (Str × T × Str) := (p.sorts.zip (p.rest.zip p.words))
theorem tri_wrd {d : Int} {p : Part} (h : p.ok d) (h0 : 0 ≤ d) : ∀ q ∈ Part.tri p, Wrd q.1 q.2.1 q.2.2 := by
  cases p <;> simp only [Part.tri, Part.sorts, Part.rest, Part.words, List.zip_cons_cons, List.zip_nil_right, List.mem_cons, List.not_mem_nil, or_false, forall_eq_or_imp, forall_eq] <;> simp only [Part.ok, lbs] at h
  · exact ⟨.text (.inl rfl), .weight (.inl rfl) h.2.1.1 h.2.1.2, .weight (.inl rfl) h.2.2.1.1 h.2.2.1.2, .weight (.inl rfl) h.2.2.2.1.1 h.2.2.2.1.2, .number (.inl rfl) (by omega) (by omega)⟩
  · exact .text (.inl rfl)
  · exact ⟨.text (.inl rfl), .weight (.inr rfl) (by omega) (by omega), .text (.inl rfl)⟩
  · exact ⟨.text (.inl rfl), .weight (.inr rfl) (by omega) (by omega), .weight (.inl rfl) (by omega) (by omega), .text (.inl rfl)⟩
  · exact ⟨.text (.inl rfl), .text (.inl rfl), .text (.inl rfl), .text (.inr rfl), .length (by omega) (by omega), .number (.inr (.inl rfl)) (by omega) (by omega)⟩
  · exact ⟨.text (.inl rfl), .number (.inr (.inr (.inr rfl))) (by omega) (by omega), .number (.inr (.inr (.inr rfl))) (by omega) (by omega)⟩
  · exact ⟨.number (.inr (.inr (.inr rfl))) (by omega) (by omega), .number (.inr (.inr (.inr rfl))) (by omega) (by omega)⟩
  · exact ⟨.text (.inl rfl), .number (.inr (.inr (.inl rfl))) (by omega) (by omega)⟩
  · exact .number (.inr (.inr (.inl rfl))) (by omega) (by omega)
  · exact .text (.inl rfl)
  · exact .text (.inl rfl)
  · exact .text (.inl rfl)
theorem tri_st (p : Part) : zipT (p.sorts.map T.str) p.rest = (Part.tri p).map fun q => .tup [.str q.1, q.2.1] := by cases p <;> rfl
theorem tri_sw (p : Part) : zipT (p.sorts.map T.str) (p.words.map T.str) = (Part.tri p).map fun q => .tup [.str q.1, .str q.2.2] := by cases p <;> rfl
theorem tri_w (p : Part) : (Part.tri p).map (fun q => T.str q.2.2) = p.words.map T.str := by cases p <;> rfl
theorem tri_t (p : Part) : (Part.tri p).map (fun q => q.2.1) = p.rest := by cases p <;> rfl
theorem tri_len (p : Part) : (Part.tri p).length ≤ 6 := by cases p <;> exact Nat.le_of_ble_eq_true rfl
theorem tri_mem {p : Part} {q : Str × T × Str} (m : q ∈ Part.tri p) : (q.1, q.2.1) ∈ p.sorts.zip p.rest := by
  have : (q.1, q.2.1) ∈ (Part.tri p).map fun q => (q.1, q.2.1) := List.mem_map.mpr ⟨q, m, rfl⟩
  have e : ((Part.tri p).map fun q => (q.1, q.2.1)) = p.sorts.zip p.rest := by cases p <;> rfl
  rw [e] at this
  exact this
theorem e_entry_text {e : En} (h : e.ok) (O : List Ob) : d_entry_text [e.t] O = some (.str e.text, O) := by
  have q0 := en_0 e
  have q1 := en_1 e
  have q2 := en_2 e
  have q3 := en_rest e
  have kd := kids_en e
  have vv : ∀ S, view S e.t = e.t := fun S => view_en S e
  have bw := en_brw e
  have hj := en_join (m := .ow) h
  obtain ⟨h1, h2, h3, h4, h5⟩ := h
  have g := gf e.part
  have s0 := fStr_num (n := e.num.toNat) (by omega)
  rw [nat_of (by omega)] at s0
  have s0 : fStr [.int e.num] = some (.str (nI e.num)) := s0
  have s1 := fStr_num (n := e.day.toNat) (by omega)
  rw [nat_of h3] at s1
  have s1 : fStr [.int e.day] = some (.str (nI e.day)) := s1
  have wr := tri_wrd h5 h3
  have rn := rest_no e.part
  have rv := rest_view e.part
  have noS : noOws (e.part.sorts.map T.str) = true := noOws_map (fun _ => rfl) _
  have noR := rest_noOw e.part
  have wf := words_few e.part
  let H3 : T := .lst .ow [.str (nI e.num), .str (nI e.day), .str e.part.word]
  have lc := lcGo_all (own := [2, 3]) (g := gTp [gNm 2, gNm 3]) (te := dCall d_part_word (aCons (oBorS 2) (aCons (oBorS 3) aNil))) (S := ([some e.t, some (.lst .ow [.str (nI e.num), .str (nI e.day), .str e.part.word]), none, none], O)) (fun q : Str × T × Str => T.str q.2.2) (fun q => .tup [.str q.1, q.2.1]) (ts := Part.tri e.part) (fun q m => by
    obtain ⟨z, t, s⟩ := q
    have f1 := e_word (wr _ m) O
    obtain ⟨r1, r2, r3⟩ := rn _ (tri_mem m)
    have r4 := rv _ (tri_mem m)
    simp only at f1 r1 r2 r3 r4
    refine ⟨([some e.t, some (.lst .ow [.str (nI e.num), .str (nI e.day), .str e.part.word]), some (.str z), some t], O), ([some e.t, some (.lst .ow [.str (nI e.num), .str (nI e.day), .str e.part.word]), some (.str z), some t], O), ?_, ?_, ?_⟩
    · generalize e.t = ET at *
      simp
    · generalize e.t = ET at *
      simp -implicitDefEqProofs [f1, r1, r2, r3, r4]
    · generalize e.t = ET at *
      simp) (Nat.le_trans (tri_len _) (by decide))
  have zo : zipOf (.tup (e.part.sorts.map T.str)) (.tup e.part.rest) = some ((Part.tri e.part).map fun q => T.tup [.str q.1, q.2.1]) := by
    show (if (noOws (e.part.sorts.map T.str) && noOws e.part.rest) = true then some (zipT (e.part.sorts.map T.str) e.part.rest) else none) = _
    rw [noS, noR, tri_st]; rfl
  rw [tri_w] at lc
  have ad : fAdd (.lst .ow [.str (nI e.num), .str (nI e.day), .str e.part.word]) (.lst .ow (e.part.words.map T.str)) = some (.lst .ow (e.words.map T.str)) := by
    have c : 3 + (e.part.words.map T.str).length ≤ sizeLine := by rw [List.length_map]; exact Nat.le_trans (by omega : 3 + e.part.words.length ≤ 9) (by decide)
    have n2 : noOws (e.part.words.map T.str) = true := noOws_map (fun _ => rfl) _
    show (if [T.str (nI e.num), .str (nI e.day), .str e.part.word].length + (e.part.words.map T.str).length ≤ sizeLine ∧ noOws [T.str (nI e.num), .str (nI e.day), .str e.part.word] = true ∧ noOws (e.part.words.map T.str) = true then some (T.lst .ow ([T.str (nI e.num), .str (nI e.day), .str e.part.word] ++ e.part.words.map T.str)) else none) = _
    rw [if_pos ⟨c, rfl, n2⟩]; rfl
  have s3 : 3 ≤ sizeLine := by decide
  generalize e.t = ET at *
  generalize e.part.sorts.map T.str = ST at *
  generalize (Part.tri e.part).map (fun q => T.tup [.str q.1, q.2.1]) = ZT at *
  generalize e.part.words.map T.str = WT at *
  generalize e.words.map T.str = AT at *
  generalize e.part.rest = RT at *
  generalize nI e.num = N1 at *
  generalize nI e.day = N2 at *
  simp -implicitDefEqProofs [d_entry_text, dFn, b_entry_text, kd, vv, q0, q1, q2, q3, s0, s1, s3, noR, noS, dKIx, g, zo, lc, ad, hj]
end Wk31

set_option Elab.async false
set_option linter.all false
set_option maxRecDepth 100000
set_option exponentiation.threshold 10000
set_option maxHeartbeats 0
namespace Wk31
open PySem PySem.Spec L2 TL
theorem e_entry_in {e : En} (h : e.ok) (ha : e.part.apart) (O : List Ob) : d_entry_in [.str e.text] O = some (e.t, O) := by
  have isE := e_is_entry h ha O
  have sp := en_split h
  obtain ⟨h1, h2, h3, h4, h5⟩ := h
  have g := gf e.part
  have p0 := e_plain (n := e.num.toNat) (O := O) (by omega)
  rw [nat_of (by omega)] at p0
  have p0 : d_plain_number [.str (nI e.num)] O = some (.int e.num, O) := p0
  have p1 := e_plain (n := e.day.toNat) (O := O) (by omega)
  rw [nat_of h3] at p1
  have p1 : d_plain_number [.str (nI e.day)] O = some (.int e.day, O) := p1
  have wr := tri_wrd h5 h3
  have rn := rest_no e.part
  have noS : noOws (e.part.sorts.map T.str) = true := noOws_map (fun _ => rfl) _
  have noW : noOws (e.part.words.map T.str) = true := noOws_map (fun _ => rfl) _
  have noA : noOws (e.words.map T.str) = true := noOws_map (fun _ => rfl) _
  have noR := rest_noOw e.part
  have wf := words_few e.part
  have x0 : ∀ m : Mk, fIxA (.lst m (e.words.map T.str)) (.int 0) = some (.str (nI e.num)) := fun m => by
    show fIxA (.lst m (.str (nI e.num) :: .str (nI e.day) :: .str e.part.word :: e.part.words.map T.str)) (.int 0) = _
    simp
  have x1 : ∀ m : Mk, fIxA (.lst m (e.words.map T.str)) (.int 1) = some (.str (nI e.day)) := fun m => by
    show fIxA (.lst m (.str (nI e.num) :: .str (nI e.day) :: .str e.part.word :: e.part.words.map T.str)) (.int 1) = _
    simp
  have x2 : ∀ m : Mk, fIxA (.lst m (e.words.map T.str)) (.int 2) = some (.str e.part.word) := fun m => by
    show fIxA (.lst m (.str (nI e.num) :: .str (nI e.day) :: .str e.part.word :: e.part.words.map T.str)) (.int 2) = _
    simp
  have x3 : ∀ m : Mk, fSl (.lst m (e.words.map T.str)) (some 3) none = some (.lst .ow (e.part.words.map T.str)) := fun m => by
    have c : cutT (e.words.map T.str) (some 3) none = e.part.words.map T.str := by
      show cutT (.str (nI e.num) :: .str (nI e.day) :: .str e.part.word :: e.part.words.map T.str) (some 3) none = _
      exact cutT_from _ 3
    show (if noOws (e.words.map T.str) = true then some (T.lst .ow (cutT (e.words.map T.str) (some 3) none)) else none) = _
    rw [if_pos noA, c]
  have lnW : ((e.words.map T.str).length : Int) = (e.part.words.length : Int) + 3 := by
    rw [List.length_map]
    unfold En.words
    simp only [List.length_cons]
    omega
  have lnS : ((e.part.sorts.map T.str).length : Int) = (e.part.words.length : Int) := by rw [List.length_map, wf.2.2.1]
  have lc := lcGo_all (own := [5, 6]) (g := gTp [gNm 5, gNm 6]) (te := dCall d_part_in (aCons (oBorS 5) (aCons (oBorS 6) aNil))) (S := ([some (.str e.text), some (.lst .ow (e.words.map T.str)), some (.tup (e.part.sorts.map T.str)), none, none, none, none], O)) (fun q : Str × T × Str => q.2.1) (fun q => .tup [.str q.1, .str q.2.2]) (ts := Part.tri e.part) (fun q m => by
    obtain ⟨z, t, s⟩ := q
    have f1 := e_in (wr _ m) O
    obtain ⟨r1, r2, r3⟩ := rn _ (tri_mem m)
    simp only at f1 r1 r2 r3
    refine ⟨([some (.str e.text), some (.lst .ow (e.words.map T.str)), some (.tup (e.part.sorts.map T.str)), none, none, some (.str z), some (.str s)], O), ([some (.str e.text), some (.lst .ow (e.words.map T.str)), some (.tup (e.part.sorts.map T.str)), none, none, some (.str z), some (.str s)], O), ?_, ?_, ?_⟩
    · generalize e.words.map T.str = WT at *
      generalize e.part.sorts.map T.str = ST at *
      simp
    · generalize e.words.map T.str = WT at *
      generalize e.part.sorts.map T.str = ST at *
      simp -implicitDefEqProofs [f1, r1, r2, r3]
    · generalize e.words.map T.str = WT at *
      generalize e.part.sorts.map T.str = ST at *
      simp) (Nat.le_trans (tri_len _) (by decide))
  have zz := tri_sw e.part
  rw [tri_t] at lc
  have ad : fAdd (.lst .ow [.int e.num, .int e.day, .str e.part.word]) (.lst .ow e.part.rest) = some (.lst .ow (.int e.num :: .int e.day :: .str e.part.word :: e.part.rest)) := by
    have c : 3 + e.part.rest.length ≤ sizeLine := Nat.le_trans (by omega : 3 + e.part.rest.length ≤ 9) (by decide)
    show (if [T.int e.num, .int e.day, .str e.part.word].length + e.part.rest.length ≤ sizeLine ∧ noOws [T.int e.num, .int e.day, .str e.part.word] = true ∧ noOws e.part.rest = true then some (T.lst .ow ([T.int e.num, .int e.day, .str e.part.word] ++ e.part.rest)) else none) = _
    rw [if_pos ⟨c, rfl, noR⟩]; rfl
  have adB : fAdd (.lst .ow [.int e.num, .int e.day, .str e.part.word]) (.lst .br e.part.rest) = some (.lst .ow (.int e.num :: .int e.day :: .str e.part.word :: e.part.rest)) := ad
  have tu : fTuple [.lst .ow (.int e.num :: .int e.day :: .str e.part.word :: e.part.rest)] = some e.t := by
    show (if noOws (.int e.num :: .int e.day :: .str e.part.word :: e.part.rest) = true then some (T.tup (.int e.num :: .int e.day :: .str e.part.word :: e.part.rest)) else none) = _
    rw [if_pos (show noOws (.int e.num :: .int e.day :: .str e.part.word :: e.part.rest) = true from noR)]; rfl
  have s3 : 3 ≤ sizeLine := by decide
  have bw := en_brw e
  have nb := en_noBr e
  have no := en_noOw e
  have brR := rest_brw e.part
  have l3 : ¬ ((e.part.words.length : Int) + 3 ≤ 3) := by omega
  have l3' : (3 : Int) < (e.part.words.length : Int) + 3 := by omega
  have l33 : (3 : Int) + (e.part.words.length : Int) = (e.part.words.length : Int) + 3 := by omega
  generalize ((e.part.words.length : Int)) = N at *
  generalize e.t = ET at *
  generalize e.part.sorts.map T.str = ST at *
  generalize (Part.tri e.part).map (fun q => T.tup [.str q.1, .str q.2.2]) = ZT at *
  generalize e.part.words.map T.str = WT at *
  generalize e.words.map T.str = AT at *
  generalize T.int e.num :: .int e.day :: .str e.part.word :: e.part.rest = RR at *
  generalize e.part.rest = RT at *
  generalize nI e.num = N1 at *
  generalize nI e.day = N2 at *
  simp -implicitDefEqProofs [d_entry_in, dFn, b_entry_in, sp, lnW, lnS, l3', l33, x0, x1, x2, x3, dKGet2, g, iZpM, noA, noS, noW, zz, lc, p0, p1, s3, brR, ad, adB, tu, bw, isE, nb, no]
end Wk31

set_option Elab.async false
set_option linter.all false
set_option maxRecDepth 100000
set_option exponentiation.threshold 10000
set_option maxHeartbeats 0
namespace Wk31
open PySem PySem.Spec L2 TL
theorem strs_no (l : List Str) : noOws (l.map T.str) = true := noOws_map (fun _ => rfl) _
theorem texts_lc {m : Mk} {es : List En} {O : List Ob} (hok : ∀ e ∈ es, e.ok) (hl : es.length ≤ 100) : lcGo [1] (gNm 1) tYesD (dCall d_entry_text (aCons (oBorS 1) aNil)) (es.map En.t) [] ([some (.lst m (es.map En.t)), none], O) = some ((es.map En.text).map T.str, ([some (.lst m (es.map En.t)), none], O)) := by
  have lc := lcGo_all (own := [1]) (g := gNm 1) (te := dCall d_entry_text (aCons (oBorS 1) aNil)) (S := ([some (.lst m (es.map En.t)), none], O)) (fun e : En => T.str e.text) En.t (ts := es) (fun e me => by
    have f1 := e_entry_text (hok e me) O
    have bw := en_brw e
    refine ⟨([some (.lst m (es.map En.t)), some e.t], O), ([some (.lst m (es.map En.t)), some e.t], O), ?_, ?_, ?_⟩
    · generalize es.map En.t = ET at *
      generalize e.t = E at *
      simp
    · generalize es.map En.t = ET at *
      generalize e.t = E at *
      simp -implicitDefEqProofs [f1, bw]
    · generalize es.map En.t = ET at *
      generalize e.t = E at *
      simp) (Nat.le_trans hl (by decide))
  rw [List.map_map]
  exact lc
theorem e_roll_text {m : Mk} {es : List En} (hok : ∀ e ∈ es, e.ok) (hl : es.length ≤ 100) (O : List Ob) : d_roll_text [.lst m (es.map En.t)] O = some (.str (rollText es), O) := by
  have lc := texts_lc (m := m.frz) (O := O) hok hl
  have no := ens_noOw es
  have u0 : ∀ τ : List (Option T), dUse 0 (some (.lst m (es.map En.t)) :: τ, O) = some (.lst m.frz (es.map En.t), (some (.lst m.frz (es.map En.t)) :: τ, O)) := fun τ => by
    rw [use_eq (i := 0) rfl]
    rw [frz_lst, ens_frz]; rfl
  have hj : fJoin (.str "\n") (.lst .ow ((es.map En.text).map T.str)) = some (.str (rollText es)) := fJoin_of (by decide +kernel) (by rw [List.length_map]; omega) fun s ms => by
    obtain ⟨e, me, rfl⟩ := List.mem_map.mp ms
    have := en_text_len (hok e me)
    omega
  generalize es.map En.t = ET at *
  generalize (es.map En.text).map T.str = TT at *
  simp -implicitDefEqProofs [d_roll_text, dFn, b_roll_text, u0, -r_dUse, no, lc, hj]
/-- rows of a log's text -/
def rows (es : List En) : List Str := if es = [] then [""] else es.map En.text
theorem roll_rows (es : List En) : rollText es = Txt.join "\n" (rows es) := by
  unfold rows rollText
  split
  · rename_i h
    rw [h]
    rw [join_eq, join_eq]
    decide +kernel
  · rfl
theorem roll_split {es : List En} (hok : ∀ e ∈ es, e.ok) (hl : es.length ≤ 100) : fSplit (.str (rollText es)) (.str "\n") = some (.lst .ow ((rows es).map T.str)) := by
  rw [roll_rows]
  refine fSplit_of feed_tl (by decide +kernel) ?_ ?_ ?_ ?_
  · unfold rows; split
    · simp
    · rename_i h; simpa using h
  · intro s ms
    unfold rows at ms
    split at ms
    · rw [List.mem_singleton.mp ms]; decide +kernel
    · obtain ⟨e, me, rfl⟩ := List.mem_map.mp ms
      exact en_text_free (hok e me)
  · unfold rows; split
    · simp
    · rw [List.length_map]; omega
  · intro s ms
    unfold rows at ms
    split at ms
    · rw [List.mem_singleton.mp ms]; decide +kernel
    · obtain ⟨e, me, rfl⟩ := List.mem_map.mp ms
      have := en_text_len (hok e me)
      omega
abbrev readB : DS := (sIf (tOf (d2 fNe (oBorS 4) (oTmp (dC (.str ""))))) (sSeq (sAsg (dCall d_entry_in (aCons (oBorS 4) aNil)) (gNm 5))
    (sSeq (sIf (tOf (d2 fIsN (oBorS 5) (oTmp (dC .non)))) sNev sNil)
    (sSeq (sIf (tOf (d2 (fInB false) (oTmp (d2 fIxA (oAuto 5) (oTmp (dC (.int 0))))) (oBorS 2))) sNev sNil)
    (sSeq (sAsg (dC (.bl true)) (gIxA 2 (d2 fIxA (oAuto 5) (oTmp (dC (.int 0))))))
    (sDrop (dApp 1 (dUse 5))))))) sNil)
def seenK (acc : List En) : List (Key × T) := acc.map fun e => (.inl e.num, .bl true)
theorem seen_none {acc : List En} {n : Int} (h : n ∉ acc.map En.num) : getK (seenK acc) (.inl n) = none := by
  induction acc with
  | nil => rfl
  | cons a acc ih =>
    have h1 : a.num ≠ n := fun e => h (by simp [e])
    have h2 : n ∉ acc.map En.num := fun m => h (List.mem_cons_of_mem _ m)
    show getK ((.inl a.num, .bl true) :: seenK acc) (.inl n) = none
    rw [getK_cons, if_neg (fun e => h1 (Sum.inl.inj e)), ih h2]
theorem seen_put {acc : List En} {e : En} (h : e.num ∉ acc.map En.num) : putT (seenK acc) (.inl e.num) (.bl true) = seenK (acc ++ [e]) := by
  have hn : ((seenK acc).any fun p => decide (p.1 = .inl e.num)) = false := by
    rw [List.any_eq_false]
    intro p m
    obtain ⟨a, ma, rfl⟩ := List.mem_map.mp m
    have : a.num ≠ e.num := fun q => h (List.mem_map.mpr ⟨a, ma, q⟩)
    simp only [decide_eq_true_eq]
    exact fun q => this (Sum.inl.inj q)
  unfold putT
  rw [hn, if_neg (by decide)]
  unfold seenK
  rw [List.map_append]; rfl
theorem seen_keys {acc : List En} (h : (acc.map En.num).Nodup) : ((seenK acc).map (·.1)).Nodup := by
  unfold seenK
  rw [List.map_map]
  have e : (acc.map ((fun p : Key × T => p.1) ∘ fun e : En => ((Sum.inl e.num : Key), T.bl true))) = (acc.map En.num).map Sum.inl := by rw [List.map_map]; rfl
  rw [e]
  exact List.Pairwise.map _ (fun a b h q => h (Sum.inl.inj q)) h
theorem kvk_seen (acc : List En) : noBrK (seenK acc) = true ∧ noOwK (seenK acc) = true := by
  unfold seenK
  induction acc with
  | nil => exact ⟨rfl, rfl⟩
  | cons a acc ih => exact ⟨ih.1, ih.2⟩
theorem read_loop {t0 : T} {O : List Ob} : ∀ (es acc : List En) (j : Nat) (x3 x4 x5 : Option T), (∀ e ∈ es, e.ok ∧ e.part.apart) → Uq (acc ++ es) → acc.length + es.length ≤ 100 → ∃ (y3 y4 y5 : Option T), forGo (gTp [gNm 3, gNm 4]) readB (enumT j ((es.map En.text).map T.str)) ([some t0, some (.lst .ow (acc.map En.t)), some (.dic .ow (seenK acc)), x3, x4, x5], O) = some (.nx, ([some t0, some (.lst .ow ((acc ++ es).map En.t)), some (.dic .ow (seenK (acc ++ es))), y3, y4, y5], O)) := by
  intro es
  induction es with
  | nil => intro acc j x3 x4 x5 _ _ _; exact ⟨x3, x4, x5, by rw [List.append_nil]; rfl⟩
  | cons e es ih =>
    intro acc j x3 x4 x5 hok hu hl
    rw [List.length_cons] at hl
    have ce : acc ++ e :: es = (acc ++ [e]) ++ es := by simp
    obtain ⟨y3, y4, y5, h2⟩ := ih (acc ++ [e]) (j + 1) (some (.int (j : Int))) (some (.str e.text)) (some e.t) (fun a m => hok a (List.mem_cons_of_mem _ m)) (by rw [← ce]; exact hu) (by rw [List.length_append, List.length_singleton]; omega)
    rw [ce]
    refine ⟨y3, y4, y5, forGo_step (t := .tup [.int (j : Int), .str e.text]) ?_ h2⟩
    have hu2 : (acc.map En.num ++ e.num :: es.map En.num).Nodup := by
      have : (acc ++ e :: es).map En.num = acc.map En.num ++ e.num :: es.map En.num := by simp
      rw [← this]; exact hu
    have hn : e.num ∉ acc.map En.num := fun m => (List.nodup_append.mp hu2).2.2 _ m e.num (by simp) rfl
    obtain ⟨ok, ha⟩ := hok e (by simp)
    have f1 := e_entry_in ok ha O
    have ne : (e.text = ("" : Str)) = False := eq_false (en_text_ne e)
    have q0 := en_0 e
    have kd := kids_en e
    have vv : ∀ S, view S e.t = e.t := fun S => view_en S e
    have no := en_noOw e
    have nb := en_noBr e
    have isn : e.t.isN = false := rfl
    have sn : fInB false (.int e.num) (.dic .ow (seenK acc)) = some (.bl false) := by
      show some (T.bl (if false = true then !(getK (seenK acc) (.inl e.num)).isSome else (getK (seenK acc) (.inl e.num)).isSome)) = _
      rw [seen_none hn]; rfl
    have kt : keyT (.int e.num) = some (.inl e.num) := rfl
    have sp := seen_put hn
    have sk := seen_keys (acc := acc) ((List.nodup_append.mp hu2).1)
    have sl : (seenK acc).length < sizeLine := by unfold seenK; rw [List.length_map]; exact small_line (by omega)
    have al : (acc.map En.t).length < sizeLine := by rw [List.length_map]; exact small_line (by omega)
    have ap : (acc ++ [e]).map En.t = acc.map En.t ++ [e.t] := by simp
    have kb := (kvk_seen acc).1
    rw [ap, ← sp]
    generalize seenK acc = SK at *
    generalize acc.map En.t = AT at *
    generalize e.t = ET at *
    simp -implicitDefEqProofs [readB, ne, f1, nb, isn, kd, vv, q0, sn, kt, gIxA, getD', putD, sl, sk, no, al, getL, putL]
theorem e_read_roll {es : List En} (hok : ∀ e ∈ es, e.ok ∧ e.part.apart) (hu : Uq es) (hl : es.length ≤ 100) (O : List Ob) : d_read_roll [.str (rollText es)] O = some (.lst .ow (es.map En.t), O) := by
  have sp := roll_split (fun e m => (hok e m).1) hl
  have no := strs_no (rows es)
  have key : ∃ y1 y2 y3 y4 y5 : Option T, forGo (gTp [gNm 3, gNm 4]) readB (enumT 0 ((rows es).map T.str)) ([some (.str (rollText es)), some (.lst .ow []), some (.dic .ow []), none, none, none], O) = some (.nx, ([y1, some (.lst .ow (es.map En.t)), y2, y3, y4, y5], O)) := by
    by_cases h : es = []
    · subst h
      refine ⟨some (.str (rollText [])), some (.dic .ow []), some (.int 0), some (.str ""), none, ?_⟩
      have r : enumT 0 ((rows []).map T.str) = [.tup [.int 0, .str ""]] := rfl
      rw [r]
      refine forGo_step ?_ rfl
      generalize rollText [] = RR at *
      simp -implicitDefEqProofs [readB]
    · have r : rows es = es.map En.text := if_neg h
      rw [r]
      obtain ⟨y3, y4, y5, h2⟩ := read_loop (t0 := .str (rollText es)) (O := O) es [] 0 none none none hok hu (by simpa using hl)
      rw [List.nil_append] at h2
      exact ⟨_, _, y3, y4, y5, h2⟩
  obtain ⟨y1, y2, y3, y4, y5, lp⟩ := key
  unfold readB at lp
  have s0 : 0 ≤ sizeLine := by decide
  have nb := ens_noBr es
  generalize (rows es).map T.str = RT at *
  generalize es.map En.t = ET at *
  simp -implicitDefEqProofs [d_read_roll, dFn, b_read_roll, sp, no, s0, lp, nb]
theorem roll_one (e : En) : rollText [e] = e.text := by
  unfold rollText
  exact ext_tl (by rw [join_eq, tl_join]; rfl)
end Wk31

set_option Elab.async false
set_option linter.all false
set_option maxRecDepth 100000
set_option exponentiation.threshold 10000
set_option maxHeartbeats 0
namespace Wk31
open PySem PySem.Spec L2 TL
/-- what is told of a log by each ask -/
def askT (es : List En) (d : Int) : Nat → T
  | 0 => .lst .ow [.lst .ow (es.map fun _ => T.bl true), .lst .ow ((sortE es).map En.t)]
  | 1 => .lst .ow [.lst .ow ((told es d).map En.t), .lst .ow ((told es 199).map En.t), .lst .ow ((sortE (told es d)).map En.t)]
  | 2 => .lst .ow [.lst .ow ((es.map En.text).map T.str), .str (rollText es)]
  | 3 => .lst .ow [.lst .ow (es.map En.t), .lst .ow ((sortE es).map En.t)]
  | _ => .lst .ow (es.map fun e => .lst .ow [e.t])
structure Log (es : List En) : Prop where
  ok : ∀ e ∈ es, e.ok ∧ e.part.apart
  uq : Uq es
  len : es.length ≤ 100
theorem Log.sort {es : List En} (h : Log es) : Log (sortE es) := ⟨sortE_ok h.ok, h.uq.perm (sortE_perm es).symm, by rw [sortE_len]; exact h.len⟩
theorem e_asked {m : Mk} {es : List En} {d : Int} {k : Nat} (h : Log es) (hk : k ≤ 4) (O : List Ob) : d__law_asked [.int (k : Int), .lst m.brw (es.map En.t), .int d] O = some (askT es d k, O) := by
  have ok := fun e me => (h.ok e me).1
  have no := ens_noOw es
  have nb := ens_noBr es
  have brE := ens_brw es
  have noM : noOws (es.map En.t ++ [T.str "more"]) = true := by
    refine noOws_of fun t mm => ?_
    rcases List.mem_append.mp mm with mm | mm
    · exact noOws_mem no mm
    · rw [List.mem_singleton.mp mm]; rfl
  have al : (es.map En.t).length < sizeLine := by rw [List.length_map]; exact small_line (by have := h.len; omega)
  have fl : fList [.lst m.brw (es.map En.t)] = some (.lst .ow (es.map En.t)) := by cases m <;> (show (if noOws (es.map En.t) = true then some (T.lst .ow (es.map En.t)) else none) = _; rw [if_pos no])
  have lcG : ∀ (f : En → T) (te : DE) (x : T), (∀ e ∈ es, ∀ S : List (Option T), te ([some x, some (.lst m.brw (es.map En.t)), some (.int d), none, none, some e.t], O) = some (f e, ([some x, some (.lst m.brw (es.map En.t)), some (.int d), none, none, some e.t], O))) → lcGo [5] (gNm 5) tYesD te (es.map En.t) [] ([some x, some (.lst m.brw (es.map En.t)), some (.int d), none, none, none], O) = some (es.map f, ([some x, some (.lst m.brw (es.map En.t)), some (.int d), none, none, none], O)) := fun f te x hte => by
    refine lcGo_all (own := [5]) (g := gNm 5) (te := te) f En.t (ts := es) (fun e me => ⟨_, _, ?_, hte e me [], ?_⟩) (Nat.le_trans h.len (by decide))
    · generalize es.map En.t = ET at *
      generalize e.t = E at *
      simp
    · generalize es.map En.t = ET at *
      generalize e.t = E at *
      simp
  have s2 : 2 ≤ sizeLine := by decide
  have s3 : 3 ≤ sizeLine := by decide
  match k, hk with
  | 0, _ =>
    have lc := lcG (fun _ => T.bl true) (dCall d_is_entry (aCons (oBorS 5) aNil)) (.int 0) (fun e me _ => by
      have f1 := e_is_entry (ok e me) (h.ok e me).2 O
      have bw := en_brw e
      generalize es.map En.t = ET at *
      generalize e.t = E at *
      simp -implicitDefEqProofs [f1, bw])
    have io := e_in_order .br es O
    have nbS := ens_noBr (sortE es)
    have nbT : noBrs (es.map fun _ => T.bl true) = true := noBrs_map (fun _ => rfl) _
    show _ = some (T.lst .ow [.lst .ow (es.map fun _ => T.bl true), .lst .ow ((sortE es).map En.t)], O)
    have z : ((0 : Nat) : Int) = 0 := rfl
    rw [z]
    generalize (sortE es).map En.t = ST at *
    generalize es.map (fun _ => T.bl true) = BT at *
    generalize es.map En.t = ET at *
    simp -implicitDefEqProofs [d__law_asked, dFn, b__law_asked, fl, dLcK, dRev, brE, noM, no, lc, io, s2, al, nbS, nbT, nb, getL, putL]
  | 1, _ =>
    have t1 := e_told (m := .br) (es := es) (d := d) (O := O) h.len
    have t2 := e_told (m := .br) (es := es) (d := 199) (O := O) h.len
    have t1 : d_told_by [.lst .br (es.map En.t), .int d] O = some (.lst .ow ((told es d).map En.t), O) := t1
    have t2 : d_told_by [.lst .br (es.map En.t), .int 199] O = some (.lst .ow ((told es 199).map En.t), O) := t2
    have io := e_in_order .ow (told es d) O
    have n1 := ens_noBr (told es d)
    have n2 := ens_noBr (told es 199)
    have n3 := ens_noBr (sortE (told es d))
    show _ = some (T.lst .ow [.lst .ow ((told es d).map En.t), .lst .ow ((told es 199).map En.t), .lst .ow ((sortE (told es d)).map En.t)], O)
    have z : ((1 : Nat) : Int) = 1 := rfl
    rw [z]
    generalize (sortE (told es d)).map En.t = ST at *
    generalize (told es d).map En.t = DT at *
    generalize (told es 199).map En.t = LT at *
    generalize es.map En.t = ET at *
    simp -implicitDefEqProofs [d__law_asked, dFn, b__law_asked, fl, dRev, brE, noM, no, t1, t2, io, s3, al, n1, n2, n3, nb, getL, putL]
  | 2, _ =>
    have lc := lcG (fun e => T.str e.text) (dCall d_entry_text (aCons (oBorS 5) aNil)) (.int 2) (fun e me _ => by
      have f1 := e_entry_text (ok e me) O
      have bw := en_brw e
      generalize es.map En.t = ET at *
      generalize e.t = E at *
      simp -implicitDefEqProofs [f1, bw])
    have rt := e_roll_text (m := .br) ok h.len O
    have nbT : noBrs ((es.map En.text).map T.str) = true := noBrs_map (fun _ => rfl) _
    show _ = some (T.lst .ow [.lst .ow ((es.map En.text).map T.str), .str (rollText es)], O)
    rw [List.map_map] at nbT ⊢
    have lc : lcGo [5] (gNm 5) tYesD (dCall d_entry_text (aCons (oBorS 5) aNil)) (es.map En.t) [] ([some (.int 2), some (.lst m.brw (es.map En.t)), some (.int d), none, none, none], O) = some (es.map (T.str ∘ En.text), ([some (.int 2), some (.lst m.brw (es.map En.t)), some (.int d), none, none, none], O)) := lc
    have z : ((2 : Nat) : Int) = 2 := rfl
    rw [z]
    generalize es.map (T.str ∘ En.text) = BT at *
    generalize es.map En.t = ET at *
    simp -implicitDefEqProofs [d__law_asked, dFn, b__law_asked, fl, dLcK, dRev, brE, noM, no, lc, rt, s2, al, nbT, nb, getL, putL]
  | 3, _ =>
    have rt := e_roll_text (m := .br) ok h.len O
    have io := e_in_order .br es O
    have rt2 := e_roll_text (m := .ow) (sortE_ok ok) (by rw [sortE_len]; exact h.len) O
    have rr := e_read_roll h.ok h.uq h.len O
    have rr2 := e_read_roll h.sort.ok h.sort.uq h.sort.len O
    have nbS := ens_noBr (sortE es)
    show _ = some (T.lst .ow [.lst .ow (es.map En.t), .lst .ow ((sortE es).map En.t)], O)
    have z : ((3 : Nat) : Int) = 3 := rfl
    rw [z]
    generalize (sortE es).map En.t = ST at *
    generalize es.map En.t = ET at *
    simp -implicitDefEqProofs [d__law_asked, dFn, b__law_asked, fl, dRev, brE, noM, no, rt, io, rt2, rr, rr2, s2, al, nbS, nb, getL, putL]
  | 4, _ =>
    have lc := lcG (fun e => T.lst .ow [e.t]) (dCall d_read_roll (aCons (oTmp (dCall d_entry_text (aCons (oBorS 5) aNil))) aNil)) (.int 4) (fun e me _ => by
      have f1 := e_entry_text (ok e me) O
      have f2 := e_read_roll (es := [e]) (fun a ma => by rw [List.mem_singleton.mp ma]; exact h.ok e me) (by show List.Nodup [e.num]; simp) (by simp) O
      rw [roll_one] at f2
      have f2 : d_read_roll [.str e.text] O = some (.lst .ow [e.t], O) := f2
      have bw := en_brw e
      have nb := en_noBr e
      generalize es.map En.t = ET at *
      generalize e.t = E at *
      simp -implicitDefEqProofs [f1, f2, bw, nb])
    have nbT : noBrs (es.map fun e => T.lst .ow [e.t]) = true := noBrs_map (fun e => by show (e.t.noBr && true) = true; rw [en_noBr]; rfl) _
    show _ = some (T.lst .ow (es.map fun e => T.lst .ow [e.t]), O)
    have z : ((4 : Nat) : Int) = 4 := rfl
    rw [z]
    generalize es.map (fun e => T.lst .ow [e.t]) = BT at *
    generalize es.map En.t = ET at *
    simp -implicitDefEqProofs [d__law_asked, dFn, b__law_asked, fl, dLcK, dRev, brE, noM, no, lc, al, nbT, nb, getL, putL]
end Wk31

set_option Elab.async false
set_option linter.all false
set_option maxRecDepth 100000
set_option exponentiation.threshold 10000
set_option maxHeartbeats 0
namespace Wk31
open PySem PySem.Spec L2 TL
theorem strs_plain {l : List Str} {m : Mk} (h : ∀ s ∈ l, Lo s) (hl : l.length ≤ 1000) : T.plainT (.lst m (l.map T.str)) = true := plain_lst (fun t mm => by
  obtain ⟨s, ms, rfl⟩ := List.mem_map.mp mm; exact (h s ms).ok) (by rw [List.length_map]; exact hl)
theorem ask_plain {es : List En} {d : Int} {k : Nat} (h : Log es) (hk : k ≤ 4) : (askT es d k).plainT = true := by
  have ok := fun e me => (h.ok e me).1
  have tl : ∀ d, (told es d).length ≤ es.length := fun _ => told_len
  have hl := h.len
  have p0 : ∀ l : List En, (∀ e ∈ l, e.ok) → l.length ≤ 100 → T.plainT (.lst .ow (l.map En.t)) = true := fun l a b => ens_plain a b
  match k, hk with
  | 0, _ =>
    refine plain_lst (fun t m => ?_) (by show 2 ≤ 1000; omega)
    simp only [List.mem_cons, List.not_mem_nil, or_false] at m
    rcases m with rfl | rfl
    · exact plain_lst (fun t mm => by obtain ⟨_, _, rfl⟩ := List.mem_map.mp mm; rfl) (by rw [List.length_map]; omega)
    · exact p0 _ (sortE_ok ok) (by rw [sortE_len]; exact hl)
  | 1, _ =>
    refine plain_lst (fun t m => ?_) (by show 3 ≤ 1000; omega)
    simp only [List.mem_cons, List.not_mem_nil, or_false] at m
    rcases m with rfl | rfl | rfl
    · exact p0 _ (told_ok ok) (by have := tl d; omega)
    · exact p0 _ (told_ok ok) (by have := tl 199; omega)
    · exact p0 _ (sortE_ok (told_ok ok)) (by rw [sortE_len]; have := tl d; omega)
  | 2, _ =>
    refine plain_lst (fun t m => ?_) (by show 2 ≤ 1000; omega)
    simp only [List.mem_cons, List.not_mem_nil, or_false] at m
    rcases m with rfl | rfl
    · exact strs_plain (fun s ms => by obtain ⟨e, me, rfl⟩ := List.mem_map.mp ms; exact lo_text (ok e me)) (by rw [List.length_map]; omega)
    · exact (lo_roll ok).ok
  | 3, _ =>
    refine plain_lst (fun t m => ?_) (by show 2 ≤ 1000; omega)
    simp only [List.mem_cons, List.not_mem_nil, or_false] at m
    rcases m with rfl | rfl
    · exact p0 _ ok hl
    · exact p0 _ (sortE_ok ok) (by rw [sortE_len]; exact hl)
  | 4, _ =>
    refine plain_lst (fun t m => ?_) (by rw [List.length_map]; omega)
    obtain ⟨e, me, rfl⟩ := List.mem_map.mp m
    exact plain_lst (fun t mm => by rw [List.mem_singleton.mp mm]; exact en_plain (ok e me)) (by show 1 ≤ 1000; omega)
theorem ask_deep (es : List En) (d : Int) (k : Nat) : (askT es d k).deep ≤ 4 := by
  have p0 : ∀ l : List En, T.deep (.lst .ow (l.map En.t)) ≤ 3 := fun l => ens_deep _ l
  have ps : ∀ l : List Str, T.deep (.lst .ow (l.map T.str)) ≤ 3 := fun l => Nat.succ_le_succ (deeps_le fun t m => by obtain ⟨_, _, rfl⟩ := List.mem_map.mp m; show 1 ≤ 2; omega)
  match k with
  | 0 =>
    refine Nat.succ_le_succ (deeps_le fun t m => ?_)
    simp only [List.mem_cons, List.not_mem_nil, or_false] at m
    rcases m with rfl | rfl
    · exact Nat.succ_le_succ (deeps_le fun t m => by obtain ⟨_, _, rfl⟩ := List.mem_map.mp m; show 1 ≤ 2; omega)
    · exact p0 _
  | 1 =>
    refine Nat.succ_le_succ (deeps_le fun t m => ?_)
    simp only [List.mem_cons, List.not_mem_nil, or_false] at m
    rcases m with rfl | rfl | rfl <;> exact p0 _
  | 2 =>
    refine Nat.succ_le_succ (deeps_le fun t m => ?_)
    simp only [List.mem_cons, List.not_mem_nil, or_false] at m
    rcases m with rfl | rfl
    · exact ps _
    · show 1 ≤ 3; omega
  | 3 =>
    refine Nat.succ_le_succ (deeps_le fun t m => ?_)
    simp only [List.mem_cons, List.not_mem_nil, or_false] at m
    rcases m with rfl | rfl <;> exact p0 _
  | _ + 4 =>
    refine Nat.succ_le_succ (deeps_le fun t m => ?_)
    obtain ⟨e, _, rfl⟩ := List.mem_map.mp m
    exact Nat.succ_le_succ (deeps_le fun t m => by rw [List.mem_singleton.mp m, en_deep]; exact Nat.le_refl _)
theorem ask_owT (es : List En) (d : Int) (k : Nat) : (askT es d k).owT = askT es d k := by
  have p0 : ∀ l : List En, owTs (l.map En.t) = l.map En.t := ens_owT
  match k with
  | 0 =>
    show T.lst .ow [.lst .ow (owTs (es.map fun _ => T.bl true)), .lst .ow (owTs ((sortE es).map En.t))] = _
    rw [map_owT (fun _ => rfl), p0]; rfl
  | 1 =>
    show T.lst .ow [.lst .ow (owTs ((told es d).map En.t)), .lst .ow (owTs ((told es 199).map En.t)), .lst .ow (owTs ((sortE (told es d)).map En.t))] = _
    rw [p0, p0, p0]; rfl
  | 2 =>
    show T.lst .ow [.lst .ow (owTs ((es.map En.text).map T.str)), .str (rollText es)] = _
    rw [map_owT (fun _ => rfl)]; rfl
  | 3 =>
    show T.lst .ow [.lst .ow (owTs (es.map En.t)), .lst .ow (owTs ((sortE es).map En.t))] = _
    rw [p0, p0]; rfl
  | _ + 4 =>
    show T.lst .ow (owTs (es.map fun e => T.lst .ow [e.t])) = _
    rw [map_owT (fun e => by show T.lst .ow [e.t.owT] = _; rw [en_owT])]; rfl
theorem ask_noBr {es : List En} {d : Int} {k : Nat} (h : Log es) (hk : k ≤ 4) : (askT es d k).noBr = true := by
  rw [← ask_owT]; exact noBr_owT _ (ask_plain h hk)
theorem ask_lst (es : List En) (d : Int) (k : Nat) : ∃ xs, askT es d k = .lst .ow xs := by
  match k with
  | 0 => exact ⟨_, rfl⟩
  | 1 => exact ⟨_, rfl⟩
  | 2 => exact ⟨_, rfl⟩
  | 3 => exact ⟨_, rfl⟩
  | _ + 4 => exact ⟨_, rfl⟩
theorem mark_ask {es : List En} {d : Int} {k : Nat} (h : Log es) (hk : k ≤ 4) : ∃ z, (∀ O, d__law_marked 8 [askT es d k] O = some (z, O)) ∧ z.noBr = true ∧ fNe z z = some (.bl false) ∧ ∀ S, view S z = z := by
  have hp := ask_plain (d := d) h hk
  have hd := ask_deep es d k
  have ho := ask_owT es d k
  have hm : PyData.strOk ("a mark" : Str) = true := by decide +kernel
  obtain ⟨xs, hx⟩ := ask_lst es d k
  rw [hx] at hp hd ho ⊢
  obtain ⟨z, h1, h2, h3, h4, ys, h5⟩ := e_mark (n := 8) (O := []) hm (mk := .ow) (xs := xs) hp (by omega)
  rw [ho] at h1
  refine ⟨z, h1, h2, fNe_self h3 (by omega) rfl ⟨_, _, h5⟩, fun S => by rw [h5]; rfl⟩
theorem ask_view (es : List En) (d : Int) (k : Nat) (S : SS) : view S (askT es d k) = askT es d k := by
  obtain ⟨xs, hx⟩ := ask_lst es d k
  rw [hx]; rfl
theorem ask_viewF (es : List En) (d : Int) (k : Nat) (S : SS) : view S (askT es d k).frz = (askT es d k).frz := by
  obtain ⟨xs, hx⟩ := ask_lst es d k
  rw [hx]; rfl
theorem ask_copied {es : List En} {d : Int} {k : Nat} (h : Log es) (hk : k ≤ 4) (O : List Ob) : d__law_copied 8 [askT es d k] O = some (askT es d k, O) ∧ d__law_copied 8 [(askT es d k).frz] O = some (askT es d k, O) := by
  have hp := ask_plain (d := d) h hk
  have hd := ask_deep es d k
  constructor
  · rw [e_copied 8 _ O hp (by omega), ask_owT]
  · rw [e_copied 8 _ O (by rw [plainT_frz]; exact hp) (by rw [deep_frz]; omega), owT_frz, ask_owT]
theorem ask_same {es : List En} {d : Int} {k : Nat} (h : Log es) (hk : k ≤ 4) (O : List Ob) : d__law_same 8 [(askT es d k).brw, (askT es d k).frz] O = some (.bl true, O) := by
  have hp := ask_plain (d := d) h hk
  have hd := ask_deep es d k
  exact same_ow O (by rw [plainT_brw]; exact hp) (by rw [deep_brw]; omega) (by rw [plainT_frz]; exact hp) (by rw [owT_brw, owT_frz])
/-- a turn -/
abbrev turnB : DS := (sSeq (sPar 8 9 (aCons (oTmp (dCall d__law_take (aCons (oBorS 0) (aCons (oTmp (dC (.int 2))) aNil)))) (aCons (oTmp (dCall d__law_take (aCons (oBorS 0) (aCons (oTmp (dC (.int 5))) aNil)))) aNil)))
    (sSeq (sAsg (dCall d__law_asked (aCons (oBorS 9) (aCons (oTmp (d2 fIxA (oAuto 3) (oBorS 8))) (aCons (oBorS 4) aNil)))) (gNm 5))
    (sSeq (sIf (tNotD (tOf (dCall (d__law_same 8) (aCons (oBorS 5) (aCons (oTmp (d2 fIxA (oTmp (d2 fIxA (oAuto 1) (oBorS 8))) (oBorS 9))) aNil))))) (sRet (dC (.bl false))) sNil)
    (sIf (tOf (d2 fNe (oTmp (dCall (d__law_marked 8) (aCons (oTmp (dMov 5)) aNil))) (oTmp (dCall (d__law_marked 8) (aCons (oTmp (dCall (d__law_copied 8) (aCons (oTmp (d2 fIxA (oTmp (d2 fIxA (oAuto 1) (oBorS 8))) (oBorS 9))) aNil))) aNil))))) (sRet (dC (.bl false))) sNil))))
end Wk31

set_option Elab.async false
set_option linter.all false
set_option maxRecDepth 100000
set_option exponentiation.threshold 10000
set_option maxHeartbeats 0
namespace Wk31
open PySem PySem.Spec L2 TL
theorem fEq_nil {m : Mk} {es : List En} (hok : ∀ e ∈ es, e.ok) (hl : es.length ≤ 100) : fEq (.lst m (es.map En.t)) (.lst .ow []) = some (.bl es.isEmpty) := by
  have h := fNe_nil (m := m) hok hl
  unfold fNe at h
  unfold fEq
  cases q : eqT (.lst m (es.map En.t)) (.lst .ow []) with
  | none => rw [q] at h; cases h
  | some b =>
    rw [q] at h
    have h1 : some (T.bl (!b)) = some (T.bl (!es.isEmpty)) := h
    have h2 : (!b) = !es.isEmpty := by injection (Option.some.inj h1)
    have h3 : b = es.isEmpty := by cases b <;> cases hh : es.isEmpty <;> rw [hh] at h2 <;> first | rfl | cases h2
    rw [h3]; rfl
theorem log_of {es : List En} {cs : List Str} (hc : cs.Nodup) (h : ∀ e ∈ es, e.ok ∧ (cs.Nodup → e.part.apart)) (hu : Uq es) (hl : es.length ≤ 30) : Log es := ⟨fun e m => ⟨(h e m).1, (h e m).2 hc⟩, hu, by omega⟩
theorem e_pair {O : List Ob} {n k : Nat} (h : Bx O n k) (hk : k < 2 ^ 34) : ∃ (m1 : Mk) (es1 es2 : List En) (O' : List Ob), d__law_pair [.hnd n] O = some (.lst .ow [.lst m1 (es1.map En.t), .lst .ow (es2.map En.t)], O') ∧ m1.frz = .fz ∧ Log es1 ∧ Log es2 ∧ Bx O' n (k + 20000) := by
  obtain ⟨hs, ls, cs, ws, O1, e1, w, nc, b1⟩ := e_world h (by omega)
  obtain ⟨es1, O2, e2, l1, ok1, u1, b2⟩ := e_log (most := 30) w b1 (by omega) (by omega)
  have e2 : d__law_log [.hnd n, .dic .br (wkvs hs ls cs ws), .int 30] O1 = some (.lst .ow (es1.map En.t), O2) := e2
  obtain ⟨r1, O3, e3, a3, c3, b3⟩ := e_take (m := 2) b2 (by omega) (by omega) (by omega)
  have L1 := log_of nc ok1 u1 l1
  have ne : fEq (.lst .br (es1.map En.t)) (.lst .ow []) = some (.bl es1.isEmpty) := fEq_nil (m := .br) (fun e m => (ok1 e m).1) (by omega)
  have neO : fEq (.lst .ow (es1.map En.t)) (.lst .ow []) = some (.bl es1.isEmpty) := fEq_nil (m := .ow) (fun e m => (ok1 e m).1) (by omega)
  have no := ens_noOw es1
  have nb1 := ens_noBr es1
  have fz1 := ens_frz es1
  have brE := ens_brw es1
  have s2 : 2 ≤ sizeLine := by decide
  have s1 : 1 ≤ sizeLine := by decide
  have s0 : 0 ≤ sizeLine := by decide
  by_cases hb : r1 = 0 ∨ es1 = []
  · obtain ⟨es2, O4, e4, l2, ok2, u2, b4⟩ := e_log (most := 30) w b3 (by omega) (by omega)
    have e4 : d__law_log [.hnd n, .dic .br (wkvs hs ls cs ws), .int 30] O3 = some (.lst .ow (es2.map En.t), O4) := e4
    refine ⟨.ow, es1, es2, O4, ?_, rfl, L1, log_of nc ok2 u2 l2, b4.mono (by omega)⟩
    have nb2 := ens_noBr es2
    have cond : ¬ r1 = 0 → es1.isEmpty = true := fun q => by
      rcases hb with z | z
      · exact absurd z q
      · rw [z]; rfl
    generalize es1.map En.t = ET at *
    generalize es2.map En.t = FT at *
    by_cases q : r1 = 0
    · subst q
      simp -implicitDefEqProofs [d__law_pair, dFn, b__law_pair, e1, e2, e3, s0, nb1, nb2, no, e4, s2]
    · have c := cond q
      rw [c] at ne neO
      simp -implicitDefEqProofs [d__law_pair, dFn, b__law_pair, e1, e2, e3, q, ne, neO, s0, nb1, nb2, no, e4, s2]
  · have q : ¬ r1 = 0 := fun z => hb (.inl z)
    have q2 : es1 ≠ [] := fun z => hb (.inr z)
    have pos : 0 < es1.length := List.length_pos_iff.mpr q2
    obtain ⟨at', O4, e4, a4, c4, b4⟩ := e_take (m := (es1.length : Int)) b3 (by omega) (by omega) (by omega)
    obtain ⟨dd, O5, e5, a5, c5, b5⟩ := e_take (m := 200) b4 (by omega) (by omega) (by omega)
    obtain ⟨p, O6, e6, okp, ap, b6⟩ := e_part w b5 (by omega) a5 (show dd ≤ 199 by omega)
    have hat : at'.toNat < es1.length := by omega
    obtain ⟨o, ho⟩ : ∃ o : En, o = es1[at'.toNat] := ⟨_, rfl⟩
    have mo : o ∈ es1 := by rw [ho]; exact List.getElem_mem _
    have oo := (ok1 o mo).1
    obtain ⟨f, hf⟩ : ∃ f : En, f = ⟨o.num, dd, p⟩ := ⟨_, rfl⟩
    have fo : f.ok := by rw [hf]; exact ⟨oo.1, oo.2.1, a5, by show dd ≤ 199; omega, okp⟩
    have fa : f.part.apart := by rw [hf]; exact ap nc
    have fnum : f.num = o.num := by rw [hf]
    have ge : es1[at'.toNat]? = some o := by rw [List.getElem?_eq_getElem hat, ho]
    have nums : (es1.take at'.toNat ++ [f] ++ es1.drop (at'.toNat + 1)).map En.num = es1.map En.num := by
      have sp : es1 = es1.take at'.toNat ++ (o :: es1.drop (at'.toNat + 1)) := by
        have := List.take_append_drop at'.toNat es1
        rw [List.drop_eq_getElem_cons hat, ← ho] at this
        exact this.symm
      conv => rhs; rw [sp]
      simp [fnum]
    refine ⟨.fz, es1, es1.take at'.toNat ++ [f] ++ es1.drop (at'.toNat + 1), O6, ?_, rfl, L1, ⟨fun e me => ?_, ?_, ?_⟩, b6.mono (by omega)⟩
    · have em : es1.isEmpty = false := by cases es1 with
        | nil => exact absurd rfl q2
        | cons a l => rfl
      rw [em] at ne neO
      have at0 : ∀ m : Mk, fIxA (.lst m (es1.map En.t)) (.int at') = some o.t := fun m => by
        have hI : (at'.toNat : Int) = at' := Int.toNat_of_nonneg a4
        have e : atI (es1.map En.t) at' = some o.t := by
          rw [atI_nat (j := at'.toNat) (by omega) (by rw [List.length_map]; exact hat), List.getElem?_map, ge]; rfl
        have hno := en_noOw o
        generalize es1.map En.t = ET at *
        generalize o.t = OT at *
        simp [e, no, hno]
      have hI : (at'.toNat : Int) = at' := Int.toNat_of_nonneg a4
      have sl1 : ∀ m : Mk, fSl (.lst m (es1.map En.t)) none (some at') = some (.lst .ow ((es1.take at'.toNat).map En.t)) := fun m => by
        have c := cutT_to (es1.map En.t) at'.toNat
        rw [hI] at c
        show (if noOws (es1.map En.t) = true then some (T.lst .ow (cutT (es1.map En.t) none (some at'))) else none) = _
        rw [if_pos no, c, ← List.map_take]
      have sl2 : ∀ m : Mk, fSl (.lst m (es1.map En.t)) (some (at' + 1)) none = some (.lst .ow ((es1.drop (at'.toNat + 1)).map En.t)) := fun m => by
        have c := cutT_from (es1.map En.t) (at'.toNat + 1)
        rw [Int.natCast_add, hI] at c
        show (if noOws (es1.map En.t) = true then some (T.lst .ow (cutT (es1.map En.t) (some (at' + 1)) none)) else none) = _
        rw [if_pos no]
        have c : cutT (es1.map En.t) (some (at' + 1)) none = (es1.map En.t).drop (at'.toNat + 1) := c
        rw [c, ← List.map_drop]
      have o0 := en_0 o
      have ad : fAdd (.tup [.int o.num, .int dd]) p.t = some f.t := by
        show fAdd (.tup [.int o.num, .int dd]) (.tup (.str p.word :: p.rest)) = _
        have no : noOws (.str p.word :: p.rest) = true := by rw [noOws_cons, rest_noOw]; rfl
        have ll : 2 + (p.rest.length + 1) ≤ sizeLine := by
          have := (rest_plain okp).2
          exact Nat.le_of_lt (small_line (by omega))
        rw [hf]
        simp [fAdd, no, ll, En.t]
      have vp : ∀ S, view S p.t = p.t := fun _ => rfl
      have cat : ∀ a b : List En, a.length + b.length ≤ 1000 → fAdd (.lst .ow (a.map En.t)) (.lst .ow (b.map En.t)) = some (.lst .ow ((a ++ b).map En.t)) := fun a b hab => by
        have ll : (a.map En.t).length + (b.map En.t).length ≤ sizeLine := by rw [List.length_map, List.length_map]; exact Nat.le_of_lt (small_line hab)
        have n1 := ens_noOw a
        have n2 := ens_noOw b
        show (if (a.map En.t).length + (b.map En.t).length ≤ sizeLine ∧ noOws (a.map En.t) = true ∧ noOws (b.map En.t) = true then some (T.lst .ow (a.map En.t ++ b.map En.t)) else none) = _
        rw [if_pos ⟨ll, n1, n2⟩, ← List.map_append]
      have tl : (es1.take at'.toNat).length ≤ 30 := by rw [List.length_take]; omega
      have dl : (es1.drop (at'.toNat + 1)).length ≤ 30 := by rw [List.length_drop]; omega
      have c1 := cat (es1.take at'.toNat) [f] (by simp only [List.length_singleton]; omega)
      have c1 : fAdd (.lst .ow ((es1.take at'.toNat).map En.t)) (.lst .ow [f.t]) = some (.lst .ow ((es1.take at'.toNat ++ [f]).map En.t)) := c1
      have c2 := cat (es1.take at'.toNat ++ [f]) (es1.drop (at'.toNat + 1)) (by rw [List.length_append]; simp only [List.length_singleton]; omega)
      have lnE : fLen [.lst .br (es1.map En.t)] = some (.int (es1.length : Int)) := by
        show some (T.int ((es1.map En.t).length : Int)) = _
        rw [List.length_map]
      have lnE2 : ((es1.map En.t).length : Int) = (es1.length : Int) := by rw [List.length_map]
      have nbR := ens_noBr (es1.take at'.toNat ++ [f] ++ es1.drop (at'.toNat + 1))
      have ko : o.t.noOw = true := en_noOw o
      have vo : ∀ S, view S o.t = o.t := fun S => view_en S o
      generalize (es1.take at'.toNat ++ [f] ++ es1.drop (at'.toNat + 1)).map En.t = RT at *
      generalize (es1.take at'.toNat ++ [f]).map En.t = R1 at *
      generalize (es1.take at'.toNat).map En.t = R2 at *
      generalize (es1.drop (at'.toNat + 1)).map En.t = R3 at *
      generalize es1.map En.t = ET at *
      generalize (es1.length : Int) = LN at *
      simp -implicitDefEqProofs [d__law_pair, dFn, b__law_pair, e1, e2, e3, q, ne, neO, s0, nb1, no, s2, s1, lnE, lnE2, e4, e5, sl1, sl2, at0, o0, vo, e6, vp, ad, c1, c2, nbR, fz1]
    · rcases List.mem_append.mp me with me | me
      · rcases List.mem_append.mp me with me | me
        · exact ⟨(ok1 e (List.mem_of_mem_take me)).1, (ok1 e (List.mem_of_mem_take me)).2 nc⟩
        · rw [List.mem_singleton.mp me]; exact ⟨fo, fa⟩
      · exact ⟨(ok1 e (List.mem_of_mem_drop me)).1, (ok1 e (List.mem_of_mem_drop me)).2 nc⟩
    · show List.Nodup _
      rw [nums]; exact u1
    · rw [List.length_append, List.length_append, List.length_take, List.length_drop, List.length_singleton]; omega
end Wk31

set_option Elab.async false
set_option linter.all false
set_option maxRecDepth 100000
set_option exponentiation.threshold 10000
set_option maxHeartbeats 0
namespace Wk31
open PySem PySem.Spec L2 TL
theorem bx_eq {O O' : List Ob} {n k k' : Nat} (h : Bx O n k) (hk : k ≤ k') : Bx O n k' := h.mono hk
/-- all five asks -/
def five (es : List En) (d : Int) : List T := [askT es d 0, askT es d 1, askT es d 2, askT es d 3, askT es d 4]
def fiveF (es : List En) (d : Int) : List T := [(askT es d 0).frz, (askT es d 1).frz, (askT es d 2).frz, (askT es d 3).frz, (askT es d 4).frz]
theorem five_frz (es : List En) (d : Int) : frzs (five es d) = fiveF es d := rfl
theorem fiveF_no (es : List En) (d : Int) : noOws (fiveF es d) = true := by
  rw [← five_frz]; exact noOw_frz (.lst .ow (five es d))
theorem fiveF_at (es : List En) (d : Int) {r : Int} (h0 : 0 ≤ r) (h1 : r < 5) : atI (fiveF es d) r = some (askT es d r.toNat).frz := by
  have hr : r = 0 ∨ r = 1 ∨ r = 2 ∨ r = 3 ∨ r = 4 := by omega
  rcases hr with rfl | rfl | rfl | rfl | rfl <;> rfl
theorem five_noBr {es : List En} (d : Int) (h : Log es) : noBrs (five es d) = true := by
  show ((askT es d 0).noBr && ((askT es d 1).noBr && ((askT es d 2).noBr && ((askT es d 3).noBr && ((askT es d 4).noBr && true))))) = true
  rw [ask_noBr h (by omega), ask_noBr h (by omega), ask_noBr h (by omega), ask_noBr h (by omega), ask_noBr h (by omega)]; rfl
theorem turn_step {O : List Ob} {n k : Nat} {es : List En} {d r8 r9 : Int} {L3 F1 F1F : List T} {t1 : T} {x2 x5 x6 x7 x8 x9 x10 : Option T} (hL : Log es) (b : Bx O n k) (hk : k < 2 ^ 35)
    (O1 O2 : List Ob) (e1 : d__law_take [.hnd n, .int 2] O = some (.int r8, O1)) (e2 : d__law_take [.hnd n, .int 5] O1 = some (.int r9, O2)) (h0 : 0 ≤ r9) (h5 : r9 < 5)
    (n3 : noOws L3 = true) (i3 : atI L3 r8 = some (.lst .fz (es.map En.t))) (n1 : noOws F1F = true) (i1 : atI F1F r8 = some (.lst .fz (fiveF es d))) (h1 : (t1 = .lst .ow F1 ∧ frzs F1 = F1F ∧ noOws F1 = false) ∨ t1 = .lst .fz F1F) (t2 : T) :
    ∃ y5 : Option T, ((gNm 2) t2 ([some (.hnd n), some t1, x2, some (.lst .fz L3), some (.int d), x5, x6, x7, x8, x9, x10], O)).bind turnB = some (.nx, ([some (.hnd n), some (.lst .fz F1F), some t2, some (.lst .fz L3), some (.int d), y5, x6, x7, some (.int r8), some (.int r9), x10], O2)) := by
  have hk4 : r9.toNat ≤ 4 := by omega
  have hI : (r9.toNat : Int) = r9 := Int.toNat_of_nonneg h0
  have ea := e_asked (m := .fz) (d := d) hL hk4 O2
  rw [hI] at ea
  have ea : d__law_asked [.int r9, .lst .fz (es.map En.t), .int d] O2 = some (askT es d r9.toNat, O2) := ea
  have i2 := fiveF_at es d h0 h5
  have nF := fiveF_no es d
  have nE := ens_noOw es
  have sa := ask_same (d := d) hL hk4 O2
  have cp := (ask_copied (d := d) hL hk4 O2).2
  obtain ⟨z, em, zb, zn, zv⟩ := mark_ask (d := d) hL hk4
  have em := em O2
  have vb := ask_noBr (d := d) hL hk4
  have vf := noOw_frz (askT es d r9.toNat)
  have vv := ask_view es d r9.toNat
  have vvf := ask_viewF es d r9.toNat
  refine ⟨none, ?_⟩
  generalize askT es d r9.toNat = V at *
  generalize V.frz = VF at *
  generalize fiveF es d = FF at *
  generalize es.map En.t = ET at *
  rcases h1 with ⟨rfl, hf, hn⟩ | rfl
  · simp -implicitDefEqProofs [turnB, e1, e2, n3, i3, nE, ea, vb, hn, hf, n1, i1, nF, i2, vf, vvf, sa, em, zb, cp, vv, zv, zn]
  · simp -implicitDefEqProofs [turnB, e1, e2, n3, i3, nE, ea, vb, n1, i1, nF, i2, vf, vvf, sa, em, zb, cp, vv, zv, zn]
def pickE (es1 es2 : List En) (r : Int) : List En := if r = 0 then es1 else es2
theorem turns {n : Nat} {es1 es2 : List En} {d : Int} {x6 x7 x10 : Option T} (L1 : Log es1) (L2 : Log es2) : ∀ (ts : List T) (k : Nat) (O : List Ob) (t1 : T) (x2 x5 x8 x9 : Option T), Bx O n k → k + 2 * ts.length < 2 ^ 35 → (t1 = .lst .ow [.lst .ow (five es1 d), .lst .ow (five es2 d)] ∨ t1 = .lst .fz [.lst .fz (fiveF es1 d), .lst .fz (fiveF es2 d)]) →
    ∃ (t1' : T) (y2 y5 y8 y9 : Option T) (O' : List Ob), forGo (gNm 2) turnB ts ([some (.hnd n), some t1, x2, some (.lst .fz [.lst .fz (es1.map En.t), .lst .fz (es2.map En.t)]), some (.int d), x5, x6, x7, x8, x9, x10], O) = some (.nx, ([some (.hnd n), some t1', y2, some (.lst .fz [.lst .fz (es1.map En.t), .lst .fz (es2.map En.t)]), some (.int d), y5, x6, x7, y8, y9, x10], O')) ∧ Bx O' n (k + 2 * ts.length) ∧ (t1' = .lst .ow [.lst .ow (five es1 d), .lst .ow (five es2 d)] ∨ t1' = .lst .fz [.lst .fz (fiveF es1 d), .lst .fz (fiveF es2 d)]) := by
  intro ts
  induction ts with
  | nil => intro k O t1 x2 x5 x8 x9 b _ h; exact ⟨t1, x2, x5, x8, x9, O, rfl, b, h⟩
  | cons t ts ih =>
    intro k O t1 x2 x5 x8 x9 b hk h
    rw [List.length_cons] at hk
    obtain ⟨r8, O1, e1, a1, c1, b1⟩ := e_take (m := 2) b (by omega) (by omega) (by omega)
    obtain ⟨r9, O2, e2, a2, c2, b2⟩ := e_take (m := 5) b1 (by omega) (by omega) (by omega)
    have n3 : noOws [T.lst .fz (es1.map En.t), .lst .fz (es2.map En.t)] = true := by
      show (noOws (es1.map En.t) && (noOws (es2.map En.t) && true)) = true
      rw [ens_noOw, ens_noOw]; rfl
    have n1 : noOws [T.lst .fz (fiveF es1 d), .lst .fz (fiveF es2 d)] = true := by
      show (noOws (fiveF es1 d) && (noOws (fiveF es2 d) && true)) = true
      rw [fiveF_no, fiveF_no]; rfl
    have hP : Log (pickE es1 es2 r8) := by unfold pickE; split <;> assumption
    have r01 : r8 = 0 ∨ r8 = 1 := by omega
    have i3 : atI [T.lst .fz (es1.map En.t), .lst .fz (es2.map En.t)] r8 = some (.lst .fz ((pickE es1 es2 r8).map En.t)) := by
      rcases r01 with rfl | rfl <;> rfl
    have i1 : atI [T.lst .fz (fiveF es1 d), .lst .fz (fiveF es2 d)] r8 = some (.lst .fz (fiveF (pickE es1 es2 r8) d)) := by
      rcases r01 with rfl | rfl <;> rfl
    obtain ⟨y5, h2⟩ := turn_step (x2 := x2) (x5 := x5) (x6 := x6) (x7 := x7) (x8 := x8) (x9 := x9) (x10 := x10) (t1 := t1) (F1 := [.lst .ow (five es1 d), .lst .ow (five es2 d)]) hP b (by omega) O1 O2 e1 e2 a2 c2 n3 i3 n1 i1 (by
      rcases h with h | h
      · exact .inl ⟨h, rfl, rfl⟩
      · exact .inr h) t
    obtain ⟨t1', z2, z5, z8, z9, O', h3, b3, h4⟩ := ih (k + 1 + 1) O2 (.lst .fz [.lst .fz (fiveF es1 d), .lst .fz (fiveF es2 d)]) (some t) y5 (some (.int r8)) (some (.int r9)) b2 (by omega) (.inr rfl)
    exact ⟨t1', z2, z5, z8, z9, O', forGo_step h2 h3, b3.mono (by rw [List.length_cons]; omega), h4⟩
/-- the asks of one log at last -/
abbrev finB : DS := (sSeq (sIf (tOrD (tOf (d2 fNe (oTmp (d2 fIxA (oAuto 7) (oTmp (dC (.int 3))))) (oTmp (dLst (aCons (oTmp (dUse 6)) (aCons (oTmp (d2 fIxA (oTmp (d2 fIxA (oAuto 7) (oTmp (dC (.int 0))))) (oTmp (dC (.int 1))))) aNil)))))) (tOrD (tOf (d2 fNe (oTmp (d2 fIxA (oAuto 7) (oTmp (dC (.int 4))))) (oTmp (dLc [10] (iSeq (dUse 6)) (gNm 10) tYesD (dLst (aCons (oTmp (dUse 10)) aNil)))))) (tOf (d2 (fInB false) (oTmp (dC (.bl false))) (oTmp (d2 fIxA (oTmp (d2 fIxA (oAuto 7) (oTmp (dC (.int 0))))) (oTmp (dC (.int 0))))))))) (sRet (dC (.bl false))) sNil)
    (sIf (tNotD (tOf (dCall (d__law_same 8) (aCons (oTmp (dCall d_in_order (aCons (oTmp (dCall d__law_strewn (aCons (oBorS 0) (aCons (oBorS 6) aNil)))) aNil))) (aCons (oTmp (d2 fIxA (oTmp (d2 fIxA (oAuto 7) (oTmp (dC (.int 0))))) (oTmp (dC (.int 1))))) aNil))))) (sRet (dC (.bl false))) sNil))
theorem fin_step {O : List Ob} {n k : Nat} {es : List En} {d : Int} {x1 x2 x3 x4 x5 x6 x7 x8 x9 : Option T} (hL : Log es) (b : Bx O n k) (hk : k < 2 ^ 35) :
    ∃ O', ((gTp [gNm 6, gNm 7]) (.tup [.lst .fz (es.map En.t), .lst .fz (fiveF es d)]) ([some (.hnd n), x1, x2, x3, x4, x5, x6, x7, x8, x9, none], O)).bind finB = some (.nx, ([some (.hnd n), x1, x2, x3, x4, x5, some (.lst .fz (es.map En.t)), some (.lst .fz (fiveF es d)), x8, x9, none], O')) ∧ Bx O' n (k + 100) := by
  have ok := fun e me => (hL.ok e me).1
  obtain ⟨es', O1, e1, p1, b1⟩ := e_strewn (m := .fz) (es := es) b (by omega) hL.len
  have e1 : d__law_strewn [.hnd n, .lst .fz (es.map En.t)] O = some (.lst .ow (es'.map En.t), O1) := e1
  have io := e_in_order .ow es' O1
  rw [sortE_same (hL.uq.perm p1.symm) p1] at io
  refine ⟨O1, ?_, b1⟩
  have nE := ens_noOw es
  have nbE := ens_noBr es'
  have brE := ens_brw es
  have nF := fiveF_no es d
  have S0 := hL.sort
  have nS := ens_noOw (sortE es)
  have nbS := ens_noBr (sortE es)
  have fzS := ens_frz (sortE es)
  have fzE := ens_frz es
  have pS := ens_plain (m := .ow) (sortE_ok ok) S0.len
  have dS := ens_deep .ow (sortE es)
  have sm : d__law_same 8 [.lst .ow ((sortE es).map En.t), .lst .fz ((sortE es).map En.t)] O1 = some (.bl true, O1) := same_ow O1 pS (by omega) (ens_plain (sortE_ok ok) S0.len) rfl
  -- what is told by each ask
  have a3 : (askT es d 3).frz = .lst .fz [.lst .fz (es.map En.t), .lst .fz ((sortE es).map En.t)] := by
    show T.lst .fz [.lst .fz (frzs (es.map En.t)), .lst .fz (frzs ((sortE es).map En.t))] = _
    rw [fzE, fzS]
  have a0 : (askT es d 0).frz = .lst .fz [.lst .fz (es.map fun _ => T.bl true), .lst .fz ((sortE es).map En.t)] := by
    show T.lst .fz [.lst .fz (frzs (es.map fun _ => T.bl true)), .lst .fz (frzs ((sortE es).map En.t))] = _
    rw [fzS, frzs_map (fun _ => rfl)]
  have i0 : atI (fiveF es d) 0 = some (askT es d 0).frz := fiveF_at es d (by omega) (by omega)
  have i3 : atI (fiveF es d) 3 = some (askT es d 3).frz := fiveF_at es d (by omega) (by omega)
  have i4 : atI (fiveF es d) 4 = some (askT es d 4).frz := fiveF_at es d (by omega) (by omega)
  have ne3 : fNe (askT es d 3).frz (.lst .ow [.lst .fz (es.map En.t), .lst .fz ((sortE es).map En.t)]) = some (.bl false) := by
    have hp := ask_plain (d := d) (k := 3) hL (by omega)
    have hd := ask_deep es d 3
    rw [← plainT_frz] at hp
    rw [← deep_frz] at hd
    refine fNe_self (plain_data _ hp) (by omega) ?_ (by rw [a3]; exact ⟨_, _, rfl⟩)
    rw [a3]; rfl
  have ne4 : fNe (askT es d 4).frz (.lst .ow (es.map fun e => T.lst .ow [e.t])) = some (.bl false) := by
    have hp := ask_plain (d := d) (k := 4) hL (by omega)
    have hd := ask_deep es d 4
    rw [← plainT_frz] at hp
    rw [← deep_frz] at hd
    refine fNe_self (plain_data _ hp) (by omega) ?_ ⟨_, _, rfl⟩
    show (T.lst .fz (frzs (es.map fun e => T.lst .ow [e.t]))).toP = _
    show (toPs (frzs (es.map fun e => T.lst .ow [e.t]))).bind _ = (toPs (es.map fun e => T.lst .ow [e.t])).bind _
    have : ∀ l : List En, toPs (frzs (l.map fun e => T.lst .ow [e.t])) = toPs (l.map fun e => T.lst .ow [e.t]) := fun l => by
      induction l with
      | nil => rfl
      | cons e l ih =>
        have q : (T.lst .ow [e.t]).frz.toP = (T.lst .ow [e.t]).toP := by
          show (toPs [e.t.frz]).bind _ = (toPs [e.t]).bind _
          rw [en_frz]
        show ((T.lst .ow [e.t]).frz.toP.bind fun d => (toPs (frzs (l.map fun e => T.lst .ow [e.t]))).bind fun ds => some (d :: ds)) = ((T.lst .ow [e.t]).toP.bind fun d => (toPs (l.map fun e => T.lst .ow [e.t])).bind fun ds => some (d :: ds))
        rw [q, ih]
    rw [this]
  have inF0 : fInB false (.bl false) (.lst .fz (es.map fun _ => T.bl true)) = some (.bl false) := by
    have h1 : (es.map fun _ => T.bl true).all flatT = true := List.all_eq_true.mpr fun t m => by
      obtain ⟨_, _, rfl⟩ := List.mem_map.mp m; rfl
    have h2 : inF (.bl false) (es.map fun _ => T.bl true) = false := by
      unfold inF
      rw [List.any_eq_false]
      intro t m
      obtain ⟨_, _, rfl⟩ := List.mem_map.mp m
      decide
    show (if (flatT (.bl false) && (es.map fun _ => T.bl true).all flatT) = true then some (T.bl (if false = true then !inF (.bl false) (es.map fun _ => T.bl true) else inF (.bl false) (es.map fun _ => T.bl true))) else none) = _
    rw [h1, h2]; rfl
  have s1 : 1 ≤ sizeLine := by decide
  have s2 : 2 ≤ sizeLine := by decide
  have lc := lcGo_all (own := [10]) (g := gNm 10) (te := dLst (aCons (oTmp (dUse 10)) aNil)) (S := ([some (.hnd n), x1, x2, x3, x4, x5, some (.lst .fz (es.map En.t)), some (.lst .fz (fiveF es d)), x8, x9, none], O)) (fun e : En => T.lst .ow [e.t]) En.t (ts := es) (fun e me => by
    have h1 := en_noOw e
    refine ⟨([some (.hnd n), x1, x2, x3, x4, x5, some (.lst .fz (es.map En.t)), some (.lst .fz (fiveF es d)), x8, x9, some e.t], O), ([some (.hnd n), x1, x2, x3, x4, x5, some (.lst .fz (es.map En.t)), some (.lst .fz (fiveF es d)), x8, x9, some e.t], O), ?_, ?_, ?_⟩
    · generalize es.map En.t = ET at *
      generalize e.t = E at *
      simp
    · generalize es.map En.t = ET at *
      generalize e.t = E at *
      simp -implicitDefEqProofs [h1, s1]
    · generalize es.map En.t = ET at *
      generalize e.t = E at *
      simp) (Nat.le_trans hL.len (by decide))
  have n0 : T.noOw (.lst .fz (es.map fun _ => T.bl true)) = true := by
    show noOws (es.map fun _ => T.bl true) = true
    exact noOws_map (fun _ => rfl) _
  have n0' : noOws (es.map fun _ => T.bl true) = true := n0
  rw [a0] at i0
  have nA3 := noOw_frz (askT es d 3)
  have nA4 := noOw_frz (askT es d 4)
  have v3 := ask_viewF es d 3
  have v4 := ask_viewF es d 4
  generalize (askT es d 3).frz = A3 at *
  generalize (askT es d 4).frz = A4 at *
  generalize fiveF es d = FF at *
  generalize (es.map fun e => T.lst .ow [e.t]) = ME at *
  generalize (es.map fun _ => T.bl true) = BT at *
  generalize (sortE es).map En.t = ST at *
  generalize es'.map En.t = ET' at *
  generalize es.map En.t = ET at *
  simp -implicitDefEqProofs [finB, nE, nF, i3, nA3, v3, s2, i0, n0, n0', nS, ne3, i4, nA4, v4, lc, ne4, inF0, e1, nbE, io, nbS, brE, sm]
end Wk31

set_option Elab.async false
set_option linter.all false
set_option maxRecDepth 100000
set_option exponentiation.threshold 10000
set_option maxHeartbeats 0
namespace Wk31
open PySem PySem.Spec L2 TL
theorem asks_lc {O : List Ob} {n : Nat} {es : List En} {d : Int} {x3 : Option T} (hL : Log es) : lcGo [9] (gNm 9) tYesD (dCall (d__law_copied 8) (aCons (oTmp (dCall d__law_asked (aCons (oBorS 9) (aCons (oBorS 6) (aCons (oBorS 4) aNil))))) aNil)) (rangeT 0 1 5) [] ([some (.hnd n), none, none, x3, some (.int d), none, some (.lst .fz (es.map En.t)), none, none, none, none], O) = some (five es d, ([some (.hnd n), none, none, x3, some (.int d), none, some (.lst .fz (es.map En.t)), none, none, none, none], O)) := by
  have lc := lcGo_all (own := [9]) (g := gNm 9) (te := dCall (d__law_copied 8) (aCons (oTmp (dCall d__law_asked (aCons (oBorS 9) (aCons (oBorS 6) (aCons (oBorS 4) aNil))))) aNil)) (S := ([some (.hnd n), none, none, x3, some (.int d), none, some (.lst .fz (es.map En.t)), none, none, none, none], O)) (fun i : Nat => askT es d i) (fun i : Nat => T.int (i : Int)) (ts := List.range 5) (fun i mi => by
    have hi : i ≤ 4 := by have := List.mem_range.mp mi; omega
    have ea := e_asked (m := .fz) (d := d) hL hi O
    have ea : d__law_asked [.int (i : Int), .lst .fz (es.map En.t), .int d] O = some (askT es d i, O) := ea
    have cp := (ask_copied (d := d) hL hi O).1
    have nb := ask_noBr (d := d) hL hi
    have brE := ens_brw es
    refine ⟨([some (.hnd n), none, none, x3, some (.int d), none, some (.lst .fz (es.map En.t)), none, none, some (.int (i : Int)), none], O), ([some (.hnd n), none, none, x3, some (.int d), none, some (.lst .fz (es.map En.t)), none, none, some (.int (i : Int)), none], O), ?_, ?_, ?_⟩
    · generalize es.map En.t = ET at *
      simp
    · generalize askT es d i = V at *
      generalize es.map En.t = ET at *
      simp -implicitDefEqProofs [brE, ea, nb, cp]
    · generalize es.map En.t = ET at *
      simp) (by show 5 ≤ sizeLine; decide)
  rw [← rangeT_map] at lc
  exact lc
theorem e_right {O : List Ob} {n k : Nat} (h : Bx O n k) (hk : k < 2 ^ 30) : ∃ O', d__law_right [.hnd n] O = some (.bl true, O') := by
  obtain ⟨m1, es1, es2, O1, e1, hm, L1, L2, b1⟩ := e_pair h (by omega)
  obtain ⟨d, O2, e2, a2, c2, b2⟩ := e_take (m := 200) b1 (by omega) (by omega) (by omega)
  have k1 := asks_lc (O := O2) (n := n) (d := d) (x3 := some (.lst .fz [.lst .fz (es1.map En.t), .lst .fz (es2.map En.t)])) L1
  have k2 := asks_lc (O := O2) (n := n) (d := d) (x3 := some (.lst .fz [.lst .fz (es1.map En.t), .lst .fz (es2.map En.t)])) L2
  obtain ⟨t1', y2, y5, y8, y9, O3, h3, b3, h4⟩ := turns (n := n) (d := d) (x6 := none) (x7 := none) (x10 := none) L1 L2 (rangeT 0 1 12) _ O2 (.lst .ow [.lst .ow (five es1 d), .lst .ow (five es2 d)]) none none none none b2 (by rw [show (rangeT 0 1 12).length = 12 from rfl]; omega) (.inl rfl)
  rw [show (rangeT 0 1 12).length = 12 from rfl] at b3
  have fr : t1'.frz = .lst .fz [.lst .fz (fiveF es1 d), .lst .fz (fiveF es2 d)] := by
    rcases h4 with rfl | rfl
    · rfl
    · show T.lst .fz [.lst .fz (frzs (frzs (five es1 d))), .lst .fz (frzs (frzs (five es2 d)))] = _
      have : ∀ es : List En, frzs (fiveF es d) = fiveF es d := fun es => by
        have q := noOw_frz (.lst .ow (five es d))
        exact frzs_noOw _ (fiveF_no es d)
      rw [five_frz, five_frz, this, this]
  obtain ⟨O4, h5, b4⟩ := fin_step (es := es1) (d := d) (x1 := some (.lst .fz [.lst .fz (fiveF es1 d), .lst .fz (fiveF es2 d)])) (x2 := y2) (x3 := some (.lst .fz [.lst .fz (es1.map En.t), .lst .fz (es2.map En.t)])) (x4 := some (.int d)) (x5 := y5) (x6 := none) (x7 := none) (x8 := y8) (x9 := y9) L1 b3 (by omega)
  obtain ⟨O5, h6, b5⟩ := fin_step (es := es2) (d := d) (x1 := some (.lst .fz [.lst .fz (fiveF es1 d), .lst .fz (fiveF es2 d)])) (x2 := y2) (x3 := some (.lst .fz [.lst .fz (es1.map En.t), .lst .fz (es2.map En.t)])) (x4 := some (.int d)) (x5 := y5) (x6 := some (.lst .fz (es1.map En.t))) (x7 := some (.lst .fz (fiveF es1 d))) (x8 := y8) (x9 := y9) L2 b4 (by omega)
  refine ⟨O5, ?_⟩
  have e0 : ∀ (g : DG) (b : DS) (S : SS), forGo g b [] S = some (.nx, S) := fun _ _ _ => rfl
  have lp := forGo_step (ts := [.tup [.lst .fz (es2.map En.t), .lst .fz (fiveF es2 d)]]) h5 (forGo_step (ts := []) h6 (e0 _ _ _))
  have nb1 := ens_noBr es1
  have nb2 := ens_noBr es2
  have no1 := ens_noOw es1
  have no2 := ens_noOw es2
  have fz1 := ens_frz es1
  have fz2 := ens_frz es2
  have nf1 := fiveF_no es1 d
  have nf2 := fiveF_no es2 d
  have f51 := five_noBr d L1
  have f52 := five_noBr d L2
  have s2 : 2 ≤ sizeLine := by decide
  have s1 : 1 ≤ sizeLine := by decide
  have s0 : 0 < sizeLine := by decide
  have s1' : 1 < sizeLine := by decide
  have ok5 : okR 5 = true := by decide
  have ok12 : okR 12 = true := by decide
  have r5 : rangeT 0 1 (5 : Int).toNat = rangeT 0 1 5 := rfl
  have r12 : rangeT 0 1 (12 : Int).toNat = rangeT 0 1 12 := rfl
  unfold turnB at h3
  unfold finB at lp
  have fO : (t1'.noOw = true ∧ t1' = .lst .fz [.lst .fz (fiveF es1 d), .lst .fz (fiveF es2 d)]) ∨ t1'.noOw = false := by
    rcases h4 with rfl | rfl
    · exact .inr rfl
    · exact .inl ⟨by show (noOws (fiveF es1 d) && (noOws (fiveF es2 d) && true)) = true; rw [nf1, nf2]; rfl, rfl⟩
  generalize five es1 d = V1 at *
  generalize five es2 d = V2 at *
  generalize fiveF es1 d = W1 at *
  generalize fiveF es2 d = W2 at *
  generalize es1.map En.t = E1 at *
  generalize es2.map En.t = E2 at *
  have zp : zipOf (T.lst Mk.fz [T.lst Mk.fz E1, T.lst Mk.fz E2]) (T.lst Mk.fz [T.lst Mk.fz W1, T.lst Mk.fz W2]) = some [.tup [.lst .fz E1, .lst .fz W1], .tup [.lst .fz E2, .lst .fz W2]] := by
    show (if (noOws [T.lst Mk.fz E1, T.lst Mk.fz E2] && noOws [T.lst Mk.fz W1, T.lst Mk.fz W2]) = true then some (zipT [T.lst Mk.fz E1, T.lst Mk.fz E2] [T.lst Mk.fz W1, T.lst Mk.fz W2]) else none) = _
    rw [if_pos (by show ((noOws E1 && (noOws E2 && true)) && (noOws W1 && (noOws W2 && true))) = true; rw [no1, no2, nf1, nf2]; rfl)]
    rfl
  have hm1 : m1 = .ow ∨ m1 = .fz := by cases m1 <;> first | exact .inl rfl | exact .inr rfl | exact absurd hm (by decide)
  clear h5 h6
  rcases hm1 with rfl | rfl <;> rcases fO with ⟨fO, rfl⟩ | fO
  all_goals clear hm
  · simp -implicitDefEqProofs [d__law_right, dFn, b__law_right, e1, e2, s2, s1, nb1, nb2, no1, no2, fz1, fz2, lcGo_cons, ok5, k1, k2, f51, f52, s0, s1', ok12, h3, nf1, nf2, zp, lp]
  · simp -implicitDefEqProofs [d__law_right, dFn, b__law_right, e1, e2, s2, s1, nb1, nb2, no1, no2, fz1, fz2, lcGo_cons, ok5, k1, k2, f51, f52, s0, s1', ok12, h3, fr, fO, nf1, nf2, zp, lp]
  · simp -implicitDefEqProofs [d__law_right, dFn, b__law_right, e1, e2, s2, s1, nb1, nb2, no1, no2, fz1, fz2, lcGo_cons, ok5, k1, k2, f51, f52, s0, s1', ok12, h3, nf1, nf2, zp, lp]
  · simp -implicitDefEqProofs [d__law_right, dFn, b__law_right, e1, e2, s2, s1, nb1, nb2, no1, no2, fz1, fz2, lcGo_cons, ok5, k1, k2, f51, f52, s0, s1', ok12, h3, fr, fO, nf1, nf2, zp, lp]
end Wk31

set_option Elab.async false
set_option linter.all false
set_option maxRecDepth 100000
set_option exponentiation.threshold 10000
set_option maxHeartbeats 0
namespace Wk31
open PySem PySem.Spec L2 TL
theorem law_loop {cells : List Int} (t0 : T) : ∀ (is : List Int) (acc : List T) (O : List Ob), (∀ i ∈ is, 0 ≤ i ∧ i ≤ 10) → acc.length + is.length ≤ 100 → ∃ O', lcGo [2] (gNm 2) tYesD (dCall d__law_right (aCons (oTmp (dHnd (dCall d__law_box (aCons (oBorS 1) (aCons (oBorS 2) aNil))))) aNil)) (is.map T.int) acc ([some t0, some (.lst .ow (cells.map T.int)), none], O) = some (acc ++ is.map (fun _ => T.bl true), ([some t0, some (.lst .ow (cells.map T.int)), none], O')) := by
  intro is
  induction is with
  | nil => intro acc O _ _; exact ⟨O, by simp⟩
  | cons i is ih =>
    intro acc O hi hl
    rw [List.length_cons] at hl
    have h0 := hi i (by simp)
    obtain ⟨a, b, e1, g1, g2, g3⟩ := e_box (cells := cells) (O := O) h0.1 h0.2
    obtain ⟨O1, e2⟩ := e_right (bx_new (O := O) g1 g2 g3) (by omega)
    obtain ⟨O', e3⟩ := ih (acc ++ [.bl true]) O1 (fun j m => hi j (List.mem_cons_of_mem _ m)) (by simp; omega)
    refine ⟨O', ?_⟩
    have sl : acc.length < sizeLine := small_line (by omega)
    have bl := brws_map_int cells
    rw [List.map_cons, lcGo_cons]
    generalize cells.map T.int = CT at *
    simp -implicitDefEqProofs [bl, e1, e2, sl, e3]
theorem law_true (ns : List Int) (h : ns.length ≤ 63) : ∃ O, d_law [.lst .sc (ns.map T.int)] [] = some (.bl true, O) := by
  obtain ⟨cells, e1, hl⟩ := e_folded (ns := ns) (O := []) (p := 2) (by omega) (by omega)
  have e1 : d__law_folded [.lst .sc (ns.map T.int), .int 2] [] = some (.lst .ow (cells.map T.int), []) := e1
  let m : Int := 1 + (cells.length : Int)
  have ri : rangeT 0 1 m.toNat = ((List.range m.toNat).map fun i : Nat => (i : Int)).map T.int := by rw [rangeT_map, List.map_map]; rfl
  obtain ⟨O', e2⟩ := law_loop (cells := cells) (.lst .sc (ns.map T.int)) ((List.range m.toNat).map fun i : Nat => (i : Int)) [] [] (fun i mi => by
    obtain ⟨j, mj, rfl⟩ := List.mem_map.mp mi
    have h1 := List.mem_range.mp mj
    have h2 : m = 1 + (cells.length : Int) := rfl
    omega) (by
    have h2 : m = 1 + (cells.length : Int) := rfl
    rw [List.length_map, List.length_range, List.length_nil]; omega)
  refine ⟨O', ?_⟩
  rw [← ri] at e2
  have hm : m = 1 + (cells.length : Int) := rfl
  have okm : okR m = true := decide_eq_true ⟨by omega, by omega⟩
  have fin := all_true ((List.range m.toNat).map fun i : Nat => (i : Int))
  have nb := noBrs_map_int cells
  have bs := brws_map_int ns
  have ln : ((cells.map T.int).length : Int) = cells.length := by simp
  simp only [List.nil_append] at e2
  have hm' : (1 : Int) + (cells.length : Int) = m := rfl
  generalize m = m' at *
  generalize cells.map T.int = CT at *
  generalize ns.map T.int = NT at *
  generalize ((List.range m'.toNat).map fun i : Nat => (i : Int)).map (fun _ => T.bl true) = AL at *
  simp -implicitDefEqProofs [d_law, dFn, b_law, bs, e1, nb, ln, hm', okm, e2, fin]
end Wk31

set_option Elab.async false
set_option linter.all false
set_option maxRecDepth 100000
set_option maxHeartbeats 0
namespace Wk31E
open PySem PySem.Spec PyProof.Rows L2 TL Wk31
def q_number_between : He.DefD := ⟨("number_between", none), "number_between", "number_between", defArgs (top 8), defBody (top 8), defScope (top 8), [], []⟩
def q_name_like : He.DefD := ⟨("name_like", none), "name_like", "name_like", defArgs (top 9), defBody (top 9), defScope (top 9), [], []⟩
def q_sort_fits : He.DefD := ⟨("sort_fits", none), "sort_fits", "sort_fits", defArgs (top 10), defBody (top 10), defScope (top 10), [], []⟩
def q_parts_agree : He.DefD := ⟨("parts_agree", none), "parts_agree", "parts_agree", defArgs (top 11), defBody (top 11), defScope (top 11), [], []⟩
def q_is_entry : He.DefD := ⟨("is_entry", none), "is_entry", "is_entry", defArgs (top 12), defBody (top 12), defScope (top 12), [], []⟩
def q_order_spot : He.DefD := ⟨("order_spot", none), "order_spot", "order_spot", defArgs (top 13), defBody (top 13), defScope (top 13), [], []⟩
def q_in_order : He.DefD := ⟨("in_order", none), "in_order", "in_order", defArgs (top 14), defBody (top 14), defScope (top 14), [], []⟩
def q_told_by : He.DefD := ⟨("told_by", none), "told_by", "told_by", defArgs (top 15), defBody (top 15), defScope (top 15), [], []⟩
def q_plain_number : He.DefD := ⟨("plain_number", none), "plain_number", "plain_number", defArgs (top 25), defBody (top 25), defScope (top 25), [], []⟩
def q_units_text : He.DefD := ⟨("units_text", none), "units_text", "units_text", defArgs (top 26), defBody (top 26), defScope (top 26), [], []⟩
def q_units_in : He.DefD := ⟨("units_in", none), "units_in", "units_in", defArgs (top 27), defBody (top 27), defScope (top 27), [], []⟩
def q_weight_text : He.DefD := ⟨("weight_text", none), "weight_text", "weight_text", defArgs (top 28), defBody (top 28), defScope (top 28), [], []⟩
def q_weight_in : He.DefD := ⟨("weight_in", none), "weight_in", "weight_in", defArgs (top 29), defBody (top 29), defScope (top 29), [], []⟩
def q_length_text : He.DefD := ⟨("length_text", none), "length_text", "length_text", defArgs (top 30), defBody (top 30), defScope (top 30), [], []⟩
def q_length_in : He.DefD := ⟨("length_in", none), "length_in", "length_in", defArgs (top 31), defBody (top 31), defScope (top 31), [], []⟩
def q_part_word : He.DefD := ⟨("part_word", none), "part_word", "part_word", defArgs (top 35), defBody (top 35), defScope (top 35), [], []⟩
def q_part_in : He.DefD := ⟨("part_in", none), "part_in", "part_in", defArgs (top 36), defBody (top 36), defScope (top 36), [], []⟩
def q_entry_text : He.DefD := ⟨("entry_text", none), "entry_text", "entry_text", defArgs (top 37), defBody (top 37), defScope (top 37), [], []⟩
def q_entry_in : He.DefD := ⟨("entry_in", none), "entry_in", "entry_in", defArgs (top 38), defBody (top 38), defScope (top 38), [], []⟩
def q_roll_text : He.DefD := ⟨("roll_text", none), "roll_text", "roll_text", defArgs (top 39), defBody (top 39), defScope (top 39), [], []⟩
def q_read_roll : He.DefD := ⟨("read_roll", none), "read_roll", "read_roll", defArgs (top 40), defBody (top 40), defScope (top 40), [], []⟩
def q__law_box : He.DefD := ⟨("_law_box", none), "_law_box", "_law_box", defArgs (top 42), defBody (top 42), defScope (top 42), [], []⟩
def q__law_take : He.DefD := ⟨("_law_take", none), "_law_take", "_law_take", defArgs (top 43), defBody (top 43), defScope (top 43), [], []⟩
def q__law_folded : He.DefD := ⟨("_law_folded", none), "_law_folded", "_law_folded", defArgs (top 44), defBody (top 44), defScope (top 44), [], []⟩
def q__law_strewn : He.DefD := ⟨("_law_strewn", none), "_law_strewn", "_law_strewn", defArgs (top 45), defBody (top 45), defScope (top 45), [], []⟩
def q__law_names : He.DefD := ⟨("_law_names", none), "_law_names", "_law_names", defArgs (top 46), defBody (top 46), defScope (top 46), [], []⟩
def q__law_same : He.DefD := ⟨("_law_same", none), "_law_same", "_law_same", defArgs (top 47), defBody (top 47), defScope (top 47), [], []⟩
def q__law_copied : He.DefD := ⟨("_law_copied", none), "_law_copied", "_law_copied", defArgs (top 48), defBody (top 48), defScope (top 48), [], []⟩
def q__law_marked : He.DefD := ⟨("_law_marked", none), "_law_marked", "_law_marked", defArgs (top 49), defBody (top 49), defScope (top 49), [], []⟩
def q__law_pounds : He.DefD := ⟨("_law_pounds", none), "_law_pounds", "_law_pounds", defArgs (top 50), defBody (top 50), defScope (top 50), [], []⟩
def q__law_world : He.DefD := ⟨("_law_world", none), "_law_world", "_law_world", defArgs (top 51), defBody (top 51), defScope (top 51), [], []⟩
def q__law_one_of : He.DefD := ⟨("_law_one_of", none), "_law_one_of", "_law_one_of", defArgs (top 52), defBody (top 52), defScope (top 52), [], []⟩
def q__law_days_of : He.DefD := ⟨("_law_days_of", none), "_law_days_of", "_law_days_of", defArgs (top 53), defBody (top 53), defScope (top 53), [], []⟩
def q__law_part : He.DefD := ⟨("_law_part", none), "_law_part", "_law_part", defArgs (top 54), defBody (top 54), defScope (top 54), [], []⟩
def q__law_numbers_of : He.DefD := ⟨("_law_numbers_of", none), "_law_numbers_of", "_law_numbers_of", defArgs (top 55), defBody (top 55), defScope (top 55), [], []⟩
def q__law_log : He.DefD := ⟨("_law_log", none), "_law_log", "_law_log", defArgs (top 56), defBody (top 56), defScope (top 56), [], []⟩
def q__law_asked : He.DefD := ⟨("_law_asked", none), "_law_asked", "_law_asked", defArgs (top 57), defBody (top 57), defScope (top 57), [], []⟩
def q__law_pair : He.DefD := ⟨("_law_pair", none), "_law_pair", "_law_pair", defArgs (top 58), defBody (top 58), defScope (top 58), [], []⟩
def q__law_right : He.DefD := ⟨("_law_right", none), "_law_right", "_law_right", defArgs (top 59), defBody (top 59), defScope (top 59), [], []⟩
def q_law : He.DefD := ⟨("law", none), "law", "law", defArgs (top 60), defBody (top 60), defScope (top 60), [], []⟩
def fn0 : List He.DefD := [q_number_between, q_name_like, q_sort_fits, q_parts_agree, q_is_entry, q_order_spot, q_in_order, q_told_by, q_plain_number, q_units_text, q_units_in, q_weight_text, q_weight_in, q_length_text, q_length_in, q_part_word, q_part_in, q_entry_text, q_entry_in, q_roll_text, q_read_roll, q__law_box, q__law_take, q__law_folded, q__law_strewn, q__law_names, q__law_same, q__law_copied, q__law_marked, q__law_pounds]
def fn1 : List He.DefD := [q__law_world, q__law_one_of, q__law_days_of, q__law_part, q__law_numbers_of, q__law_log, q__law_asked, q__law_pair, q__law_right, q_law]
def fn : List He.DefD := fn0 ++ fn1
def fa0 : List He.Fa := [.glo "number_between", .glo "name_like", .glo "sort_fits", .glo "parts_agree", .glo "is_entry", .glo "order_spot", .glo "in_order", .glo "told_by", .glo "plain_number", .glo "units_text", .glo "units_in", .glo "weight_text", .glo "weight_in", .glo "length_text", .glo "length_in", .glo "part_word", .glo "part_in", .glo "entry_text", .glo "entry_in", .glo "roll_text", .glo "read_roll", .glo "_law_box", .glo "_law_take", .glo "_law_folded", .glo "_law_strewn", .glo "_law_names", .glo "_law_same", .glo "_law_copied", .glo "_law_marked", .glo "_law_pounds"]
def fa1 : List He.Fa := [.glo "_law_world", .glo "_law_one_of", .glo "_law_days_of", .glo "_law_part", .glo "_law_numbers_of", .glo "_law_log", .glo "_law_asked", .glo "_law_pair", .glo "_law_right", .glo "law", .free "ValueError", .free "abs", .free "all", .free "bool", .free "enumerate", .free "int", .free "isinstance", .free "len", .free "list", .free "max", .free "min", .free "range", .free "sorted", .free "str", .free "tuple", .free "zip"]
def fa : List He.Fa := fa0 ++ fa1
def cs0 : List (Str × T) := [("SMALL_LETTERS", k_SMALL_LETTERS), ("MOST_LETTERS", k_MOST_LETTERS), ("MOST_NUMBER", k_MOST_NUMBER), ("LAST_DAY", k_LAST_DAY), ("WAY_KINDS", k_WAY_KINDS), ("FIGURES", k_FIGURES), ("MOST_FIGURES", k_MOST_FIGURES), ("WEIGHT_UNITS", k_WEIGHT_UNITS), ("LENGTH_UNITS", k_LENGTH_UNITS), ("TEXT_SORTS", k_TEXT_SORTS), ("WEIGHT_SORTS", k_WEIGHT_SORTS)]
def cs : List (Str × T) := cs0
def ds : DCs := [("ENTRY_FORMS", dk_ENTRY_FORMS), ("SORT_BOUNDS", dk_SORT_BOUNDS)]
def loose0 : List PySem.Str := ["SMALL_LETTERS", "MOST_LETTERS", "MOST_NUMBER", "LAST_DAY", "WAY_KINDS", "ENTRY_FORMS", "SORT_BOUNDS", "number_between", "name_like", "sort_fits", "parts_agree", "is_entry", "order_spot", "in_order", "told_by", "CampError", "BadRow", "Twice", "FIGURES", "MOST_FIGURES", "WEIGHT_UNITS", "LENGTH_UNITS", "plain_number", "units_text", "units_in", "weight_text", "weight_in", "length_text", "length_in", "TEXT_SORTS"]
def loose1 : List PySem.Str := ["WEIGHT_SORTS", "part_word", "part_in", "entry_text", "entry_in", "roll_text", "read_roll", "_law_box", "_law_take", "_law_folded", "_law_strewn", "_law_names", "_law_same", "_law_copied", "_law_marked", "_law_pounds", "_law_world", "_law_one_of", "_law_days_of", "_law_part", "_law_numbers_of", "_law_log", "_law_asked", "_law_pair", "_law_right"]
def loose : List PySem.Str := loose0 ++ loose1
abbrev R : PySem.W.OpenRow := PySem.W.OpenLaw.row PySem.Challenge.rw_campcarry_k31_whole_two_rolls_by_turns
abbrev hk : PySem.W.Hook := hookE 4 fa fn cs ds
def ob (s : PySem.W.SharedT) : AlE := obsEG 4 fa fn cs ds (HandSHeadRun.getT s)
theorem ob_eq (s : PySem.W.SharedT) : ob s = hk.obs s.abs := obsEG_eq (HandSHeadRun.getT_eq s)
theorem run0 (w : World) : HandSHeadRun.RunEq R (PySem.W.view R.prog [60]) hk ob 30000 loose (w.withFollow "special-get-raises" false) := by
  intro os
  kernel_rfl
theorem run1 (w : World) : HandSHeadRun.RunEq R (PySem.W.view R.prog [60]) hk ob 30000 loose (w.withFollow "special-get-raises" true) := by
  intro os
  kernel_rfl
theorem run (w : World) : HandSHeadRun.RunEq R (PySem.W.view R.prog [60]) hk ob 30000 loose w := PySem.W.byRow2 "special-get-raises" (P := fun w => HandSHeadRun.RunEq R (PySem.W.view R.prog [60]) hk ob 30000 loose w) run0 run1 w
theorem facts {P : Program} {w : World} {K : PySem.W.Frag} {h : Heap} {mg : Str → Option Value} {f : Addr} {ca : Str → Addr} (X : K.In h) (G : h.Ns mainGlobals mg) (hfa : mg ("law" : Str) = some (.ref f)) (ce : obsE fa fn cs ds K = valE fn ds w) :
    ∃ fd : FuncData, (∀ (s : Shared) (v : Value), BindsTo s fd ⟨[v], []⟩ [("_law_script", v)]) ∧ ∀ base : Heap, FnOk P w K mg base CX0 10 f fd ["_law_script"] (spT K ca 1 d_law) := by
  have c := saysE_d ce
  have cc := saysE_c ce
  have tx : Txt K w mg := { b_ValueError := He.free_ok X G (c.fact 40 (f := .free "ValueError") rfl), b_abs := He.free_ok X G (c.fact 41 (f := .free "abs") rfl), b_all := He.free_ok X G (c.fact 42 (f := .free "all") rfl), b_bool := He.free_ok X G (c.fact 43 (f := .free "bool") rfl), b_enumerate := He.free_ok X G (c.fact 44 (f := .free "enumerate") rfl), b_int := He.free_ok X G (c.fact 45 (f := .free "int") rfl), b_isinstance := He.free_ok X G (c.fact 46 (f := .free "isinstance") rfl), b_len := He.free_ok X G (c.fact 47 (f := .free "len") rfl), b_list := He.free_ok X G (c.fact 48 (f := .free "list") rfl), b_max := He.free_ok X G (c.fact 49 (f := .free "max") rfl), b_min := He.free_ok X G (c.fact 50 (f := .free "min") rfl), b_range := He.free_ok X G (c.fact 51 (f := .free "range") rfl), b_sorted := He.free_ok X G (c.fact 52 (f := .free "sorted") rfl), b_str := He.free_ok X G (c.fact 53 (f := .free "str") rfl), b_tuple := He.free_ok X G (c.fact 54 (f := .free "tuple") rfl), b_zip := He.free_ok X G (c.fact 55 (f := .free "zip") rfl), c_SMALL_LETTERS := gcB_ok X G (cc (cs[0]) (List.getElem_mem (by decide))), c_MOST_LETTERS := gcB_ok X G (cc (cs[1]) (List.getElem_mem (by decide))), c_MOST_NUMBER := gcB_ok X G (cc (cs[2]) (List.getElem_mem (by decide))), c_LAST_DAY := gcB_ok X G (cc (cs[3]) (List.getElem_mem (by decide))), c_WAY_KINDS := gcB_ok X G (cc (cs[4]) (List.getElem_mem (by decide))), c_FIGURES := gcB_ok X G (cc (cs[5]) (List.getElem_mem (by decide))), c_MOST_FIGURES := gcB_ok X G (cc (cs[6]) (List.getElem_mem (by decide))), c_WEIGHT_UNITS := gcB_ok X G (cc (cs[7]) (List.getElem_mem (by decide))), c_LENGTH_UNITS := gcB_ok X G (cc (cs[8]) (List.getElem_mem (by decide))), c_TEXT_SORTS := gcB_ok X G (cc (cs[9]) (List.getElem_mem (by decide))), c_WEIGHT_SORTS := gcB_ok X G (cc (cs[10]) (List.getElem_mem (by decide))), d_ENTRY_FORMS := saysE_g ce X G 0, d_SORT_BOUNDS := saysE_g ce X G 1 }
  obtain ⟨fd_number_between, F0_number_between⟩ := c.def_ 0 (d := q_number_between) rfl
  have F_number_between : FnP K "number_between" (top 8) (He.fAd K ("number_between", none)) fd_number_between := F0_number_between
  have g_number_between : mg "number_between" = some (.ref (He.fAd K ("number_between", none))) := He.glo_ok X G (c.fact 0 (f := .glo "number_between") rfl)
  obtain ⟨fd_name_like, F0_name_like⟩ := c.def_ 1 (d := q_name_like) rfl
  have F_name_like : FnP K "name_like" (top 9) (He.fAd K ("name_like", none)) fd_name_like := F0_name_like
  have g_name_like : mg "name_like" = some (.ref (He.fAd K ("name_like", none))) := He.glo_ok X G (c.fact 1 (f := .glo "name_like") rfl)
  obtain ⟨fd_sort_fits, F0_sort_fits⟩ := c.def_ 2 (d := q_sort_fits) rfl
  have F_sort_fits : FnP K "sort_fits" (top 10) (He.fAd K ("sort_fits", none)) fd_sort_fits := F0_sort_fits
  have g_sort_fits : mg "sort_fits" = some (.ref (He.fAd K ("sort_fits", none))) := He.glo_ok X G (c.fact 2 (f := .glo "sort_fits") rfl)
  obtain ⟨fd_parts_agree, F0_parts_agree⟩ := c.def_ 3 (d := q_parts_agree) rfl
  have F_parts_agree : FnP K "parts_agree" (top 11) (He.fAd K ("parts_agree", none)) fd_parts_agree := F0_parts_agree
  have g_parts_agree : mg "parts_agree" = some (.ref (He.fAd K ("parts_agree", none))) := He.glo_ok X G (c.fact 3 (f := .glo "parts_agree") rfl)
  obtain ⟨fd_is_entry, F0_is_entry⟩ := c.def_ 4 (d := q_is_entry) rfl
  have F_is_entry : FnP K "is_entry" (top 12) (He.fAd K ("is_entry", none)) fd_is_entry := F0_is_entry
  have g_is_entry : mg "is_entry" = some (.ref (He.fAd K ("is_entry", none))) := He.glo_ok X G (c.fact 4 (f := .glo "is_entry") rfl)
  obtain ⟨fd_order_spot, F0_order_spot⟩ := c.def_ 5 (d := q_order_spot) rfl
  have F_order_spot : FnP K "order_spot" (top 13) (He.fAd K ("order_spot", none)) fd_order_spot := F0_order_spot
  have g_order_spot : mg "order_spot" = some (.ref (He.fAd K ("order_spot", none))) := He.glo_ok X G (c.fact 5 (f := .glo "order_spot") rfl)
  obtain ⟨fd_in_order, F0_in_order⟩ := c.def_ 6 (d := q_in_order) rfl
  have F_in_order : FnP K "in_order" (top 14) (He.fAd K ("in_order", none)) fd_in_order := F0_in_order
  have g_in_order : mg "in_order" = some (.ref (He.fAd K ("in_order", none))) := He.glo_ok X G (c.fact 6 (f := .glo "in_order") rfl)
  obtain ⟨fd_told_by, F0_told_by⟩ := c.def_ 7 (d := q_told_by) rfl
  have F_told_by : FnP K "told_by" (top 15) (He.fAd K ("told_by", none)) fd_told_by := F0_told_by
  have g_told_by : mg "told_by" = some (.ref (He.fAd K ("told_by", none))) := He.glo_ok X G (c.fact 7 (f := .glo "told_by") rfl)
  obtain ⟨fd_plain_number, F0_plain_number⟩ := c.def_ 8 (d := q_plain_number) rfl
  have F_plain_number : FnP K "plain_number" (top 25) (He.fAd K ("plain_number", none)) fd_plain_number := F0_plain_number
  have g_plain_number : mg "plain_number" = some (.ref (He.fAd K ("plain_number", none))) := He.glo_ok X G (c.fact 8 (f := .glo "plain_number") rfl)
  obtain ⟨fd_units_text, F0_units_text⟩ := c.def_ 9 (d := q_units_text) rfl
  have F_units_text : FnP K "units_text" (top 26) (He.fAd K ("units_text", none)) fd_units_text := F0_units_text
  have g_units_text : mg "units_text" = some (.ref (He.fAd K ("units_text", none))) := He.glo_ok X G (c.fact 9 (f := .glo "units_text") rfl)
  obtain ⟨fd_units_in, F0_units_in⟩ := c.def_ 10 (d := q_units_in) rfl
  have F_units_in : FnP K "units_in" (top 27) (He.fAd K ("units_in", none)) fd_units_in := F0_units_in
  have g_units_in : mg "units_in" = some (.ref (He.fAd K ("units_in", none))) := He.glo_ok X G (c.fact 10 (f := .glo "units_in") rfl)
  obtain ⟨fd_weight_text, F0_weight_text⟩ := c.def_ 11 (d := q_weight_text) rfl
  have F_weight_text : FnP K "weight_text" (top 28) (He.fAd K ("weight_text", none)) fd_weight_text := F0_weight_text
  have g_weight_text : mg "weight_text" = some (.ref (He.fAd K ("weight_text", none))) := He.glo_ok X G (c.fact 11 (f := .glo "weight_text") rfl)
  obtain ⟨fd_weight_in, F0_weight_in⟩ := c.def_ 12 (d := q_weight_in) rfl
  have F_weight_in : FnP K "weight_in" (top 29) (He.fAd K ("weight_in", none)) fd_weight_in := F0_weight_in
  have g_weight_in : mg "weight_in" = some (.ref (He.fAd K ("weight_in", none))) := He.glo_ok X G (c.fact 12 (f := .glo "weight_in") rfl)
  obtain ⟨fd_length_text, F0_length_text⟩ := c.def_ 13 (d := q_length_text) rfl
  have F_length_text : FnP K "length_text" (top 30) (He.fAd K ("length_text", none)) fd_length_text := F0_length_text
  have g_length_text : mg "length_text" = some (.ref (He.fAd K ("length_text", none))) := He.glo_ok X G (c.fact 13 (f := .glo "length_text") rfl)
  obtain ⟨fd_length_in, F0_length_in⟩ := c.def_ 14 (d := q_length_in) rfl
  have F_length_in : FnP K "length_in" (top 31) (He.fAd K ("length_in", none)) fd_length_in := F0_length_in
  have g_length_in : mg "length_in" = some (.ref (He.fAd K ("length_in", none))) := He.glo_ok X G (c.fact 14 (f := .glo "length_in") rfl)
  obtain ⟨fd_part_word, F0_part_word⟩ := c.def_ 15 (d := q_part_word) rfl
  have F_part_word : FnP K "part_word" (top 35) (He.fAd K ("part_word", none)) fd_part_word := F0_part_word
  have g_part_word : mg "part_word" = some (.ref (He.fAd K ("part_word", none))) := He.glo_ok X G (c.fact 15 (f := .glo "part_word") rfl)
  obtain ⟨fd_part_in, F0_part_in⟩ := c.def_ 16 (d := q_part_in) rfl
  have F_part_in : FnP K "part_in" (top 36) (He.fAd K ("part_in", none)) fd_part_in := F0_part_in
  have g_part_in : mg "part_in" = some (.ref (He.fAd K ("part_in", none))) := He.glo_ok X G (c.fact 16 (f := .glo "part_in") rfl)
  obtain ⟨fd_entry_text, F0_entry_text⟩ := c.def_ 17 (d := q_entry_text) rfl
  have F_entry_text : FnP K "entry_text" (top 37) (He.fAd K ("entry_text", none)) fd_entry_text := F0_entry_text
  have g_entry_text : mg "entry_text" = some (.ref (He.fAd K ("entry_text", none))) := He.glo_ok X G (c.fact 17 (f := .glo "entry_text") rfl)
  obtain ⟨fd_entry_in, F0_entry_in⟩ := c.def_ 18 (d := q_entry_in) rfl
  have F_entry_in : FnP K "entry_in" (top 38) (He.fAd K ("entry_in", none)) fd_entry_in := F0_entry_in
  have g_entry_in : mg "entry_in" = some (.ref (He.fAd K ("entry_in", none))) := He.glo_ok X G (c.fact 18 (f := .glo "entry_in") rfl)
  obtain ⟨fd_roll_text, F0_roll_text⟩ := c.def_ 19 (d := q_roll_text) rfl
  have F_roll_text : FnP K "roll_text" (top 39) (He.fAd K ("roll_text", none)) fd_roll_text := F0_roll_text
  have g_roll_text : mg "roll_text" = some (.ref (He.fAd K ("roll_text", none))) := He.glo_ok X G (c.fact 19 (f := .glo "roll_text") rfl)
  obtain ⟨fd_read_roll, F0_read_roll⟩ := c.def_ 20 (d := q_read_roll) rfl
  have F_read_roll : FnP K "read_roll" (top 40) (He.fAd K ("read_roll", none)) fd_read_roll := F0_read_roll
  have g_read_roll : mg "read_roll" = some (.ref (He.fAd K ("read_roll", none))) := He.glo_ok X G (c.fact 20 (f := .glo "read_roll") rfl)
  obtain ⟨fd__law_box, F0__law_box⟩ := c.def_ 21 (d := q__law_box) rfl
  have F__law_box : FnP K "_law_box" (top 42) (He.fAd K ("_law_box", none)) fd__law_box := F0__law_box
  have g__law_box : mg "_law_box" = some (.ref (He.fAd K ("_law_box", none))) := He.glo_ok X G (c.fact 21 (f := .glo "_law_box") rfl)
  obtain ⟨fd__law_take, F0__law_take⟩ := c.def_ 22 (d := q__law_take) rfl
  have F__law_take : FnP K "_law_take" (top 43) (He.fAd K ("_law_take", none)) fd__law_take := F0__law_take
  have g__law_take : mg "_law_take" = some (.ref (He.fAd K ("_law_take", none))) := He.glo_ok X G (c.fact 22 (f := .glo "_law_take") rfl)
  obtain ⟨fd__law_folded, F0__law_folded⟩ := c.def_ 23 (d := q__law_folded) rfl
  have F__law_folded : FnP K "_law_folded" (top 44) (He.fAd K ("_law_folded", none)) fd__law_folded := F0__law_folded
  have g__law_folded : mg "_law_folded" = some (.ref (He.fAd K ("_law_folded", none))) := He.glo_ok X G (c.fact 23 (f := .glo "_law_folded") rfl)
  obtain ⟨fd__law_strewn, F0__law_strewn⟩ := c.def_ 24 (d := q__law_strewn) rfl
  have F__law_strewn : FnP K "_law_strewn" (top 45) (He.fAd K ("_law_strewn", none)) fd__law_strewn := F0__law_strewn
  have g__law_strewn : mg "_law_strewn" = some (.ref (He.fAd K ("_law_strewn", none))) := He.glo_ok X G (c.fact 24 (f := .glo "_law_strewn") rfl)
  obtain ⟨fd__law_names, F0__law_names⟩ := c.def_ 25 (d := q__law_names) rfl
  have F__law_names : FnP K "_law_names" (top 46) (He.fAd K ("_law_names", none)) fd__law_names := F0__law_names
  have g__law_names : mg "_law_names" = some (.ref (He.fAd K ("_law_names", none))) := He.glo_ok X G (c.fact 25 (f := .glo "_law_names") rfl)
  obtain ⟨fd__law_same, F0__law_same⟩ := c.def_ 26 (d := q__law_same) rfl
  have F__law_same : FnP K "_law_same" (top 47) (He.fAd K ("_law_same", none)) fd__law_same := F0__law_same
  have g__law_same : mg "_law_same" = some (.ref (He.fAd K ("_law_same", none))) := He.glo_ok X G (c.fact 26 (f := .glo "_law_same") rfl)
  obtain ⟨fd__law_copied, F0__law_copied⟩ := c.def_ 27 (d := q__law_copied) rfl
  have F__law_copied : FnP K "_law_copied" (top 48) (He.fAd K ("_law_copied", none)) fd__law_copied := F0__law_copied
  have g__law_copied : mg "_law_copied" = some (.ref (He.fAd K ("_law_copied", none))) := He.glo_ok X G (c.fact 27 (f := .glo "_law_copied") rfl)
  obtain ⟨fd__law_marked, F0__law_marked⟩ := c.def_ 28 (d := q__law_marked) rfl
  have F__law_marked : FnP K "_law_marked" (top 49) (He.fAd K ("_law_marked", none)) fd__law_marked := F0__law_marked
  have g__law_marked : mg "_law_marked" = some (.ref (He.fAd K ("_law_marked", none))) := He.glo_ok X G (c.fact 28 (f := .glo "_law_marked") rfl)
  obtain ⟨fd__law_pounds, F0__law_pounds⟩ := c.def_ 29 (d := q__law_pounds) rfl
  have F__law_pounds : FnP K "_law_pounds" (top 50) (He.fAd K ("_law_pounds", none)) fd__law_pounds := F0__law_pounds
  have g__law_pounds : mg "_law_pounds" = some (.ref (He.fAd K ("_law_pounds", none))) := He.glo_ok X G (c.fact 29 (f := .glo "_law_pounds") rfl)
  obtain ⟨fd__law_world, F0__law_world⟩ := c.def_ 30 (d := q__law_world) rfl
  have F__law_world : FnP K "_law_world" (top 51) (He.fAd K ("_law_world", none)) fd__law_world := F0__law_world
  have g__law_world : mg "_law_world" = some (.ref (He.fAd K ("_law_world", none))) := He.glo_ok X G (c.fact 30 (f := .glo "_law_world") rfl)
  obtain ⟨fd__law_one_of, F0__law_one_of⟩ := c.def_ 31 (d := q__law_one_of) rfl
  have F__law_one_of : FnP K "_law_one_of" (top 52) (He.fAd K ("_law_one_of", none)) fd__law_one_of := F0__law_one_of
  have g__law_one_of : mg "_law_one_of" = some (.ref (He.fAd K ("_law_one_of", none))) := He.glo_ok X G (c.fact 31 (f := .glo "_law_one_of") rfl)
  obtain ⟨fd__law_days_of, F0__law_days_of⟩ := c.def_ 32 (d := q__law_days_of) rfl
  have F__law_days_of : FnP K "_law_days_of" (top 53) (He.fAd K ("_law_days_of", none)) fd__law_days_of := F0__law_days_of
  have g__law_days_of : mg "_law_days_of" = some (.ref (He.fAd K ("_law_days_of", none))) := He.glo_ok X G (c.fact 32 (f := .glo "_law_days_of") rfl)
  obtain ⟨fd__law_part, F0__law_part⟩ := c.def_ 33 (d := q__law_part) rfl
  have F__law_part : FnP K "_law_part" (top 54) (He.fAd K ("_law_part", none)) fd__law_part := F0__law_part
  have g__law_part : mg "_law_part" = some (.ref (He.fAd K ("_law_part", none))) := He.glo_ok X G (c.fact 33 (f := .glo "_law_part") rfl)
  obtain ⟨fd__law_numbers_of, F0__law_numbers_of⟩ := c.def_ 34 (d := q__law_numbers_of) rfl
  have F__law_numbers_of : FnP K "_law_numbers_of" (top 55) (He.fAd K ("_law_numbers_of", none)) fd__law_numbers_of := F0__law_numbers_of
  have g__law_numbers_of : mg "_law_numbers_of" = some (.ref (He.fAd K ("_law_numbers_of", none))) := He.glo_ok X G (c.fact 34 (f := .glo "_law_numbers_of") rfl)
  obtain ⟨fd__law_log, F0__law_log⟩ := c.def_ 35 (d := q__law_log) rfl
  have F__law_log : FnP K "_law_log" (top 56) (He.fAd K ("_law_log", none)) fd__law_log := F0__law_log
  have g__law_log : mg "_law_log" = some (.ref (He.fAd K ("_law_log", none))) := He.glo_ok X G (c.fact 35 (f := .glo "_law_log") rfl)
  obtain ⟨fd__law_asked, F0__law_asked⟩ := c.def_ 36 (d := q__law_asked) rfl
  have F__law_asked : FnP K "_law_asked" (top 57) (He.fAd K ("_law_asked", none)) fd__law_asked := F0__law_asked
  have g__law_asked : mg "_law_asked" = some (.ref (He.fAd K ("_law_asked", none))) := He.glo_ok X G (c.fact 36 (f := .glo "_law_asked") rfl)
  obtain ⟨fd__law_pair, F0__law_pair⟩ := c.def_ 37 (d := q__law_pair) rfl
  have F__law_pair : FnP K "_law_pair" (top 58) (He.fAd K ("_law_pair", none)) fd__law_pair := F0__law_pair
  have g__law_pair : mg "_law_pair" = some (.ref (He.fAd K ("_law_pair", none))) := He.glo_ok X G (c.fact 37 (f := .glo "_law_pair") rfl)
  obtain ⟨fd__law_right, F0__law_right⟩ := c.def_ 38 (d := q__law_right) rfl
  have F__law_right : FnP K "_law_right" (top 59) (He.fAd K ("_law_right", none)) fd__law_right := F0__law_right
  have g__law_right : mg "_law_right" = some (.ref (He.fAd K ("_law_right", none))) := He.glo_ok X G (c.fact 38 (f := .glo "_law_right") rfl)
  obtain ⟨fd_law, F0_law⟩ := c.def_ 39 (d := q_law) rfl
  have F_law : FnP K "law" (top 60) (He.fAd K ("law", none)) fd_law := F0_law
  have e := hfa.symm.trans (He.glo_ok X G (c.fact 39 (f := .glo "law") rfl))
  cases e
  have b_number_between : Binds K fd_number_between ["thing", "least", "most"] [] := FunD.bindsN F_number_between fun _ _ _ _ _ _ us hl => match us, hl with | [_, _, _], _ => rfl
  have b_name_like : Binds K fd_name_like ["thing"] [] := FunD.bindsN F_name_like fun _ _ _ _ _ _ us hl => match us, hl with | [_], _ => rfl
  have b_sort_fits : Binds K fd_sort_fits ["sort", "part"] [] := FunD.bindsN F_sort_fits fun _ _ _ _ _ _ us hl => match us, hl with | [_, _], _ => rfl
  have b_parts_agree : Binds K fd_parts_agree ["entry"] [] := FunD.bindsN F_parts_agree fun _ _ _ _ _ _ us hl => match us, hl with | [_], _ => rfl
  have b_is_entry : Binds K fd_is_entry ["thing"] [] := FunD.bindsN F_is_entry fun _ _ _ _ _ _ us hl => match us, hl with | [_], _ => rfl
  have b_order_spot : Binds K fd_order_spot ["entry"] [] := FunD.bindsN F_order_spot fun _ _ _ _ _ _ us hl => match us, hl with | [_], _ => rfl
  have b_in_order : Binds K fd_in_order ["entries"] [] := FunD.bindsN F_in_order fun _ _ _ _ _ _ us hl => match us, hl with | [_], _ => rfl
  have b_told_by : Binds K fd_told_by ["entries", "day"] [] := FunD.bindsN F_told_by fun _ _ _ _ _ _ us hl => match us, hl with | [_, _], _ => rfl
  have b_plain_number : Binds K fd_plain_number ["text"] [] := FunD.bindsN F_plain_number fun _ _ _ _ _ _ us hl => match us, hl with | [_], _ => rfl
  have b_units_text : Binds K fd_units_text ["number", "units"] [] := FunD.bindsN F_units_text fun _ _ _ _ _ _ us hl => match us, hl with | [_, _], _ => rfl
  have b_units_in : Binds K fd_units_in ["text", "units"] [] := FunD.bindsN F_units_in fun _ _ _ _ _ _ us hl => match us, hl with | [_, _], _ => rfl
  have b_weight_text : Binds K fd_weight_text ["pounds"] [] := FunD.bindsN F_weight_text fun _ _ _ _ _ _ us hl => match us, hl with | [_], _ => rfl
  have b_weight_in : Binds K fd_weight_in ["text"] [] := FunD.bindsN F_weight_in fun _ _ _ _ _ _ us hl => match us, hl with | [_], _ => rfl
  have b_length_text : Binds K fd_length_text ["rods"] [] := FunD.bindsN F_length_text fun _ _ _ _ _ _ us hl => match us, hl with | [_], _ => rfl
  have b_length_in : Binds K fd_length_in ["text"] [] := FunD.bindsN F_length_in fun _ _ _ _ _ _ us hl => match us, hl with | [_], _ => rfl
  have b_part_word : Binds K fd_part_word ["sort", "part"] [] := FunD.bindsN F_part_word fun _ _ _ _ _ _ us hl => match us, hl with | [_, _], _ => rfl
  have b_part_in : Binds K fd_part_in ["sort", "word"] [] := FunD.bindsN F_part_in fun _ _ _ _ _ _ us hl => match us, hl with | [_, _], _ => rfl
  have b_entry_text : Binds K fd_entry_text ["entry"] [] := FunD.bindsN F_entry_text fun _ _ _ _ _ _ us hl => match us, hl with | [_], _ => rfl
  have b_entry_in : Binds K fd_entry_in ["row"] [] := FunD.bindsN F_entry_in fun _ _ _ _ _ _ us hl => match us, hl with | [_], _ => rfl
  have b_roll_text : Binds K fd_roll_text ["entries"] [] := FunD.bindsN F_roll_text fun _ _ _ _ _ _ us hl => match us, hl with | [_], _ => rfl
  have b_read_roll : Binds K fd_read_roll ["text"] [] := FunD.bindsN F_read_roll fun _ _ _ _ _ _ us hl => match us, hl with | [_], _ => rfl
  have b__law_box : Binds K fd__law_box ["_law_script", "_law_k"] [] := FunD.bindsN F__law_box fun _ _ _ _ _ _ us hl => match us, hl with | [_, _], _ => rfl
  have b__law_take : Binds K fd__law_take ["_law_box_here", "_law_many"] [] := FunD.bindsN F__law_take fun _ _ _ _ _ _ us hl => match us, hl with | [_, _], _ => rfl
  have b__law_folded : Binds K fd__law_folded ["_law_script", "_law_size"] [] := FunD.bindsN F__law_folded fun _ _ _ _ _ _ us hl => match us, hl with | [_, _], _ => rfl
  have b__law_strewn : Binds K fd__law_strewn ["_law_box_here", "_law_some"] [] := FunD.bindsN F__law_strewn fun _ _ _ _ _ _ us hl => match us, hl with | [_, _], _ => rfl
  have b__law_names : Binds K fd__law_names ["_law_box_here", "_law_many"] [] := FunD.bindsN F__law_names fun _ _ _ _ _ _ us hl => match us, hl with | [_, _], _ => rfl
  have b__law_same : Binds K fd__law_same ["_law_found", "_law_due"] [] := FunD.bindsN F__law_same fun _ _ _ _ _ _ us hl => match us, hl with | [_, _], _ => rfl
  have b__law_copied : Binds K fd__law_copied ["_law_thing"] [] := FunD.bindsN F__law_copied fun _ _ _ _ _ _ us hl => match us, hl with | [_], _ => rfl
  have b__law_marked : Binds K fd__law_marked ["_law_thing"] [] := FunD.bindsN F__law_marked fun _ _ _ _ _ _ us hl => match us, hl with | [_], _ => rfl
  have b__law_pounds : Binds K fd__law_pounds ["_law_box_here"] [] := FunD.bindsN F__law_pounds fun _ _ _ _ _ _ us hl => match us, hl with | [_], _ => rfl
  have b__law_world : Binds K fd__law_world ["_law_box_here"] [] := FunD.bindsN F__law_world fun _ _ _ _ _ _ us hl => match us, hl with | [_], _ => rfl
  have b__law_one_of : Binds K fd__law_one_of ["_law_box_here", "_law_some"] [] := FunD.bindsN F__law_one_of fun _ _ _ _ _ _ us hl => match us, hl with | [_, _], _ => rfl
  have b__law_days_of : Binds K fd__law_days_of ["_law_box_here", "_law_day"] [] := FunD.bindsN F__law_days_of fun _ _ _ _ _ _ us hl => match us, hl with | [_, _], _ => rfl
  have b__law_part : Binds K fd__law_part ["_law_box_here", "_law_world_here", "_law_day"] [] := FunD.bindsN F__law_part fun _ _ _ _ _ _ us hl => match us, hl with | [_, _, _], _ => rfl
  have b__law_numbers_of : Binds K fd__law_numbers_of ["_law_box_here", "_law_many"] [] := FunD.bindsN F__law_numbers_of fun _ _ _ _ _ _ us hl => match us, hl with | [_, _], _ => rfl
  have b__law_log : Binds K fd__law_log ["_law_box_here", "_law_world_here", "_law_most"] [] := FunD.bindsN F__law_log fun _ _ _ _ _ _ us hl => match us, hl with | [_, _, _], _ => rfl
  have b__law_asked : Binds K fd__law_asked ["_law_pick", "_law_entries", "_law_day"] [] := FunD.bindsN F__law_asked fun _ _ _ _ _ _ us hl => match us, hl with | [_, _, _], _ => rfl
  have b__law_pair : Binds K fd__law_pair ["_law_box_here"] [] := FunD.bindsN F__law_pair fun _ _ _ _ _ _ us hl => match us, hl with | [_], _ => rfl
  have b__law_right : Binds K fd__law_right ["_law_box_here"] [] := FunD.bindsN F__law_right fun _ _ _ _ _ _ us hl => match us, hl with | [_], _ => rfl
  refine ⟨fd_law, fun s v => FunD.bindsA (ps := ["_law_script"]) F_law (fun _ _ _ _ _ _ us hl => match us, hl with | [_], _ => rfl) s [v] rfl, fun base => ?_⟩
  have o_number_between := ok_number_between (P := P) (w := w) (base := base) (ca := ca) tx F_number_between 
  have a_number_between : TL.Callee P w K mg base ca "number_between" ["thing", "least", "most"] 1 d_number_between := callee_of F_number_between g_number_between b_number_between o_number_between
  have o_name_like := ok_name_like (P := P) (w := w) (base := base) (ca := ca) tx F_name_like 
  have a_name_like : TL.Callee P w K mg base ca "name_like" ["thing"] 1 d_name_like := callee_of F_name_like g_name_like b_name_like o_name_like
  have o_sort_fits := ok_sort_fits (P := P) (w := w) (base := base) (ca := ca) tx F_sort_fits a_name_like a_number_between
  have a_sort_fits : TL.Callee P w K mg base ca "sort_fits" ["sort", "part"] 2 d_sort_fits := callee_of F_sort_fits g_sort_fits b_sort_fits o_sort_fits
  have o_parts_agree := ok_parts_agree (P := P) (w := w) (base := base) (ca := ca) tx F_parts_agree 
  have a_parts_agree : TL.Callee P w K mg base ca "parts_agree" ["entry"] 1 d_parts_agree := callee_of F_parts_agree g_parts_agree b_parts_agree o_parts_agree
  have o_is_entry := ok_is_entry (P := P) (w := w) (base := base) (ca := ca) tx F_is_entry a_number_between a_sort_fits a_parts_agree
  have a_is_entry : TL.Callee P w K mg base ca "is_entry" ["thing"] 3 d_is_entry := callee_of F_is_entry g_is_entry b_is_entry o_is_entry
  have o_order_spot := ok_order_spot (P := P) (w := w) (base := base) (ca := ca) tx F_order_spot 
  have a_order_spot : TL.Callee P w K mg base ca "order_spot" ["entry"] 1 d_order_spot := callee_of F_order_spot g_order_spot b_order_spot o_order_spot
  have o_in_order := ok_in_order (P := P) (w := w) (base := base) (ca := ca) tx F_in_order a_order_spot
  have a_in_order : TL.Callee P w K mg base ca "in_order" ["entries"] 4 d_in_order := callee_of F_in_order g_in_order b_in_order o_in_order
  have o_told_by := ok_told_by (P := P) (w := w) (base := base) (ca := ca) tx F_told_by a_in_order
  have a_told_by : TL.Callee P w K mg base ca "told_by" ["entries", "day"] 5 d_told_by := callee_of F_told_by g_told_by b_told_by o_told_by
  have o_plain_number := ok_plain_number (P := P) (w := w) (base := base) (ca := ca) tx F_plain_number 
  have a_plain_number : TL.Callee P w K mg base ca "plain_number" ["text"] 1 d_plain_number := callee_of F_plain_number g_plain_number b_plain_number o_plain_number
  have o_units_text := ok_units_text (P := P) (w := w) (base := base) (ca := ca) tx F_units_text 
  have a_units_text : TL.Callee P w K mg base ca "units_text" ["number", "units"] 1 d_units_text := callee_of F_units_text g_units_text b_units_text o_units_text
  have o_units_in := ok_units_in (P := P) (w := w) (base := base) (ca := ca) tx F_units_in a_plain_number a_units_text
  have a_units_in : TL.Callee P w K mg base ca "units_in" ["text", "units"] 2 d_units_in := callee_of F_units_in g_units_in b_units_in o_units_in
  have o_weight_text := ok_weight_text (P := P) (w := w) (base := base) (ca := ca) tx F_weight_text a_units_text
  have a_weight_text : TL.Callee P w K mg base ca "weight_text" ["pounds"] 2 d_weight_text := callee_of F_weight_text g_weight_text b_weight_text o_weight_text
  have o_weight_in := ok_weight_in (P := P) (w := w) (base := base) (ca := ca) tx F_weight_in a_units_in
  have a_weight_in : TL.Callee P w K mg base ca "weight_in" ["text"] 3 d_weight_in := callee_of F_weight_in g_weight_in b_weight_in o_weight_in
  have o_length_text := ok_length_text (P := P) (w := w) (base := base) (ca := ca) tx F_length_text a_units_text
  have a_length_text : TL.Callee P w K mg base ca "length_text" ["rods"] 2 d_length_text := callee_of F_length_text g_length_text b_length_text o_length_text
  have o_length_in := ok_length_in (P := P) (w := w) (base := base) (ca := ca) tx F_length_in a_units_in
  have a_length_in : TL.Callee P w K mg base ca "length_in" ["text"] 3 d_length_in := callee_of F_length_in g_length_in b_length_in o_length_in
  have o_part_word := ok_part_word (P := P) (w := w) (base := base) (ca := ca) tx F_part_word a_weight_text a_length_text
  have a_part_word : TL.Callee P w K mg base ca "part_word" ["sort", "part"] 3 d_part_word := callee_of F_part_word g_part_word b_part_word o_part_word
  have o_part_in := ok_part_in (P := P) (w := w) (base := base) (ca := ca) tx F_part_in a_weight_in a_length_in a_plain_number
  have a_part_in : TL.Callee P w K mg base ca "part_in" ["sort", "word"] 4 d_part_in := callee_of F_part_in g_part_in b_part_in o_part_in
  have o_entry_text := ok_entry_text (P := P) (w := w) (base := base) (ca := ca) tx F_entry_text a_part_word
  have a_entry_text : TL.Callee P w K mg base ca "entry_text" ["entry"] 4 d_entry_text := callee_of F_entry_text g_entry_text b_entry_text o_entry_text
  have o_entry_in := ok_entry_in (P := P) (w := w) (base := base) (ca := ca) tx F_entry_in a_part_in a_plain_number a_is_entry
  have a_entry_in : TL.Callee P w K mg base ca "entry_in" ["row"] 5 d_entry_in := callee_of F_entry_in g_entry_in b_entry_in o_entry_in
  have o_roll_text := ok_roll_text (P := P) (w := w) (base := base) (ca := ca) tx F_roll_text a_entry_text
  have a_roll_text : TL.Callee P w K mg base ca "roll_text" ["entries"] 5 d_roll_text := callee_of F_roll_text g_roll_text b_roll_text o_roll_text
  have o_read_roll := ok_read_roll (P := P) (w := w) (base := base) (ca := ca) tx F_read_roll a_entry_in
  have a_read_roll : TL.Callee P w K mg base ca "read_roll" ["text"] 6 d_read_roll := callee_of F_read_roll g_read_roll b_read_roll o_read_roll
  have o__law_box := ok__law_box (P := P) (w := w) (base := base) (ca := ca) tx F__law_box 
  have a__law_box : TL.Callee P w K mg base ca "_law_box" ["_law_script", "_law_k"] 1 d__law_box := callee_of F__law_box g__law_box b__law_box o__law_box
  have o__law_take := ok__law_take (P := P) (w := w) (base := base) (ca := ca) tx F__law_take 
  have a__law_take : TL.Callee P w K mg base ca "_law_take" ["_law_box_here", "_law_many"] 1 d__law_take := callee_of F__law_take g__law_take b__law_take o__law_take
  have o__law_folded := ok__law_folded (P := P) (w := w) (base := base) (ca := ca) tx F__law_folded 
  have a__law_folded : TL.Callee P w K mg base ca "_law_folded" ["_law_script", "_law_size"] 1 d__law_folded := callee_of F__law_folded g__law_folded b__law_folded o__law_folded
  have o__law_strewn := ok__law_strewn (P := P) (w := w) (base := base) (ca := ca) tx F__law_strewn a__law_take
  have a__law_strewn : TL.Callee P w K mg base ca "_law_strewn" ["_law_box_here", "_law_some"] 2 d__law_strewn := callee_of F__law_strewn g__law_strewn b__law_strewn o__law_strewn
  have o__law_names := ok__law_names (P := P) (w := w) (base := base) (ca := ca) tx F__law_names a__law_take
  have a__law_names : TL.Callee P w K mg base ca "_law_names" ["_law_box_here", "_law_many"] 2 d__law_names := callee_of F__law_names g__law_names b__law_names o__law_names
  have o__law_same := ok__law_same (P := P) (w := w) (base := base) (ca := ca) tx F__law_same g__law_same b__law_same  8
  have a__law_same : TL.Callee P w K mg base ca "_law_same" ["_law_found", "_law_due"] 8 (d__law_same 8) := callee_of F__law_same g__law_same b__law_same o__law_same
  have o__law_copied := ok__law_copied (P := P) (w := w) (base := base) (ca := ca) tx F__law_copied g__law_copied b__law_copied  8
  have a__law_copied : TL.Callee P w K mg base ca "_law_copied" ["_law_thing"] 8 (d__law_copied 8) := callee_of F__law_copied g__law_copied b__law_copied o__law_copied
  have o__law_marked := ok__law_marked (P := P) (w := w) (base := base) (ca := ca) tx F__law_marked g__law_marked b__law_marked  8
  have a__law_marked : TL.Callee P w K mg base ca "_law_marked" ["_law_thing"] 8 (d__law_marked 8) := callee_of F__law_marked g__law_marked b__law_marked o__law_marked
  have o__law_pounds := ok__law_pounds (P := P) (w := w) (base := base) (ca := ca) tx F__law_pounds a__law_take
  have a__law_pounds : TL.Callee P w K mg base ca "_law_pounds" ["_law_box_here"] 2 d__law_pounds := callee_of F__law_pounds g__law_pounds b__law_pounds o__law_pounds
  have o__law_world := ok__law_world (P := P) (w := w) (base := base) (ca := ca) tx F__law_world a__law_take a__law_names
  have a__law_world : TL.Callee P w K mg base ca "_law_world" ["_law_box_here"] 3 d__law_world := callee_of F__law_world g__law_world b__law_world o__law_world
  have o__law_one_of := ok__law_one_of (P := P) (w := w) (base := base) (ca := ca) tx F__law_one_of a__law_take
  have a__law_one_of : TL.Callee P w K mg base ca "_law_one_of" ["_law_box_here", "_law_some"] 2 d__law_one_of := callee_of F__law_one_of g__law_one_of b__law_one_of o__law_one_of
  have o__law_days_of := ok__law_days_of (P := P) (w := w) (base := base) (ca := ca) tx F__law_days_of a__law_take
  have a__law_days_of : TL.Callee P w K mg base ca "_law_days_of" ["_law_box_here", "_law_day"] 2 d__law_days_of := callee_of F__law_days_of g__law_days_of b__law_days_of o__law_days_of
  have o__law_part := ok__law_part (P := P) (w := w) (base := base) (ca := ca) tx F__law_part a__law_one_of a__law_take a__law_pounds a__law_days_of
  have a__law_part : TL.Callee P w K mg base ca "_law_part" ["_law_box_here", "_law_world_here", "_law_day"] 3 d__law_part := callee_of F__law_part g__law_part b__law_part o__law_part
  have o__law_numbers_of := ok__law_numbers_of (P := P) (w := w) (base := base) (ca := ca) tx F__law_numbers_of a__law_take
  have a__law_numbers_of : TL.Callee P w K mg base ca "_law_numbers_of" ["_law_box_here", "_law_many"] 2 d__law_numbers_of := callee_of F__law_numbers_of g__law_numbers_of b__law_numbers_of o__law_numbers_of
  have o__law_log := ok__law_log (P := P) (w := w) (base := base) (ca := ca) tx F__law_log a__law_take a__law_numbers_of a__law_part
  have a__law_log : TL.Callee P w K mg base ca "_law_log" ["_law_box_here", "_law_world_here", "_law_most"] 4 d__law_log := callee_of F__law_log g__law_log b__law_log o__law_log
  have o__law_asked := ok__law_asked (P := P) (w := w) (base := base) (ca := ca) tx F__law_asked a_is_entry a_in_order a_told_by a_entry_text a_roll_text a_read_roll
  have a__law_asked : TL.Callee P w K mg base ca "_law_asked" ["_law_pick", "_law_entries", "_law_day"] 7 d__law_asked := callee_of F__law_asked g__law_asked b__law_asked o__law_asked
  have o__law_pair := ok__law_pair (P := P) (w := w) (base := base) (ca := ca) tx F__law_pair a__law_world a__law_log a__law_take a__law_part
  have a__law_pair : TL.Callee P w K mg base ca "_law_pair" ["_law_box_here"] 5 d__law_pair := callee_of F__law_pair g__law_pair b__law_pair o__law_pair
  have o__law_right := ok__law_right (P := P) (w := w) (base := base) (ca := ca) tx F__law_right a__law_pair a__law_take a__law_copied a__law_asked a__law_same a__law_marked a_in_order a__law_strewn
  have a__law_right : TL.Callee P w K mg base ca "_law_right" ["_law_box_here"] 9 d__law_right := callee_of F__law_right g__law_right b__law_right o__law_right
  exact ok_law (P := P) (w := w) (base := base) (ca := ca) tx F_law a__law_folded a__law_right a__law_box
end Wk31E
open PySem PySem.W PySem.Calls PyProof.Rows
theorem PySem.Challenge.cw_campcarry_k31_whole_two_rolls_by_turns_holds : PySem.Challenge.rw_campcarry_k31_whole_two_rolls_by_turns.Holds := by
  w_on; o_law
  refine HandSHeadRun.head_any (r := OpenLaw.row PySem.Challenge.rw_campcarry_k31_whole_two_rolls_by_turns) (q := view (OpenLaw.row PySem.Challenge.rw_campcarry_k31_whole_two_rolls_by_turns).prog [60]) (H := Wk31E.hk) (ob := Wk31E.ob) (M := 30000) (loose := Wk31E.loose) (d := HandSHeadRun.topDef (OpenLaw.row PySem.Challenge.rw_campcarry_k31_whole_two_rolls_by_turns).prog 60) (kwd := []) Wk31E.ob_eq
    (by kernel_rfl) (fun s => by kernel_rfl) Wk31E.run (by kernel_rfl) (by kernel_rfl) (by kernel_rfl) (by rfl) (by first | assumption | decide +kernel) (by decide +kernel) ⟨rfl, rfl, rfl, rfl, rfl, by decide +kernel⟩ ?hw ?hc
  case hw => w_witness2
  case hc =>
    refine L2.walk_ofE (l := PySem.Challenge.rw_campcarry_k31_whole_two_rolls_by_turns) (n := 63) (k := 10) (x := "_law_script") (CX := L2.CX0) rfl (by decide) (by kernel_rfl) ⟨rfl, by decide, by decide⟩ ?F (fun _ _ _ _ z => z)
    intro w mg fa h Y G hmg0
    obtain ⟨K, KX, ce⟩ := Y
    have hmg : mg ("law" : PySem.Str) = some (.ref fa) := by
      have e : (HandSHeadRun.topDef (OpenLaw.row PySem.Challenge.rw_campcarry_k31_whole_two_rolls_by_turns).prog 60).name = ("law" : PySem.Str) := by kernel_rfl
      rw [← e]
      exact hmg0
    obtain ⟨fd, hb, hF⟩ := Wk31E.facts (P := (PySem.Challenge.rw_campcarry_k31_whole_two_rolls_by_turns).prog) (w := w) (ca := fun _ => 0) KX G hmg ce
    refine ⟨K, fd, TL.spT K (fun _ => 0) 1 Wk31.d_law, KX, hb, fun H a ns hl _ hS => ?_, fun base _ _ => hF base⟩
    obtain ⟨O, e⟩ := Wk31.law_true ns hl
    exact TL.law_end hS e

