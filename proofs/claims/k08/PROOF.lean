import PyProof.Rows.All
import Wide.All
import OpenK.AllK
import Wide.FinOn
import HandS.ForMost
import HandS.Wide
import HandS.Zip
import HandS.IsInst
import HandS.SortInts
import HandS.Sort
import HandS.WordsExc
import HandS.Defaults
import HandS.Style
import HandS.Head2
import HandS.HeadEnd
import HandS.HeadHook2
import HandS.Text
import PySem.Challenge.RW_campcarry_k08_whole_measures_and_sizes
set_option Elab.async false
set_option linter.all false
set_option maxRecDepth 100000
/-! TL1: values as trees; how a tree stands in the abstract heap; states and steps. -/
namespace TL
open PySem PySem.Spec L2

/-- how a list or a dict is held: for good; by one owner, who may change it; lent; for good, maybe of the module's own or locked (read alone) -/
inductive Mk where
  | fz | ow | br | sc
  deriving DecidableEq
inductive T where
  | non | bl (b : Bool) | int (i : Int) | str (x : Str)
  | tup (xs : List T)
  | lst (m : Mk) (xs : List T)
  | dic (m : Mk) (kvs : List (Key × T))
  | hnd (n : Nat)
  deriving Inhabited
/-- what a handle stands for -/
inductive Ob where
  | lst (xs : List T)
  | ins (c : Str) (fs : List (Str × T))

/-- the heaps: what is held for good, that and what is lent, all; the handles' addresses; the classes' -/
structure Hc where
  K : PySem.W.Frag
  F : Hp
  P : Hp
  H : Hp
  ad : List Addr
  ca : Str → Addr

mutual
def Rep (c : Hc) : T → V → List Addr → Prop
  | .non, v, g => v = .non ∧ g = []
  | .bl b, v, g => v = .bl b ∧ g = []
  | .int i, v, g => v = .int i ∧ g = []
  | .str x, v, g => v = .str x ∧ g = []
  | .hnd n, v, g => ∃ p, v = .ref p ∧ c.ad[n]? = some p ∧ g = []
  | .tup xs, v, g => ∃ p vs, v = .ref p ∧ SqT c.K c.F p vs ∧ Reps c xs vs g
  | .lst .sc xs, v, g => ∃ p vs, v = .ref p ∧ SqL c.K c.F p vs ∧ Reps c xs vs [] ∧ g = []
  | .lst .fz xs, v, g => ∃ p vs, v = .ref p ∧ c.F p = some (.lst vs) ∧ Reps c xs vs [] ∧ g = []
  | .lst .br xs, v, g => ∃ p vs, v = .ref p ∧ c.P p = some (.lst vs) ∧ Reps c xs vs [] ∧ g = []
  | .lst .ow xs, v, g => ∃ p vs gs, v = .ref p ∧ c.H p = some (.lst vs) ∧ Reps c xs vs gs ∧ g = p :: gs
  | .dic .sc _, _, _ => False
  | .dic .fz xs, v, g => ∃ p vs, v = .ref p ∧ c.F p = some (.dK vs) ∧ RepK c xs vs [] ∧ g = []
  | .dic .br xs, v, g => ∃ p vs, v = .ref p ∧ c.P p = some (.dK vs) ∧ RepK c xs vs [] ∧ g = []
  | .dic .ow xs, v, g => ∃ p vs gs, v = .ref p ∧ c.H p = some (.dK vs) ∧ RepK c xs vs gs ∧ g = p :: gs
def Reps (c : Hc) : List T → List V → List Addr → Prop
  | [], vs, g => vs = [] ∧ g = []
  | t :: ts, vs, g => ∃ v r ga gb, vs = v :: r ∧ g = ga ++ gb ∧ Rep c t v ga ∧ Reps c ts r gb
def RepK (c : Hc) : List (Key × T) → List (Key × V) → List Addr → Prop
  | [], vs, g => vs = [] ∧ g = []
  | (k, t) :: ts, vs, g => ∃ v r ga gb, vs = (k, v) :: r ∧ g = ga ++ gb ∧ Rep c t v ga ∧ RepK c ts r gb
end

/-- from one to the other: what is held for good or lent stays, the nodes at g stay -/
structure Ex (c c' : Hc) (g : List Addr) : Prop where
  k : c'.K = c.K
  ca : c'.ca = c.ca
  f : Same c.F c'.F
  p : Same c.P c'.P
  h : ∀ a ∈ g, ∀ o, c.H a = some o → c'.H a = some o
  ad : ∃ more, c'.ad = c.ad ++ more
theorem Ex.mono {c c' : Hc} {g g' : List Addr} (e : Ex c c' g) (h : ∀ a ∈ g', a ∈ g) : Ex c c' g' := ⟨e.k, e.ca, e.f, e.p, fun a m => e.h a (h a m), e.ad⟩
theorem Ex.adAt {c c' : Hc} {g : List Addr} (e : Ex c c' g) {n : Nat} {p : Addr} (h : c.ad[n]? = some p) : c'.ad[n]? = some p := by
  obtain ⟨more, q⟩ := e.ad
  rw [q]
  obtain ⟨h1, _⟩ := List.getElem?_eq_some_iff.mp h
  rw [List.getElem?_append_left h1]
  exact h
theorem sqT_same {K : PySem.W.Frag} {H H' : Hp} {a : Addr} {xs : List V} (e : Same H H') (h : SqT K H a xs) : SqT K H' a xs := by
  rcases h with (h | ⟨o, h⟩) | h
  · exact .inl (.inl (e _ _ h))
  · exact .inl (.inr ⟨o, e _ _ h⟩)
  · exact .inr h
theorem sqL_same {K : PySem.W.Frag} {H H' : Hp} {a : Addr} {xs : List V} (e : Same H H') (h : SqL K H a xs) : SqL K H' a xs := e.seq h

mutual
theorem Rep.ex {c c' : Hc} : ∀ (t : T) (v : V) (g : List Addr), Ex c c' g → Rep c t v g → Rep c' t v g
  | .non, _, _, _, r => r
  | .bl _, _, _, _, r => r
  | .int _, _, _, _, r => r
  | .str _, _, _, _, r => r
  | .hnd n, _, _, e, ⟨p, a, b, d⟩ => ⟨p, a, e.adAt b, d⟩
  | .tup xs, _, _, e, ⟨p, vs, a, b, d⟩ => ⟨p, vs, a, by rw [e.k]; exact sqT_same e.f b, Reps.ex xs vs _ e d⟩
  | .lst .sc xs, _, _, e, ⟨p, vs, a, b, d, q⟩ => ⟨p, vs, a, by rw [e.k]; exact sqL_same e.f b, Reps.ex xs vs _ (e.mono (fun _ m => absurd m (by simp))) d, q⟩
  | .lst .fz xs, _, _, e, ⟨p, vs, a, b, d, q⟩ => ⟨p, vs, a, e.f _ _ b, Reps.ex xs vs _ (e.mono (fun _ m => absurd m (by simp))) d, q⟩
  | .lst .br xs, _, _, e, ⟨p, vs, a, b, d, q⟩ => ⟨p, vs, a, e.p _ _ b, Reps.ex xs vs _ (e.mono (fun _ m => absurd m (by simp))) d, q⟩
  | .lst .ow xs, _, _, e, ⟨p, vs, gs, a, b, d, q⟩ => ⟨p, vs, gs, a, e.h p (by rw [q]; simp) _ b, Reps.ex xs vs _ (e.mono (fun _ m => by rw [q]; exact List.mem_cons_of_mem _ m)) d, q⟩
  | .dic .sc _, _, _, _, r => (show False from r).elim
  | .dic .fz xs, _, _, e, ⟨p, vs, a, b, d, q⟩ => ⟨p, vs, a, e.f _ _ b, RepK.ex xs vs _ (e.mono (fun _ m => absurd m (by simp))) d, q⟩
  | .dic .br xs, _, _, e, ⟨p, vs, a, b, d, q⟩ => ⟨p, vs, a, e.p _ _ b, RepK.ex xs vs _ (e.mono (fun _ m => absurd m (by simp))) d, q⟩
  | .dic .ow xs, _, _, e, ⟨p, vs, gs, a, b, d, q⟩ => ⟨p, vs, gs, a, e.h p (by rw [q]; simp) _ b, RepK.ex xs vs _ (e.mono (fun _ m => by rw [q]; exact List.mem_cons_of_mem _ m)) d, q⟩
theorem Reps.ex {c c' : Hc} : ∀ (ts : List T) (vs : List V) (g : List Addr), Ex c c' g → Reps c ts vs g → Reps c' ts vs g
  | [], _, _, _, r => r
  | t :: ts, _, _, e, ⟨v, r, ga, gb, a, b, d, q⟩ => ⟨v, r, ga, gb, a, b, Rep.ex t v ga (e.mono (fun _ m => by rw [b]; exact List.mem_append_left _ m)) d, Reps.ex ts r gb (e.mono (fun _ m => by rw [b]; exact List.mem_append_right _ m)) q⟩
theorem RepK.ex {c c' : Hc} : ∀ (ts : List (Key × T)) (vs : List (Key × V)) (g : List Addr), Ex c c' g → RepK c ts vs g → RepK c' ts vs g
  | [], _, _, _, r => r
  | (k, t) :: ts, _, _, e, ⟨v, r, ga, gb, a, b, d, q⟩ => ⟨v, r, ga, gb, a, b, Rep.ex t v ga (e.mono (fun _ m => by rw [b]; exact List.mem_append_left _ m)) d, RepK.ex ts r gb (e.mono (fun _ m => by rw [b]; exact List.mem_append_right _ m)) q⟩
end

/-! ### the footprint stands in the heap -/
mutual
theorem Rep.inH {c : Hc} : ∀ (t : T) (v : V) (g : List Addr), Rep c t v g → ∀ a ∈ g, c.H a ≠ none
  | .non, _, _, ⟨_, q⟩, a, m => by rw [q] at m; simp at m
  | .bl _, _, _, ⟨_, q⟩, a, m => by rw [q] at m; simp at m
  | .int _, _, _, ⟨_, q⟩, a, m => by rw [q] at m; simp at m
  | .str _, _, _, ⟨_, q⟩, a, m => by rw [q] at m; simp at m
  | .hnd _, _, _, ⟨_, _, _, q⟩, a, m => by rw [q] at m; simp at m
  | .tup xs, _, _, ⟨_, vs, _, _, d⟩, a, m => Reps.inH xs vs _ d a m
  | .lst .sc _, _, _, ⟨_, _, _, _, _, q⟩, a, m => by rw [q] at m; simp at m
  | .lst .fz _, _, _, ⟨_, _, _, _, _, q⟩, a, m => by rw [q] at m; simp at m
  | .lst .br _, _, _, ⟨_, _, _, _, _, q⟩, a, m => by rw [q] at m; simp at m
  | .lst .ow xs, _, _, ⟨p, vs, gs, _, b, d, q⟩, a, m => by
    rw [q] at m
    rcases List.mem_cons.mp m with e | m
    · subst e; rw [b]; simp
    · exact Reps.inH xs vs _ d a m
  | .dic .sc _, _, _, r, _, _ => (show False from r).elim
  | .dic .fz _, _, _, ⟨_, _, _, _, _, q⟩, a, m => by rw [q] at m; simp at m
  | .dic .br _, _, _, ⟨_, _, _, _, _, q⟩, a, m => by rw [q] at m; simp at m
  | .dic .ow xs, _, _, ⟨p, vs, gs, _, b, d, q⟩, a, m => by
    rw [q] at m
    rcases List.mem_cons.mp m with e | m
    · subst e; rw [b]; simp
    · exact RepK.inH xs vs _ d a m
theorem Reps.inH {c : Hc} : ∀ (ts : List T) (vs : List V) (g : List Addr), Reps c ts vs g → ∀ a ∈ g, c.H a ≠ none
  | [], _, _, ⟨_, q⟩, a, m => by rw [q] at m; simp at m
  | t :: ts, _, _, ⟨v, r, ga, gb, _, b, d, q⟩, a, m => by
    rw [b] at m
    rcases List.mem_append.mp m with m | m
    · exact Rep.inH t v ga d a m
    · exact Reps.inH ts r gb q a m
theorem RepK.inH {c : Hc} : ∀ (ts : List (Key × T)) (vs : List (Key × V)) (g : List Addr), RepK c ts vs g → ∀ a ∈ g, c.H a ≠ none
  | [], _, _, ⟨_, q⟩, a, m => by rw [q] at m; simp at m
  | (k, t) :: ts, _, _, ⟨v, r, ga, gb, _, b, d, q⟩, a, m => by
    rw [b] at m
    rcases List.mem_append.mp m with m | m
    · exact Rep.inH t v ga d a m
    · exact RepK.inH ts r gb q a m
end

/-! ### trees without owned nodes; without lent ones; frozen, lent -/
mutual
def T.noOw : T → Bool
  | .tup xs => noOws xs
  | .lst m xs => (match m with | .ow => false | _ => noOws xs)
  | .dic m xs => (match m with | .ow => false | _ => noOwK xs)
  | _ => true
def noOws : List T → Bool
  | [] => true
  | t :: ts => t.noOw && noOws ts
def noOwK : List (Key × T) → Bool
  | [] => true
  | (_, t) :: ts => t.noOw && noOwK ts
end
mutual
def T.noBr : T → Bool
  | .tup xs => noBrs xs
  | .lst m xs => (match m with | .br => false | _ => noBrs xs)
  | .dic m xs => (match m with | .br => false | _ => noBrK xs)
  | _ => true
def noBrs : List T → Bool
  | [] => true
  | t :: ts => t.noBr && noBrs ts
def noBrK : List (Key × T) → Bool
  | [] => true
  | (_, t) :: ts => t.noBr && noBrK ts
end
def Mk.brw : Mk → Mk
  | .ow => .br
  | m => m
def Mk.frz : Mk → Mk
  | .ow => .fz
  | m => m
mutual
/-- all owned nodes lent -/
def T.brw : T → T
  | .tup xs => .tup (brws xs)
  | .lst m xs => .lst m.brw (brws xs)
  | .dic m xs => .dic m.brw (brwK xs)
  | t => t
def brws : List T → List T
  | [] => []
  | t :: ts => t.brw :: brws ts
def brwK : List (Key × T) → List (Key × T)
  | [] => []
  | (k, t) :: ts => (k, t.brw) :: brwK ts
end
mutual
/-- all owned nodes held for good -/
def T.frz : T → T
  | .tup xs => .tup (frzs xs)
  | .lst m xs => .lst m.frz (frzs xs)
  | .dic m xs => .dic m.frz (frzK xs)
  | t => t
def frzs : List T → List T
  | [] => []
  | t :: ts => t.frz :: frzs ts
def frzK : List (Key × T) → List (Key × T)
  | [] => []
  | (k, t) :: ts => (k, t.frz) :: frzK ts
end

mutual
theorem Rep.noOw {c : Hc} : ∀ (t : T) (v : V) (g : List Addr), t.noOw = true → Rep c t v g → g = []
  | .non, _, _, _, ⟨_, q⟩ => q
  | .bl _, _, _, _, ⟨_, q⟩ => q
  | .int _, _, _, _, ⟨_, q⟩ => q
  | .str _, _, _, _, ⟨_, q⟩ => q
  | .hnd _, _, _, _, ⟨_, _, _, q⟩ => q
  | .tup xs, _, _, h, ⟨_, vs, _, _, d⟩ => Reps.noOw xs vs _ h d
  | .lst .sc _, _, _, _, ⟨_, _, _, _, _, q⟩ => q
  | .lst .fz _, _, _, _, ⟨_, _, _, _, _, q⟩ => q
  | .lst .br _, _, _, _, ⟨_, _, _, _, _, q⟩ => q
  | .lst .ow xs, _, _, h, _ => by cases h
  | .dic .sc _, _, _, _, r => (show False from r).elim
  | .dic .fz _, _, _, _, ⟨_, _, _, _, _, q⟩ => q
  | .dic .br _, _, _, _, ⟨_, _, _, _, _, q⟩ => q
  | .dic .ow xs, _, _, h, _ => by cases h
theorem Reps.noOw {c : Hc} : ∀ (ts : List T) (vs : List V) (g : List Addr), noOws ts = true → Reps c ts vs g → g = []
  | [], _, _, _, ⟨_, q⟩ => q
  | t :: ts, _, _, h, ⟨v, r, ga, gb, _, b, d, q⟩ => by
    have h2 := Bool.and_eq_true_iff.mp (show (t.noOw && noOws ts) = true from h)
    rw [b, Rep.noOw t v ga h2.1 d, Reps.noOw ts r gb h2.2 q, List.nil_append]
theorem RepK.noOw {c : Hc} : ∀ (ts : List (Key × T)) (vs : List (Key × V)) (g : List Addr), noOwK ts = true → RepK c ts vs g → g = []
  | [], _, _, _, ⟨_, q⟩ => q
  | (k, t) :: ts, _, _, h, ⟨v, r, ga, gb, _, b, d, q⟩ => by
    have h2 := Bool.and_eq_true_iff.mp (show (t.noOw && noOwK ts) = true from h)
    rw [b, Rep.noOw t v ga h2.1 d, RepK.noOw ts r gb h2.2 q, List.nil_append]
end

/-- the same but for what is lent -/
structure ExF (c c' : Hc) (g : List Addr) : Prop where
  k : c'.K = c.K
  f : Same c.F c'.F
  h : ∀ a ∈ g, ∀ o, c.H a = some o → c'.H a = some o
  ad : ∀ (n : Nat) (p : Addr), c.ad[n]? = some p → c'.ad[n]? = some p
theorem ExF.mono {c c' : Hc} {g g' : List Addr} (e : ExF c c' g) (h : ∀ a ∈ g', a ∈ g) : ExF c c' g' := ⟨e.k, e.f, fun a m => e.h a (h a m), e.ad⟩
mutual
theorem Rep.exF {c c' : Hc} : ∀ (t : T) (v : V) (g : List Addr), t.noBr = true → ExF c c' g → Rep c t v g → Rep c' t v g
  | .non, _, _, _, _, r => r
  | .bl _, _, _, _, _, r => r
  | .int _, _, _, _, _, r => r
  | .str _, _, _, _, _, r => r
  | .hnd n, _, _, _, e, ⟨p, a, b, d⟩ => ⟨p, a, e.ad _ _ b, d⟩
  | .tup xs, _, _, hb, e, ⟨p, vs, a, b, d⟩ => ⟨p, vs, a, by rw [e.k]; exact sqT_same e.f b, Reps.exF xs vs _ hb e d⟩
  | .lst .sc xs, _, _, hb, e, ⟨p, vs, a, b, d, q⟩ => ⟨p, vs, a, by rw [e.k]; exact sqL_same e.f b, Reps.exF xs vs _ hb (e.mono (fun _ m => absurd m (by simp))) d, q⟩
  | .lst .fz xs, _, _, hb, e, ⟨p, vs, a, b, d, q⟩ => ⟨p, vs, a, e.f _ _ b, Reps.exF xs vs _ hb (e.mono (fun _ m => absurd m (by simp))) d, q⟩
  | .lst .br xs, _, _, hb, _, _ => by cases hb
  | .lst .ow xs, _, _, hb, e, ⟨p, vs, gs, a, b, d, q⟩ => ⟨p, vs, gs, a, e.h p (by rw [q]; simp) _ b, Reps.exF xs vs _ hb (e.mono (fun _ m => by rw [q]; exact List.mem_cons_of_mem _ m)) d, q⟩
  | .dic .sc _, _, _, _, _, r => (show False from r).elim
  | .dic .fz xs, _, _, hb, e, ⟨p, vs, a, b, d, q⟩ => ⟨p, vs, a, e.f _ _ b, RepK.exF xs vs _ hb (e.mono (fun _ m => absurd m (by simp))) d, q⟩
  | .dic .br xs, _, _, hb, _, _ => by cases hb
  | .dic .ow xs, _, _, hb, e, ⟨p, vs, gs, a, b, d, q⟩ => ⟨p, vs, gs, a, e.h p (by rw [q]; simp) _ b, RepK.exF xs vs _ hb (e.mono (fun _ m => by rw [q]; exact List.mem_cons_of_mem _ m)) d, q⟩
theorem Reps.exF {c c' : Hc} : ∀ (ts : List T) (vs : List V) (g : List Addr), noBrs ts = true → ExF c c' g → Reps c ts vs g → Reps c' ts vs g
  | [], _, _, _, _, r => r
  | t :: ts, _, _, hb, e, ⟨v, r, ga, gb, a, b, d, q⟩ => by
    have h2 := Bool.and_eq_true_iff.mp (show (t.noBr && noBrs ts) = true from hb)
    exact ⟨v, r, ga, gb, a, b, Rep.exF t v ga h2.1 (e.mono (fun _ m => by rw [b]; exact List.mem_append_left _ m)) d, Reps.exF ts r gb h2.2 (e.mono (fun _ m => by rw [b]; exact List.mem_append_right _ m)) q⟩
theorem RepK.exF {c c' : Hc} : ∀ (ts : List (Key × T)) (vs : List (Key × V)) (g : List Addr), noBrK ts = true → ExF c c' g → RepK c ts vs g → RepK c' ts vs g
  | [], _, _, _, _, r => r
  | (k, t) :: ts, _, _, hb, e, ⟨v, r, ga, gb, a, b, d, q⟩ => by
    have h2 := Bool.and_eq_true_iff.mp (show (t.noBr && noBrK ts) = true from hb)
    exact ⟨v, r, ga, gb, a, b, Rep.exF t v ga h2.1 (e.mono (fun _ m => by rw [b]; exact List.mem_append_left _ m)) d, RepK.exF ts r gb h2.2 (e.mono (fun _ m => by rw [b]; exact List.mem_append_right _ m)) q⟩
end

/-! ### lending and freezing: the owned nodes come into P, or into F and P -/
/-- the heaps with the nodes of g taken over from H -/
def plus (A H : Hp) (g : List Addr) : Hp := fun a => if a ∈ g then H a else A a
theorem plus_in {A H : Hp} {g : List Addr} {a : Addr} (h : a ∈ g) : plus A H g a = H a := if_pos h
theorem plus_out {A H : Hp} {g : List Addr} {a : Addr} (h : a ∉ g) : plus A H g a = A a := if_neg h
theorem plus_same {A H : Hp} {g : List Addr} (h : Same A H) : Same A (plus A H g) := fun a o e => by
  by_cases m : a ∈ g
  · rw [plus_in m]; exact h a o e
  · rw [plus_out m]; exact e
theorem plus_le {A H : Hp} {g : List Addr} (h : Same A H) : Same (plus A H g) H := fun a o e => by
  by_cases m : a ∈ g
  · rw [plus_in m] at e; exact e
  · rw [plus_out m] at e; exact h a o e
/-- c' has all of c, and in P the nodes of g -/
structure Lend (c c' : Hc) (g : List Addr) : Prop where
  k : c'.K = c.K
  f : Same c.F c'.F
  p : Same c.P c'.P
  g : ∀ a ∈ g, ∀ o, c.H a = some o → c'.P a = some o
  ad : ∀ (n : Nat) (p : Addr), c.ad[n]? = some p → c'.ad[n]? = some p
theorem Lend.mono {c c' : Hc} {g g' : List Addr} (e : Lend c c' g) (h : ∀ a ∈ g', a ∈ g) : Lend c c' g' := ⟨e.k, e.f, e.p, fun a m => e.g a (h a m), e.ad⟩
mutual
theorem Rep.brw {c c' : Hc} : ∀ (t : T) (v : V) (g : List Addr), Lend c c' g → Rep c t v g → Rep c' t.brw v []
  | .non, _, _, _, ⟨a, _⟩ => ⟨a, rfl⟩
  | .bl _, _, _, _, ⟨a, _⟩ => ⟨a, rfl⟩
  | .int _, _, _, _, ⟨a, _⟩ => ⟨a, rfl⟩
  | .str _, _, _, _, ⟨a, _⟩ => ⟨a, rfl⟩
  | .hnd n, _, _, e, ⟨p, a, b, d⟩ => ⟨p, a, e.ad _ _ b, rfl⟩
  | .tup xs, _, _, e, ⟨p, vs, a, b, d⟩ => ⟨p, vs, a, by rw [e.k]; exact sqT_same e.f b, Reps.brw xs vs _ e d⟩
  | .lst .sc xs, _, _, e, ⟨p, vs, a, b, d, q⟩ => ⟨p, vs, a, by rw [e.k]; exact sqL_same e.f b, Reps.brw xs vs _ (e.mono (fun _ m => absurd m (by simp))) d, rfl⟩
  | .lst .fz xs, _, _, e, ⟨p, vs, a, b, d, q⟩ => ⟨p, vs, a, e.f _ _ b, Reps.brw xs vs _ (e.mono (fun _ m => absurd m (by simp))) d, rfl⟩
  | .lst .br xs, _, _, e, ⟨p, vs, a, b, d, q⟩ => ⟨p, vs, a, e.p _ _ b, Reps.brw xs vs _ (e.mono (fun _ m => absurd m (by simp))) d, rfl⟩
  | .lst .ow xs, _, _, e, ⟨p, vs, gs, a, b, d, q⟩ => ⟨p, vs, a, e.g p (by rw [q]; simp) _ b, Reps.brw xs vs _ (e.mono (fun _ m => by rw [q]; exact List.mem_cons_of_mem _ m)) d, rfl⟩
  | .dic .sc _, _, _, _, r => (show False from r).elim
  | .dic .fz xs, _, _, e, ⟨p, vs, a, b, d, q⟩ => ⟨p, vs, a, e.f _ _ b, RepK.brw xs vs _ (e.mono (fun _ m => absurd m (by simp))) d, rfl⟩
  | .dic .br xs, _, _, e, ⟨p, vs, a, b, d, q⟩ => ⟨p, vs, a, e.p _ _ b, RepK.brw xs vs _ (e.mono (fun _ m => absurd m (by simp))) d, rfl⟩
  | .dic .ow xs, _, _, e, ⟨p, vs, gs, a, b, d, q⟩ => ⟨p, vs, a, e.g p (by rw [q]; simp) _ b, RepK.brw xs vs _ (e.mono (fun _ m => by rw [q]; exact List.mem_cons_of_mem _ m)) d, rfl⟩
theorem Reps.brw {c c' : Hc} : ∀ (ts : List T) (vs : List V) (g : List Addr), Lend c c' g → Reps c ts vs g → Reps c' (brws ts) vs []
  | [], _, _, _, ⟨a, _⟩ => ⟨a, rfl⟩
  | t :: ts, _, _, e, ⟨v, r, ga, gb, a, b, d, q⟩ => ⟨v, r, [], [], a, rfl, Rep.brw t v ga (e.mono (fun _ m => by rw [b]; exact List.mem_append_left _ m)) d, Reps.brw ts r gb (e.mono (fun _ m => by rw [b]; exact List.mem_append_right _ m)) q⟩
theorem RepK.brw {c c' : Hc} : ∀ (ts : List (Key × T)) (vs : List (Key × V)) (g : List Addr), Lend c c' g → RepK c ts vs g → RepK c' (brwK ts) vs []
  | [], _, _, _, ⟨a, _⟩ => ⟨a, rfl⟩
  | (k, t) :: ts, _, _, e, ⟨v, r, ga, gb, a, b, d, q⟩ => ⟨v, r, [], [], a, rfl, Rep.brw t v ga (e.mono (fun _ m => by rw [b]; exact List.mem_append_left _ m)) d, RepK.brw ts r gb (e.mono (fun _ m => by rw [b]; exact List.mem_append_right _ m)) q⟩
end
structure Frz (c c' : Hc) (g : List Addr) : Prop where
  k : c'.K = c.K
  f : Same c.F c'.F
  p : Same c.P c'.P
  g : ∀ a ∈ g, ∀ o, c.H a = some o → c'.F a = some o
  ad : ∀ (n : Nat) (p : Addr), c.ad[n]? = some p → c'.ad[n]? = some p
theorem Frz.mono {c c' : Hc} {g g' : List Addr} (e : Frz c c' g) (h : ∀ a ∈ g', a ∈ g) : Frz c c' g' := ⟨e.k, e.f, e.p, fun a m => e.g a (h a m), e.ad⟩
mutual
theorem Rep.frz {c c' : Hc} : ∀ (t : T) (v : V) (g : List Addr), Frz c c' g → Rep c t v g → Rep c' t.frz v []
  | .non, _, _, _, ⟨a, _⟩ => ⟨a, rfl⟩
  | .bl _, _, _, _, ⟨a, _⟩ => ⟨a, rfl⟩
  | .int _, _, _, _, ⟨a, _⟩ => ⟨a, rfl⟩
  | .str _, _, _, _, ⟨a, _⟩ => ⟨a, rfl⟩
  | .hnd n, _, _, e, ⟨p, a, b, d⟩ => ⟨p, a, e.ad _ _ b, rfl⟩
  | .tup xs, _, _, e, ⟨p, vs, a, b, d⟩ => ⟨p, vs, a, by rw [e.k]; exact sqT_same e.f b, Reps.frz xs vs _ e d⟩
  | .lst .sc xs, _, _, e, ⟨p, vs, a, b, d, q⟩ => ⟨p, vs, a, by rw [e.k]; exact sqL_same e.f b, Reps.frz xs vs _ (e.mono (fun _ m => absurd m (by simp))) d, rfl⟩
  | .lst .fz xs, _, _, e, ⟨p, vs, a, b, d, q⟩ => ⟨p, vs, a, e.f _ _ b, Reps.frz xs vs _ (e.mono (fun _ m => absurd m (by simp))) d, rfl⟩
  | .lst .br xs, _, _, e, ⟨p, vs, a, b, d, q⟩ => ⟨p, vs, a, e.p _ _ b, Reps.frz xs vs _ (e.mono (fun _ m => absurd m (by simp))) d, rfl⟩
  | .lst .ow xs, _, _, e, ⟨p, vs, gs, a, b, d, q⟩ => ⟨p, vs, a, e.g p (by rw [q]; simp) _ b, Reps.frz xs vs _ (e.mono (fun _ m => by rw [q]; exact List.mem_cons_of_mem _ m)) d, rfl⟩
  | .dic .sc _, _, _, _, r => (show False from r).elim
  | .dic .fz xs, _, _, e, ⟨p, vs, a, b, d, q⟩ => ⟨p, vs, a, e.f _ _ b, RepK.frz xs vs _ (e.mono (fun _ m => absurd m (by simp))) d, rfl⟩
  | .dic .br xs, _, _, e, ⟨p, vs, a, b, d, q⟩ => ⟨p, vs, a, e.p _ _ b, RepK.frz xs vs _ (e.mono (fun _ m => absurd m (by simp))) d, rfl⟩
  | .dic .ow xs, _, _, e, ⟨p, vs, gs, a, b, d, q⟩ => ⟨p, vs, a, e.g p (by rw [q]; simp) _ b, RepK.frz xs vs _ (e.mono (fun _ m => by rw [q]; exact List.mem_cons_of_mem _ m)) d, rfl⟩
theorem Reps.frz {c c' : Hc} : ∀ (ts : List T) (vs : List V) (g : List Addr), Frz c c' g → Reps c ts vs g → Reps c' (frzs ts) vs []
  | [], _, _, _, ⟨a, _⟩ => ⟨a, rfl⟩
  | t :: ts, _, _, e, ⟨v, r, ga, gb, a, b, d, q⟩ => ⟨v, r, [], [], a, rfl, Rep.frz t v ga (e.mono (fun _ m => by rw [b]; exact List.mem_append_left _ m)) d, Reps.frz ts r gb (e.mono (fun _ m => by rw [b]; exact List.mem_append_right _ m)) q⟩
theorem RepK.frz {c c' : Hc} : ∀ (ts : List (Key × T)) (vs : List (Key × V)) (g : List Addr), Frz c c' g → RepK c ts vs g → RepK c' (frzK ts) vs []
  | [], _, _, _, ⟨a, _⟩ => ⟨a, rfl⟩
  | (k, t) :: ts, _, _, e, ⟨v, r, ga, gb, a, b, d, q⟩ => ⟨v, r, [], [], a, rfl, Rep.frz t v ga (e.mono (fun _ m => by rw [b]; exact List.mem_append_left _ m)) d, RepK.frz ts r gb (e.mono (fun _ m => by rw [b]; exact List.mem_append_right _ m)) q⟩
end
end TL

set_option Elab.async false
set_option linter.all false
set_option maxRecDepth 100000
/-! TL2: states, steps, temporaries; lifted readings. -/
namespace TL
open PySem PySem.Spec L2

/-- who owns nodes: a slot, a handle's object -/
inductive Own where
  | s (i : Nat) | o (n : Nat)
  deriving DecidableEq
/-- the state that a mirror sees: the slots' trees (none: not to be used), the objects -/
abbrev SS := List (Option T) × List Ob
structure Gh extends Hc where
  fp : Own → List Addr
  τ : List (Option T)
  O : List Ob
abbrev Gh.S (G : Gh) : SS := (G.τ, G.O)
def RepO (c : Hc) : Ob → Addr → List Addr → Prop
  | .lst xs, p, g => ∃ vs, c.H p = some (.lst vs) ∧ Reps c xs vs g ∧ noBrs xs = true
  | .ins C fs, p, g => ∃ dx vs, c.H p = some (.ins (c.ca C) dx vs) ∧ RepK c (fs.map fun q => (.inr q.1, q.2)) (vs.map fun q => (.inr q.1, q.2)) g ∧ noBrK (fs.map fun q => (.inr q.1, q.2)) = true

structure Good (K : PySem.W.Frag) (ca : Str → Addr) (σ : L2.St) (G : Gh) : Prop where
  k : G.K = K
  c : G.ca = ca
  len : G.τ.length = σ.length
  fp : Same G.F G.P
  ph : Same G.P G.H
  nd : ∀ k, (G.fp k).Nodup
  dj : ∀ k k' a, a ∈ G.fp k → a ∈ G.fp k' → k = k'
  pn : ∀ k a, a ∈ G.fp k → G.P a = none
  adn : G.ad.Nodup
  adp : ∀ a ∈ G.ad, G.P a = none
  ado : ∀ a ∈ G.ad, ∀ k, a ∉ G.fp k
  sl : ∀ i t, G.τ[i]? = some (some t) → ∃ v, σ[i]? = some (some v) ∧ Rep G.toHc t v (G.fp (.s i))
  sn : ∀ i, (∀ t, G.τ[i]? ≠ some (some t)) → G.fp (.s i) = []
  ob : ∀ n b, G.O[n]? = some b → ∃ p, G.ad[n]? = some p ∧ RepO G.toHc b p (G.fp (.o n))
  on : ∀ n, G.O[n]? = none → G.fp (.o n) = []
  ln : G.ad.length = G.O.length

theorem RepO.at {c : Hc} {b : Ob} {p : Addr} {g : List Addr} (r : RepO c b p g) : c.H p ≠ none := by
  cases b with
  | lst xs => obtain ⟨vs, e, _⟩ := r; rw [e]; simp
  | ins C fs => obtain ⟨dx, vs, e, _⟩ := r; rw [e]; simp
theorem RepO.inH {c : Hc} {b : Ob} {p : Addr} {g : List Addr} (r : RepO c b p g) : ∀ a ∈ g, c.H a ≠ none := by
  cases b with
  | lst xs => obtain ⟨vs, e, d, _⟩ := r; exact Reps.inH _ _ _ d
  | ins C fs => obtain ⟨dx, vs, e, d, _⟩ := r; exact RepK.inH _ _ _ d
theorem RepO.ex {c c' : Hc} {b : Ob} {p : Addr} {g : List Addr} (e : Ex c c' (p :: g)) (r : RepO c b p g) : RepO c' b p g := by
  have e2 : Ex c c' g := e.mono fun _ m => List.mem_cons_of_mem _ m
  cases b with
  | lst xs => obtain ⟨vs, a, d, q⟩ := r; exact ⟨vs, e.h p (by simp) _ a, Reps.ex _ _ _ e2 d, q⟩
  | ins C fs =>
    obtain ⟨dx, vs, a, d, q⟩ := r
    exact ⟨dx, vs, by rw [e.ca]; exact e.h p (by simp) _ a, RepK.ex _ _ _ e2 d, q⟩
section
variable {K : PySem.W.Frag} {ca : Str → Addr} {σ : L2.St} {G : Gh}
theorem Good.fpH (g : Good K ca σ G) {k : Own} {a : Addr} (m : a ∈ G.fp k) : G.H a ≠ none := by
  cases k with
  | s i =>
    by_cases h : ∃ t, G.τ[i]? = some (some t)
    · obtain ⟨t, h⟩ := h
      obtain ⟨v, _, r⟩ := g.sl i t h
      exact Rep.inH _ _ _ r a m
    · rw [g.sn i fun t q => h ⟨t, q⟩] at m
      simp at m
  | o n =>
    cases h : G.O[n]? with
    | none => rw [g.on n h] at m; simp at m
    | some b =>
      obtain ⟨p, _, r⟩ := g.ob n b h
      exact r.inH a m
theorem Good.adH (g : Good K ca σ G) {a : Addr} (m : a ∈ G.ad) : G.H a ≠ none := by
  obtain ⟨n, hn, e⟩ := List.mem_iff_getElem.mp m
  have e2 : G.ad[n]? = some a := by rw [← e]; exact List.getElem?_eq_getElem hn
  have h2 : n < G.O.length := by rw [← g.ln]; exact hn
  obtain ⟨p, e3, r⟩ := g.ob n _ (List.getElem?_eq_getElem h2)
  rw [e2] at e3
  cases e3
  exact r.at
end

structure Step (ef : Bool) (G G' : Gh) : Prop where
  k : G'.K = G.K
  c : G'.ca = G.ca
  f : Same G.F G'.F
  p : Same G.P G'.P
  fnew : ∀ a o, G'.F a = some o → G.F a = some o ∨ G.H a = none ∨ ∃ k, a ∈ G.fp k
  pnew : ∀ a o, G'.P a = some o → G.P a = some o ∨ G.H a = none ∨ ∃ k, a ∈ G.fp k
  fr : ∀ a o, G.H a = some o → (∀ k, a ∉ G.fp k) → a ∉ G.ad → G'.H a = some o
  dom : ∀ a, G.H a ≠ none → G'.H a ≠ none
  ad : ∃ more, G'.ad = G.ad ++ more
  anew : ∀ a ∈ G'.ad, a ∈ G.ad ∨ G.H a = none ∨ ∃ k, a ∈ G.fp k
  gnew : ∀ k a, a ∈ G'.fp k → (∃ k', a ∈ G.fp k') ∨ G.H a = none
  q : ef = false → G'.τ = G.τ ∧ G'.O = G.O ∧ Same G.H G'.H ∧ G'.fp = G.fp ∧ G'.ad = G.ad
theorem Step.refl {ef : Bool} (G : Gh) : Step ef G G where
  k := rfl
  c := rfl
  f := Same.refl _
  p := Same.refl _
  fnew := fun _ _ e => .inl e
  pnew := fun _ _ e => .inl e
  fr := fun _ _ e _ _ => e
  dom := fun _ e => e
  ad := ⟨[], by simp⟩
  anew := fun _ m => .inl m
  gnew := fun k _ m => .inl ⟨k, m⟩
  q := fun _ => ⟨rfl, rfl, Same.refl _, rfl, rfl⟩
theorem Step.loud {ef : Bool} {G G' : Gh} (s : Step ef G G') : Step true G G' := { s with q := fun e => by cases e }
theorem Step.weak {ef ef' : Bool} {G G' : Gh} (s : Step ef G G') (h : ef' = false → ef = false) : Step ef' G G' := { s with q := fun e => s.q (h e) }
theorem Step.trans {e1 e2 : Bool} {G G1 G2 : Gh} (s : Step e1 G G1) (t : Step e2 G1 G2) : Step (e1 || e2) G G2 where
  k := t.k.trans s.k
  c := t.c.trans s.c
  f := s.f.trans t.f
  p := s.p.trans t.p
  fnew := fun a o e => by
    rcases t.fnew a o e with h | h | ⟨k, h⟩
    · exact s.fnew a o h
    · right; left
      by_cases q : G.H a = none
      · exact q
      · exact absurd h (s.dom a q)
    · rcases s.gnew k a h with ⟨k', h⟩ | h
      · exact .inr (.inr ⟨k', h⟩)
      · exact .inr (.inl h)
  pnew := fun a o e => by
    rcases t.pnew a o e with h | h | ⟨k, h⟩
    · exact s.pnew a o h
    · right; left
      by_cases q : G.H a = none
      · exact q
      · exact absurd h (s.dom a q)
    · rcases s.gnew k a h with ⟨k', h⟩ | h
      · exact .inr (.inr ⟨k', h⟩)
      · exact .inr (.inl h)
  fr := fun a o e hg ha => t.fr a o (s.fr a o e hg ha) (fun k m => by
    rcases s.gnew k a m with ⟨k', h⟩ | h
    · exact hg k' h
    · rw [e] at h; cases h) fun m => by
    rcases s.anew a m with h | h | ⟨k, h⟩
    · exact ha h
    · rw [e] at h; cases h
    · exact hg k h
  dom := fun a h => t.dom a (s.dom a h)
  ad := by
    obtain ⟨m1, h1⟩ := s.ad
    obtain ⟨m2, h2⟩ := t.ad
    exact ⟨m1 ++ m2, by rw [h2, h1, List.append_assoc]⟩
  anew := fun a m => by
    rcases t.anew a m with h | h | ⟨k, h⟩
    · exact s.anew a h
    · right; left
      by_cases q : G.H a = none
      · exact q
      · exact absurd h (s.dom a q)
    · rcases s.gnew k a h with ⟨k', h⟩ | h
      · exact .inr (.inr ⟨k', h⟩)
      · exact .inr (.inl h)
  gnew := fun k a m => by
    rcases t.gnew k a m with ⟨k', h⟩ | h
    · exact s.gnew k' a h
    · right
      by_cases q : G.H a = none
      · exact q
      · exact absurd h (s.dom a q)
  q := fun e => by
    obtain ⟨h1, h2⟩ := Bool.or_eq_false_iff.mp e
    obtain ⟨a1, a2, a3, a4, a5⟩ := s.q h1
    obtain ⟨b1, b2, b3, b4, b5⟩ := t.q h2
    exact ⟨b1.trans a1, b2.trans a2, a3.trans b3, b4.trans a4, b5.trans a5⟩

/-- a value that no slot holds: its nodes are its own -/
structure Tmp (G : Gh) (v : V) (t : T) (g : List Addr) : Prop where
  rep : Rep G.toHc t v g
  nd : g.Nodup
  out : ∀ a ∈ g, (∀ k, a ∉ G.fp k) ∧ a ∉ G.ad ∧ G.P a = none
/-- its nodes were none of the heap's, or a slot's -/
def New (G : Gh) (g : List Addr) : Prop := ∀ a ∈ g, G.H a = none ∨ ∃ k, a ∈ G.fp k
theorem New.nil {G : Gh} : New G [] := fun _ m => absurd m (by simp)
theorem New.step {ef : Bool} {G G' : Gh} {g : List Addr} (s : Step ef G G') (h : New G' g) : New G g := fun a m => by
  rcases h a m with h | ⟨k, h⟩
  · left
    by_cases q : G.H a = none
    · exact q
    · exact absurd h (s.dom a q)
  · rcases s.gnew k a h with ⟨k', h⟩ | h
    · exact .inr ⟨k', h⟩
    · exact .inl h
theorem Tmp.inH {G : Gh} {v : V} {t : T} {g : List Addr} (m : Tmp G v t g) {a : Addr} (h : a ∈ g) : G.H a ≠ none := Rep.inH _ _ _ m.rep a h
theorem Tmp.step {ef : Bool} {G G' : Gh} {v : V} {t : T} {g : List Addr} (m : Tmp G v t g) (s : Step ef G G') : Tmp G' v t g where
  rep := Rep.ex _ _ _ ⟨s.k, s.c, s.f, s.p, fun a h o e => s.fr a o e (m.out a h).1 (m.out a h).2.1, s.ad⟩ m.rep
  nd := m.nd
  out := fun a h => by
    have hH : G.H a ≠ none := m.inH h
    obtain ⟨h1, h2, h3⟩ := m.out a h
    refine ⟨fun k q => ?_, fun q => ?_, ?_⟩
    · rcases s.gnew k a q with ⟨k', z⟩ | z
      · exact h1 k' z
      · exact hH z
    · rcases s.anew a q with z | z | ⟨k, z⟩
      · exact h2 z
      · exact hH z
      · exact h1 k z
    · cases e : G'.P a with
      | none => rfl
      | some o =>
        rcases s.pnew a o e with z | z | ⟨k, z⟩
        · rw [h3] at z; cases z
        · exact absurd z hH
        · exact absurd z (h1 k)
/-- two temporaries, the later one new: apart -/
theorem Tmp.apart {G : Gh} {v : V} {t : T} {g g2 : List Addr} (m : Tmp G v t g) (n : New G g2) : ∀ a ∈ g, a ∉ g2 := fun a h h2 => by
  rcases n a h2 with q | ⟨k, q⟩
  · exact m.inH h q
  · exact (m.out a h).1 k q
/-- a value without nodes of its own -/
theorem Tmp.bare {G : Gh} {v : V} {t : T} (r : Rep G.toHc t v []) : Tmp G v t [] := ⟨r, List.nodup_nil, fun _ m => absurd m (by simp)⟩

/-! ### lifted readings -/
abbrev DE := SS → Option (T × SS)
abbrev DT := SS → Option (Bool × SS)
/-- how a statement ends -/
inductive Fl where
  | nx | rt (t : T) | bk | ct
abbrev DS := SS → Option (Fl × SS)
/-- an argument: a value, or a slot that is lent -/
inductive Arg where
  | tmp (t : T) | bor (i : Nat)
abbrev DA := SS → Option (List Arg × SS)
section
variable (K : PySem.W.Frag) (ca : Str → Addr)
def liftE (ef : Bool) (d : DE) : TE := fun σ H Q => ∃ G : Gh, G.H = H ∧ Good K ca σ G ∧ ∃ r S', d G.S = some (r, S') ∧
  ∀ G' v g, G'.S = S' → Good K ca σ G' → Step ef G G' → Tmp G' v r g → New G g → Q v G'.H
def liftT (ef : Bool) (d : DT) : TT := fun σ H Q => ∃ G : Gh, G.H = H ∧ Good K ca σ G ∧ ∃ b S', d G.S = some (b, S') ∧
  ∀ G', G'.S = S' → Good K ca σ G' → Step ef G G' → Q b G'.H
/-- the arguments at hand -/
def ArgAt (G : Gh) (σ : L2.St) : Arg → V → List Addr → Prop
  | .tmp t, v, g => Tmp G v t g
  | .bor i, v, g => σ[i]? = some (some v) ∧ g = []
/-- .. one behind the other, no two with a common node -/
def ArgsAt (G : Gh) (σ : L2.St) : List Arg → List V → List Addr → Prop
  | [], vs, g => vs = [] ∧ g = []
  | a :: as, vs, g => ∃ v r ga gb, vs = v :: r ∧ g = ga ++ gb ∧ ArgAt G σ a v ga ∧ ArgsAt G σ as r gb ∧ ∀ x ∈ ga, x ∉ gb
def liftA (ef : Bool) (d : DA) : TA := fun σ H Q => ∃ G : Gh, G.H = H ∧ Good K ca σ G ∧ ∃ as S', d G.S = some (as, S') ∧
  ∀ G' vs g, G'.S = S' → Good K ca σ G' → Step ef G G' → ArgsAt G' σ as vs g → New G g → Q vs G'.H
def liftS (d : DS) : TS := fun D σ H => ∃ G : Gh, G.H = H ∧ Good K ca σ G ∧ ∃ f S', d G.S = some (f, S') ∧
  ∀ G' σ', G'.S = S' → Good K ca σ' G' → Step true G G' → match f with
    | .nx => D.nx σ' G'.H
    | .bk => D.bk σ' G'.H
    | .ct => D.ct σ' G'.H
    | .rt t => ∀ v g, Tmp G' v t g → New G g → D.rt v G'.H
end
abbrev EX (ca : Str → Addr) (X : Cx) (e : Expr) (ef : Bool) (d : DE) : Prop := PE X e (liftE X.K ca ef d)
abbrev TX (ca : Str → Addr) (X : Cx) (e : Expr) (ef : Bool) (d : DT) : Prop := PT X e (liftT X.K ca ef d)
abbrev AX (ca : Str → Addr) (X : Cx) (es : List Expr) (ef : Bool) (d : DA) : Prop := PA X es (liftA X.K ca ef d)
abbrev SX (ca : Str → Addr) (X : Cx) (s : Stmt) (d : DS) : Prop := PS X s (liftS X.K ca d)
abbrev BX (ca : Str → Addr) (X : Cx) (s : List Stmt) (d : DS) : Prop := PSs X s (liftS X.K ca d)
theorem PE.imp {X : Cx} {e : Expr} {t t' : TE} (h : PE X e t) (i : ∀ σ H Q, t' σ H Q → t σ H Q) : PE X e t' := ⟨fun pins s σ H Q I w => h.run pins s σ H Q I (i σ H Q w)⟩
theorem PT.imp {X : Cx} {e : Expr} {t t' : TT} (h : PT X e t) (i : ∀ σ H Q, t' σ H Q → t σ H Q) : PT X e t' := ⟨fun pins s σ H Q I w => h.run pins s σ H Q I (i σ H Q w)⟩
theorem PW.imp {X : Cx} {e : Expr} {t t' : TT} (h : PW X e t) (i : ∀ σ H Q, t' σ H Q → t σ H Q) : PW X e t' := ⟨fun wh pins s σ H Q I w => h.run wh pins s σ H Q I (i σ H Q w)⟩
theorem PA.imp {X : Cx} {e : List Expr} {t t' : TA} (h : PA X e t) (i : ∀ σ H Q, t' σ H Q → t σ H Q) : PA X e t' := ⟨fun po pins s σ H Q I w => h.run po pins s σ H Q I (i σ H Q w)⟩
theorem PS.imp {X : Cx} {e : Stmt} {t t' : TS} (h : PS X e t) (i : ∀ D σ H, t' D σ H → t D σ H) : PS X e t' := ⟨fun pins s σ H D I w => h.run pins s σ H D I (i D σ H w)⟩
theorem PSs.imp {X : Cx} {e : List Stmt} {t t' : TS} (h : PSs X e t) (i : ∀ D σ H, t' D σ H → t D σ H) : PSs X e t' := ⟨fun pins s σ H D I w => h.run pins s σ H D I (i D σ H w)⟩

section
variable {K : PySem.W.Frag} {ca : Str → Addr}
/-- the argument list stays at a step -/
theorem ArgsAt.step {ef : Bool} {G G' : Gh} {σ : L2.St} (s : Step ef G G') : ∀ {as : List Arg} {vs : List V} {g : List Addr}, ArgsAt G σ as vs g → ArgsAt G' σ as vs g
  | [], _, _, h => h
  | a :: as, _, _, ⟨v, r, ga, gb, e1, e2, h, hr, d⟩ => ⟨v, r, ga, gb, e1, e2, by
      cases a with
      | tmp t => exact Tmp.step h s
      | bor i => exact h, ArgsAt.step s hr, d⟩
end
end TL

set_option Elab.async false
set_option linter.all false
set_option maxRecDepth 100000
/-! TL3: names, constants, values by values, tests, small statements. -/
namespace TL
open PySem PySem.Spec L2

/-! ### slots -/
def setS (S : SS) (i : Nat) (o : Option T) : SS := (S.1.set i o, S.2)
theorem setAt {α : Type} {l : List α} {i j : Nat} {x y : α} (h : (l.set i x)[j]? = some y) : (i = j ∧ y = x ∧ i < l.length) ∨ (i ≠ j ∧ l[j]? = some y) := by
  rw [List.getElem?_set] at h
  by_cases e : i = j
  · subst e
    rw [if_pos rfl] at h
    by_cases l' : i < l.length
    · rw [if_pos l'] at h
      exact .inl ⟨rfl, (Option.some.inj h).symm, l'⟩
    · rw [if_neg l'] at h; cases h
  · rw [if_neg e] at h
    exact .inr ⟨e, h⟩
section
variable {K : PySem.W.Frag} {ca : Str → Addr} {σ : L2.St} {G : Gh}
/-- the ghost with other trees in one slot -/
def Gh.put (G : Gh) (i : Nat) (o : Option T) (g : List Addr) : Gh := { G with τ := G.τ.set i o, fp := fun k => if k = .s i then g else G.fp k }
theorem Gh.put_s {G : Gh} {i : Nat} {o : Option T} {g : List Addr} : (G.put i o g).fp (.s i) = g := if_pos rfl
theorem Gh.put_ne {G : Gh} {i : Nat} {o : Option T} {g : List Addr} {k : Own} (h : k ≠ .s i) : (G.put i o g).fp k = G.fp k := if_neg h
/-- a slot's tree forgotten -/
theorem Good.drop (g : Good K ca σ G) (i : Nat) : Good K ca σ (G.put i none []) ∧ Step true G (G.put i none []) := by
  have sub : ∀ k a, a ∈ (G.put i none []).fp k → a ∈ G.fp k := fun k a m => by
    by_cases e : k = .s i
    · subst e; rw [Gh.put_s] at m; simp at m
    · rw [Gh.put_ne e] at m; exact m
  refine ⟨{ k := g.k, c := g.c, len := (List.length_set ..).trans g.len, fp := g.fp, ph := g.ph, nd := fun k => ?_, dj := fun k k' a m m' => g.dj k k' a (sub k a m) (sub k' a m'), pn := fun k a m => g.pn k a (sub k a m), adn := g.adn, adp := g.adp, ado := fun a m k q => g.ado a m k (sub k a q), sl := fun j t e => ?_, sn := fun j e => ?_, ob := fun n b e => ?_, on := fun n e => ?_, ln := g.ln },
    { Step.refl (ef := true) G with gnew := fun k a m => .inl ⟨k, sub k a m⟩, q := fun e => by cases e }⟩
  · by_cases e : k = .s i
    · subst e; rw [Gh.put_s]; exact List.nodup_nil
    · rw [Gh.put_ne e]; exact g.nd k
  · rcases setAt (show (G.τ.set i none)[j]? = some (some t) from e) with ⟨_, q, _⟩ | ⟨ne, q⟩
    · cases q
    · obtain ⟨v, a, r⟩ := g.sl j t q
      refine ⟨v, a, ?_⟩
      rw [Gh.put_ne (by intro z; cases z; exact ne rfl)]
      exact r
  · by_cases ej : j = i
    · subst ej; exact Gh.put_s
    · rw [Gh.put_ne (by intro z; cases z; exact ej rfl)]
      refine g.sn j fun t q => e t ?_
      show (G.τ.set i none)[j]? = _
      rw [List.getElem?_set_ne (Ne.symm ej)]
      exact q
  · obtain ⟨p, a, r⟩ := g.ob n b e
    exact ⟨p, a, by rw [Gh.put_ne (by intro z; cases z)]; exact r⟩
  · rw [Gh.put_ne (by intro z; cases z)]; exact g.on n e
/-- a temporary stored into a slot -/
theorem Good.store (g : Good K ca σ G) {i : Nat} {v : V} {t : T} {gt : List Addr} (hi : i < σ.length) (m : Tmp G v t gt) :
    Good K ca (σ.set i (some v)) (G.put i (some t) gt) ∧ (∀ G0 ef, Step ef G0 G → New G0 gt → Step true G0 (G.put i (some t) gt)) := by
  have sub : ∀ k a, a ∈ (G.put i (some t) gt).fp k → (k = .s i ∧ a ∈ gt) ∨ (k ≠ .s i ∧ a ∈ G.fp k) := fun k a q => by
    by_cases e : k = .s i
    · subst e; rw [Gh.put_s] at q; exact .inl ⟨rfl, q⟩
    · rw [Gh.put_ne e] at q; exact .inr ⟨e, q⟩
  have li : i < G.τ.length := by rw [g.len]; exact hi
  refine ⟨{ k := g.k, c := g.c, len := by rw [List.length_set]; exact (List.length_set ..).trans g.len, fp := g.fp, ph := g.ph, nd := fun k => ?_, dj := fun k k' a q q' => ?_, pn := fun k a q => ?_, adn := g.adn, adp := g.adp, ado := fun a ma k q => ?_, sl := fun j u e => ?_, sn := fun j e => ?_, ob := fun n b e => ?_, on := fun n e => ?_, ln := g.ln },
    fun G0 ef s n => { s with gnew := fun k a q => ?_, q := fun e => by cases e }⟩
  · by_cases e : k = .s i
    · subst e; rw [Gh.put_s]; exact m.nd
    · rw [Gh.put_ne e]; exact g.nd k
  · rcases sub k a q with ⟨e1, a1⟩ | ⟨e1, a1⟩ <;> rcases sub k' a q' with ⟨e2, a2⟩ | ⟨e2, a2⟩
    · rw [e1, e2]
    · exact absurd a2 ((m.out a a1).1 k')
    · exact absurd a1 ((m.out a a2).1 k)
    · exact g.dj k k' a a1 a2
  · rcases sub k a q with ⟨_, a1⟩ | ⟨_, a1⟩
    · exact (m.out a a1).2.2
    · exact g.pn k a a1
  · rcases sub k a q with ⟨_, a1⟩ | ⟨_, a1⟩
    · exact (m.out a a1).2.1 ma
    · exact g.ado a ma k a1
  · rcases setAt (show (G.τ.set i (some t))[j]? = some (some u) from e) with ⟨ej, q, _⟩ | ⟨ne, q⟩
    · subst ej
      cases q
      refine ⟨v, ?_, by rw [Gh.put_s]; exact m.rep⟩
      rw [List.getElem?_set_self hi]
    · obtain ⟨v', a, r⟩ := g.sl j u q
      refine ⟨v', by rw [List.getElem?_set_ne ne]; exact a, ?_⟩
      rw [Gh.put_ne (by intro z; cases z; exact ne rfl)]
      exact r
  · by_cases ej : j = i
    · subst ej
      exact absurd (show (G.τ.set j (some t))[j]? = some (some t) by rw [List.getElem?_set_self li]) (e t)
    · rw [Gh.put_ne (by intro z; cases z; exact ej rfl)]
      refine g.sn j fun u q => e u ?_
      show (G.τ.set i (some t))[j]? = _
      rw [List.getElem?_set_ne (Ne.symm ej)]
      exact q
  · obtain ⟨p, a, r⟩ := g.ob n b e
    exact ⟨p, a, by rw [Gh.put_ne (by intro z; cases z)]; exact r⟩
  · rw [Gh.put_ne (by intro z; cases z)]; exact g.on n e
  · rcases sub k a q with ⟨_, a1⟩ | ⟨_, a1⟩
    · rcases n a a1 with z | z
      · exact .inr z
      · exact .inl z
    · exact s.gnew k a a1
/-- a slot's tree taken out: a temporary -/
theorem Good.take (g : Good K ca σ G) {i : Nat} {t : T} (h : G.τ[i]? = some (some t)) : ∃ v, σ[i]? = some (some v) ∧ Tmp (G.put i none []) v t (G.fp (.s i)) ∧ New G (G.fp (.s i)) := by
  obtain ⟨v, a, r⟩ := g.sl i t h
  refine ⟨v, a, ⟨r, g.nd _, fun x m => ⟨fun k q => ?_, fun q => g.ado x q _ m, g.pn _ x m⟩⟩, fun x m => .inr ⟨_, m⟩⟩
  by_cases e : k = .s i
  · subst e; rw [Gh.put_s] at q; simp at q
  · rw [Gh.put_ne e] at q
    exact e (g.dj k _ x q m)
/-- a slot's tree without nodes of its own, copied -/
theorem Good.copy (g : Good K ca σ G) {i : Nat} {t : T} (h : G.τ[i]? = some (some t)) (n : t.noOw = true) : ∃ v, σ[i]? = some (some v) ∧ Tmp G v t [] := by
  obtain ⟨v, a, r⟩ := g.sl i t h
  have e := Rep.noOw _ _ _ n r
  rw [e] at r
  exact ⟨v, a, .bare r⟩
/-- nodes of one owner held for good from now on -/
def Gh.ice (G : Gh) (i : Nat) (t : T) : Gh := { G with F := plus G.F G.H (G.fp (.s i)), P := plus G.P G.H (G.fp (.s i)), τ := G.τ.set i (some t.frz), fp := fun k => if k = .s i then [] else G.fp k }
theorem Good.ice (g : Good K ca σ G) {i : Nat} {t : T} (h : G.τ[i]? = some (some t)) : ∃ v, σ[i]? = some (some v) ∧ Good K ca σ (G.ice i t) ∧ Step true G (G.ice i t) ∧ Tmp (G.ice i t) v t.frz [] := by
  obtain ⟨v, a, r⟩ := g.sl i t h
  have li : i < G.τ.length := (List.getElem?_eq_some_iff.mp h).1
  have fpne : ∀ {k}, k ≠ .s i → (G.ice i t).fp k = G.fp k := fun e => if_neg e
  have fps : (G.ice i t).fp (.s i) = [] := if_pos rfl
  have sub : ∀ k x, x ∈ (G.ice i t).fp k → k ≠ .s i ∧ x ∈ G.fp k := fun k x m => by
    by_cases e : k = .s i
    · subst e; rw [fps] at m; simp at m
    · rw [fpne e] at m; exact ⟨e, m⟩
  have FH : Same G.F G.H := g.fp.trans g.ph
  have ex : ∀ gg : List Addr, Ex G.toHc (G.ice i t).toHc gg := fun gg => ⟨rfl, rfl, plus_same FH, plus_same g.ph, fun _ _ _ e => e, ⟨[], by show G.ad = _; simp⟩⟩
  have rf : Rep (G.ice i t).toHc t.frz v [] := Rep.frz (c := G.toHc) (c' := (G.ice i t).toHc) t v (G.fp (.s i)) ⟨rfl, plus_same FH, plus_same g.ph, fun x m o e => by show plus G.F G.H _ x = _; rw [plus_in m]; exact e, fun _ _ e => e⟩ r
  refine ⟨v, a, { k := g.k, c := g.c, len := (List.length_set ..).trans g.len, fp := fun x o e => ?_, ph := plus_le g.ph, nd := fun k => ?_, dj := fun k k' x m m' => g.dj k k' x (sub k x m).2 (sub k' x m').2, pn := fun k x m => ?_, adn := g.adn, adp := fun x m => ?_, ado := fun x m k q => g.ado x m k (sub k x q).2, sl := fun j u e => ?_, sn := fun j e => ?_, ob := fun n b e => ?_, on := fun n e => ?_, ln := g.ln },
    { k := rfl, c := rfl, f := plus_same FH, p := plus_same g.ph, fnew := fun x o e => ?_, pnew := fun x o e => ?_, fr := fun _ _ e _ _ => e, dom := fun _ e => e, ad := ⟨[], by show G.ad = _; simp⟩, anew := fun _ m => .inl m, gnew := fun k x m => .inl ⟨k, (sub k x m).2⟩, q := fun e => by cases e }, .bare rf⟩
  · show plus G.P G.H _ x = _
    by_cases m : x ∈ G.fp (.s i)
    · rw [plus_in m]
      have e2 : plus G.F G.H (G.fp (.s i)) x = some o := e
      rw [plus_in m] at e2; exact e2
    · rw [plus_out m]
      have e2 : plus G.F G.H (G.fp (.s i)) x = some o := e
      rw [plus_out m] at e2; exact g.fp x o e2
  · by_cases e : k = .s i
    · subst e; rw [fps]; exact List.nodup_nil
    · rw [fpne e]; exact g.nd k
  · obtain ⟨ne, m2⟩ := sub k x m
    show plus G.P G.H _ x = none
    rw [plus_out fun z => ne (g.dj k _ x m2 z)]
    exact g.pn k x m2
  · show plus G.P G.H _ x = none
    rw [plus_out fun z => g.ado x m _ z]
    exact g.adp x m
  · rcases setAt (show (G.τ.set i (some t.frz))[j]? = some (some u) from e) with ⟨ej, q, _⟩ | ⟨ne, q⟩
    · subst ej
      cases q
      exact ⟨v, a, by rw [fps]; exact rf⟩
    · obtain ⟨v', a', r'⟩ := g.sl j u q
      refine ⟨v', a', ?_⟩
      rw [fpne (by intro z; cases z; exact ne rfl)]
      exact Rep.ex _ _ _ (ex _) r'
  · by_cases ej : j = i
    · subst ej; exact fps
    · rw [fpne (by intro z; cases z; exact ej rfl)]
      refine g.sn j fun u q => e u ?_
      show (G.τ.set i (some t.frz))[j]? = _
      rw [List.getElem?_set_ne (Ne.symm ej)]
      exact q
  · obtain ⟨p, a', r'⟩ := g.ob n b e
    exact ⟨p, a', by rw [fpne (by intro z; cases z)]; exact r'.ex (ex _)⟩
  · rw [fpne (by intro z; cases z)]; exact g.on n e
  · have e2 : plus G.F G.H (G.fp (.s i)) x = some o := e
    by_cases m : x ∈ G.fp (.s i)
    · exact .inr (.inr ⟨_, m⟩)
    · rw [plus_out m] at e2; exact .inl e2
  · have e2 : plus G.P G.H (G.fp (.s i)) x = some o := e
    by_cases m : x ∈ G.fp (.s i)
    · exact .inr (.inr ⟨_, m⟩)
    · rw [plus_out m] at e2; exact .inl e2
end

/-! ### mirrors -/
def slot (S : SS) (i : Nat) : Option T := (S.1[i]?).join
theorem slot_some {S : SS} {i : Nat} {t : T} (h : slot S i = some t) : S.1[i]? = some (some t) := by
  unfold slot at h
  cases e : S.1[i]? with
  | none => rw [e] at h; cases h
  | some o => rw [e] at h; exact congrArg some h
def dC (t : T) : DE := fun S => some (t, S)
def dGet (i : Nat) : DE := fun S => (slot S i).bind fun t => if t.noOw then some (t, S) else none
def dMov (i : Nat) : DE := fun S => (slot S i).bind fun t => some (t, setS S i none)
def dFrz (i : Nat) : DE := fun S => (slot S i).bind fun t => some (t.frz, setS S i (some t.frz))
abbrev DO := SS → Option (Arg × SS)
def oTmp (d : DE) : DO := fun S => (d S).bind fun p => some (.tmp p.1, p.2)
def oBor (i : Nat) : DO := fun S => some (.bor i, S)
/-- a list that a handle stands for, looked at as a list -/
def view (S : SS) : T → T
  | .hnd n => match S.2[n]? with
    | some (.lst xs) => .lst .ow xs
    | _ => .hnd n
  | t => t
def Arg.raw (S : SS) : Arg → Option T
  | .tmp t => some t
  | .bor i => slot S i
def Arg.res (S : SS) (a : Arg) : Option T := (a.raw S).bind fun t => some (view S t)
def d1 (f : T → Option T) (a : DO) : DE := fun S => (a S).bind fun p => (p.1.res p.2).bind fun x => (f x).bind fun z => some (z, p.2)
def d2 (f : T → T → Option T) (a b : DO) : DE := fun S => (a S).bind fun p => (b p.2).bind fun q => (p.1.res q.2).bind fun x => (q.1.res q.2).bind fun y => (f x y).bind fun z => some (z, q.2)
def tOf (d : DE) : DT := fun S => (d S).bind fun p => match p.1 with
  | .bl b => some (b, p.2)
  | _ => none
section
variable (K : PySem.W.Frag) (ca : Str → Addr)
def liftO (ef : Bool) (d : DO) : TE := fun σ H Q => ∃ G : Gh, G.H = H ∧ Good K ca σ G ∧ ∃ a S', d G.S = some (a, S') ∧
  ∀ G' v g, G'.S = S' → Good K ca σ G' → Step ef G G' → ArgAt G' σ a v g → New G g → Q v G'.H
end
abbrev OX (ca : Str → Addr) (X : Cx) (e : Expr) (ef : Bool) (d : DO) : Prop := PE X e (liftO X.K ca ef d)
section
variable {X : Cx} {ca : Str → Addr} {e a b : Expr} {ef ea eb : Bool} {pos : Pos}
theorem ex_of {d : DE} {v : V} {t : T} (h : PE X e (tC v)) (hd : d = dC t) (r : ∀ c : Hc, Rep c t v []) : EX ca X e false d := PE.imp h fun σ H Q w => by
  obtain ⟨G, rfl, g, r', S', e1, k⟩ := w
  rw [hd] at e1
  cases e1
  exact k G v [] rfl g (Step.refl _) (.bare (r _)) New.nil
theorem ex_int {i : Int} {j : Nat} : EX ca X (.Constant (.int i) j pos) false (dC (.int i)) := ex_of pe_int rfl fun _ => ⟨rfl, rfl⟩
theorem ex_bl {i : Bool} {j : Nat} : EX ca X (.Constant (.bool i) j pos) false (dC (.bl i)) := ex_of pe_bl rfl fun _ => ⟨rfl, rfl⟩
theorem ex_non {j : Nat} : EX ca X (.Constant .none j pos) false (dC .non) := ex_of pe_non rfl fun _ => ⟨rfl, rfl⟩
theorem ex_str {x : Str} {j : Nat} : EX ca X (.Constant (.str x) j pos) false (dC (.str x)) := ex_of pe_str rfl fun _ => ⟨rfl, rfl⟩
theorem ex_get {i : Nat} (h : PE X e (tVar i)) : EX ca X e false (dGet i) := PE.imp h fun σ H Q w => by
  obtain ⟨G, rfl, g, r, S', e1, k⟩ := w
  obtain ⟨t, h1, h2⟩ := Option.bind_eq_some_iff.mp e1
  split at h2
  · rename_i n
    cases h2
    obtain ⟨v, e2, m⟩ := g.copy (slot_some h1) n
    exact ⟨v, e2, k G v [] rfl g (Step.refl _) m New.nil⟩
  · cases h2
theorem ex_mov {i : Nat} (h : PE X e (tVar i)) : EX ca X e true (dMov i) := PE.imp h fun σ H Q w => by
  obtain ⟨G, rfl, g, r, S', e1, k⟩ := w
  obtain ⟨t, h1, h2⟩ := Option.bind_eq_some_iff.mp e1
  cases h2
  obtain ⟨v, e2, m, n⟩ := g.take (slot_some h1)
  obtain ⟨g2, s2⟩ := g.drop i
  exact ⟨v, e2, k (G.put i none []) v _ rfl g2 s2 m n⟩
theorem ex_frz {i : Nat} (h : PE X e (tVar i)) : EX ca X e true (dFrz i) := PE.imp h fun σ H Q w => by
  obtain ⟨G, rfl, g, r, S', e1, k⟩ := w
  obtain ⟨t, h1, h2⟩ := Option.bind_eq_some_iff.mp e1
  cases h2
  obtain ⟨v, e2, g2, s2, m⟩ := g.ice (slot_some h1)
  exact ⟨v, e2, k (G.ice i t) v [] rfl g2 s2 m New.nil⟩
theorem ox_tmp {d : DE} (h : EX ca X e ef d) : OX ca X e ef (oTmp d) := PE.imp h fun σ H Q w => by
  obtain ⟨G, rfl, g, r, S', e1, k⟩ := w
  obtain ⟨p, h1, h2⟩ := Option.bind_eq_some_iff.mp e1
  cases h2
  exact ⟨G, rfl, g, p.1, p.2, h1, fun G' v gg a1 a2 a3 a4 a5 => k G' v gg a1 a2 a3 a4 a5⟩
/-- a slot looked at; a slot that bears nothing is none to be looked at -/
theorem ox_bor {i : Nat} (h : PE X e (tVar i)) : OX ca X e false (fun S => (slot S i).bind fun _ => oBor i S) := PE.imp h fun σ H Q w => by
  obtain ⟨G, rfl, g, r, S', e1, k⟩ := w
  obtain ⟨t, h1, h2⟩ := Option.bind_eq_some_iff.mp e1
  cases h2
  obtain ⟨v, e2, _⟩ := g.sl i t (slot_some h1)
  exact ⟨v, e2, k G v [] rfl g (Step.refl _) ⟨e2, rfl⟩ New.nil⟩
/-- what a value is, looked at -/
theorem Rep.view {K : PySem.W.Frag} {σ : L2.St} {G : Gh} {v : V} {g : List Addr} {t : T} (gd : Good K ca σ G) (r : Rep G.toHc t v g) : ∃ gt, Rep G.toHc (view G.S t) v gt := by
  cases t with
  | hnd n =>
    cases hx : G.O[n]? with
    | none =>
      have e : TL.view G.S (.hnd n) = .hnd n := by show (match G.O[n]? with | some (.lst xs) => T.lst .ow xs | _ => .hnd n) = _; rw [hx]
      rw [e]
      exact ⟨g, r⟩
    | some b =>
      cases b with
      | ins c fs =>
        have e : TL.view G.S (.hnd n) = .hnd n := by show (match G.O[n]? with | some (.lst xs) => T.lst .ow xs | _ => .hnd n) = _; rw [hx]
        rw [e]
        exact ⟨g, r⟩
      | lst xs =>
        have e : TL.view G.S (.hnd n) = .lst .ow xs := by show (match G.O[n]? with | some (.lst xs) => T.lst .ow xs | _ => .hnd n) = _; rw [hx]
        rw [e]
        obtain ⟨p, rfl, hp, _⟩ := r
        obtain ⟨q, hq, vs, hv, rr, _⟩ := gd.ob n (.lst xs) hx
        have hp : G.ad[n]? = some p := hp
        rw [hp] at hq
        cases hq
        exact ⟨p :: G.fp (.o n), p, vs, _, rfl, hv, rr, rfl⟩
  | _ => exact ⟨g, r⟩
theorem ArgAt.rep {K : PySem.W.Frag} {σ : L2.St} {G : Gh} {arg : Arg} {v : V} {g : List Addr} {t : T} (gd : Good K ca σ G) (h : ArgAt G σ arg v g) (r : arg.res G.S = some t) : ∃ gt, Rep G.toHc t v gt := by
  obtain ⟨u, e1, e2⟩ := Option.bind_eq_some_iff.mp r
  cases e2
  cases arg with
  | tmp u =>
    cases e1
    exact Rep.view gd (Tmp.rep h)
  | bor i =>
    obtain ⟨v', e, r'⟩ := gd.sl i u (slot_some e1)
    rw [h.1] at e
    cases e
    exact Rep.view gd r'
/-- what a two-place operation asks, by trees -/
def Op2 (X : Cx) (ca : Str → Addr) (r : R2) (f : T → T → Option T) : Prop := ∀ (σ : L2.St) (G : Gh) (x y z : T) (v w : V) (gx gy : List Addr) (Q : VK), Good X.K ca σ G → Rep G.toHc x v gx → Rep G.toHc y w gy → f x y = some z →
  (∀ G' u g, G'.S = G.S → Good X.K ca σ G' → Step false G G' → Tmp G' u z g → New G g → Q u G'.H) → r v w G.H Q
def Op1 (X : Cx) (ca : Str → Addr) (r : V → Hp → VK → Prop) (f : T → Option T) : Prop := ∀ (σ : L2.St) (G : Gh) (x z : T) (v : V) (gx : List Addr) (Q : VK), Good X.K ca σ G → Rep G.toHc x v gx → f x = some z →
  (∀ G' u g, G'.S = G.S → Good X.K ca σ G' → Step false G G' → Tmp G' u z g → New G g → Q u G'.H) → r v G.H Q
theorem bin_of {r : R2} {f : T → T → Option T} {da db : DO} (o : Op2 X ca r f) {σ : L2.St} {H : Hp} {Q : VK} (w : liftE X.K ca (ea || eb) (d2 f da db) σ H Q) :
    liftO X.K ca ea da σ H fun x H1 => liftO X.K ca eb db σ H1 fun y H2 => r x y H2 Q := by
  obtain ⟨G, rfl, g, z, S', e1, k⟩ := w
  obtain ⟨p, h1, e1⟩ := Option.bind_eq_some_iff.mp e1
  obtain ⟨q, h2, e1⟩ := Option.bind_eq_some_iff.mp e1
  obtain ⟨x, h3, e1⟩ := Option.bind_eq_some_iff.mp e1
  obtain ⟨y, h4, e1⟩ := Option.bind_eq_some_iff.mp e1
  obtain ⟨z', h5, e1⟩ := Option.bind_eq_some_iff.mp e1
  cases e1
  refine ⟨G, rfl, g, p.1, p.2, h1, fun G1 v gv a1 a2 a3 a4 a5 => ⟨G1, rfl, a2, q.1, q.2, by rw [a1]; exact h2, fun G2 w gw b1 b2 b3 b4 b5 => ?_⟩⟩
  have a4' : ArgAt G2 σ p.1 v gv := by
    cases hp : p.1 with
    | tmp t => rw [hp] at a4; exact Tmp.step a4 b3
    | bor i => rw [hp] at a4; exact a4
  obtain ⟨g1, r1⟩ := a4'.rep b2 (by rw [b1]; exact h3)
  obtain ⟨g2, r2⟩ := b4.rep b2 (by rw [b1]; exact h4)
  exact o σ G2 x y z v w g1 g2 Q b2 r1 r2 h5 fun G' u gu c1 c2 c3 c4 c5 => k G' u gu (c1.trans b1) c2 (((a3.trans b3).trans c3).weak fun e => by rw [e]; rfl) c4 (New.step (a3.trans b3) c5)
theorem un_of {r : V → Hp → VK → Prop} {f : T → Option T} {da : DO} (o : Op1 X ca r f) {σ : L2.St} {H : Hp} {Q : VK} (w : liftE X.K ca ea (d1 f da) σ H Q) :
    liftO X.K ca ea da σ H fun x H1 => r x H1 Q := by
  obtain ⟨G, rfl, g, z, S', e1, k⟩ := w
  obtain ⟨p, h1, e1⟩ := Option.bind_eq_some_iff.mp e1
  obtain ⟨x, h3, e1⟩ := Option.bind_eq_some_iff.mp e1
  obtain ⟨z', h5, e1⟩ := Option.bind_eq_some_iff.mp e1
  cases e1
  refine ⟨G, rfl, g, p.1, p.2, h1, fun G1 v gv a1 a2 a3 a4 a5 => ?_⟩
  obtain ⟨g1, r1⟩ := a4.rep a2 (by rw [a1]; exact h3)
  exact o σ G1 x z v g1 Q a2 r1 h5 fun G' u gu c1 c2 c3 c4 c5 => k G' u gu (c1.trans a1) c2 ((a3.trans c3).weak fun e => by rw [e]; rfl) c4 (New.step a3 c5)
theorem ex_op {op : Operator} {r : R2} {f : T → T → Option T} {da db : DO} (ho : OpR X (binaryOp op) r) (o : Op2 X ca r f) (ha : OX ca X a ea da) (hb : OX ca X b eb db) : EX ca X (.BinOp a op b pos) (ea || eb) (d2 f da db) :=
  PE.imp (pe_op ho ha hb) fun σ H Q w => bin_of o w
theorem ex_un {op : UnaryOp} {r : V → Hp → VK → Prop} {f : T → Option T} {da : DO} (ho : UnR X (unaryOp op) r) (o : Op1 X ca r f) (ha : OX ca X a ea da) : EX ca X (.UnaryOp op a pos) ea (d1 f da) :=
  PE.imp (pe_un ho ha) fun σ H Q w => un_of o w
theorem ex_cmp {op : CmpOp} {r : R2} {f : T → T → Option T} {da db : DO} (ho : OpR X (compareOp op) r) (o : Op2 X ca r f) (ha : OX ca X a ea da) (hb : OX ca X b eb db) (hm : behindInMarks op b = false) : EX ca X (.Compare a [op] [b] pos) (ea || eb) (d2 f da db) :=
  PE.imp (pe_cmpR ho ha hb hm) fun σ H Q w => bin_of o w
/-- an expression whose value is a bool, as a test: through the reading that a test has -/
theorem liftT_of {d : DE} {σ : L2.St} {H : Hp} {Q : Bool → Hp → Prop} (w : liftT X.K ca ef (tOf d) σ H Q) : liftE X.K ca ef d σ H fun x H' => ∃ k, x = .bl k ∧ Q k H' := by
  obtain ⟨G, rfl, g, b, S', e1, k⟩ := w
  obtain ⟨p, h1, e1⟩ := Option.bind_eq_some_iff.mp e1
  refine ⟨G, rfl, g, p.1, p.2, h1, fun G1 v gv a1 a2 a3 a4 a5 => ?_⟩
  split at e1
  · rename_i b' hb
    cases e1
    have r := a4.rep
    rw [hb] at r
    exact ⟨b, r.1, k G1 a1 a2 a3⟩
  · cases e1
theorem tx_cmp {op : CmpOp} {r : R2} {f : T → T → Option T} {da db : DO} (ho : OpR X (compareOp op) r) (o : Op2 X ca r f) (ha : OX ca X a ea da) (hb : OX ca X b eb db) (hm : behindInMarks op b = false) : TX ca X (.Compare a [op] [b] pos) (ea || eb) (tOf (d2 f da db)) :=
  PT.imp (pt_cmpR ho ha hb hm) fun σ H Q w => bin_of o (liftT_of w)
theorem tx_val {d : DE} (h : EX ca X e ef d) (he : ∀ whole, isTrue e X.env whole = (do let v ← whole; standAt e.pos; holding [v] (truthy v)) := by intro _; rfl) : TX ca X e ef (tOf d) :=
  PT.imp (pt_val h he) fun σ H Q w => liftT_of w
end
end TL

set_option Elab.async false
set_option linter.all false
set_option maxRecDepth 100000
/-! TL4: new objects; operators by trees. -/
namespace TL
open PySem PySem.Spec L2

section
variable {K : PySem.W.Frag} {ca : Str → Addr} {σ : L2.St} {G : Gh} {p : Addr} {o : HO}
theorem same_upd {H : Hp} {p : Addr} {o : HO} (h : H p = none) : Same H (upd H p o) := fun a u e => by rw [upd_ne (ne_of_none e h)]; exact e
def Gh.newH (G : Gh) (p : Addr) (o : HO) : Gh := { G with H := upd G.H p o }
def Gh.newF (G : Gh) (p : Addr) (o : HO) : Gh := { G with F := upd G.F p o, P := upd G.P p o, H := upd G.H p o }
theorem Good.newH (g : Good K ca σ G) (hp : G.H p = none) : Good K ca σ (G.newH p o) ∧ Step false G (G.newH p o) := by
  have sm : Same G.H (upd G.H p o) := same_upd hp
  have ex : ∀ gg : List Addr, Ex G.toHc (G.newH p o).toHc gg := fun gg => ⟨rfl, rfl, Same.refl _, Same.refl _, fun a _ u e => sm a u e, ⟨[], by show G.ad = _; simp⟩⟩
  refine ⟨{ g with ph := g.ph.trans sm, sl := fun i t e => ?_, ob := fun n b e => ?_ },
    { Step.refl (ef := false) G with fr := fun a u e _ _ => sm a u e, dom := fun a h e => ?_, q := fun _ => ⟨rfl, rfl, sm, rfl, rfl⟩ }⟩
  · obtain ⟨v, a, r⟩ := g.sl i t e
    exact ⟨v, a, Rep.ex _ _ _ (ex _) r⟩
  · obtain ⟨q, a, r⟩ := g.ob n b e
    exact ⟨q, a, r.ex (ex _)⟩
  · cases q : G.H a with
    | none => exact h q
    | some u => rw [show (G.newH p o).H a = some u from sm a u q] at e; cases e
theorem Good.newF (g : Good K ca σ G) (hp : G.H p = none) : Good K ca σ (G.newF p o) ∧ Step false G (G.newF p o) := by
  have hP : G.P p = none := g.ph.free hp
  have hF : G.F p = none := g.fp.free hP
  have sm : Same G.H (upd G.H p o) := same_upd hp
  have sF : Same G.F (upd G.F p o) := same_upd hF
  have sP : Same G.P (upd G.P p o) := same_upd hP
  have ex : ∀ gg : List Addr, Ex G.toHc (G.newF p o).toHc gg := fun gg => ⟨rfl, rfl, sF, sP, fun a _ u e => sm a u e, ⟨[], by show G.ad = _; simp⟩⟩
  have both : ∀ {A B : Hp}, Same A B → Same (upd A p o) (upd B p o) := fun {A B} s a u e => by
    by_cases q : a = p
    · subst q; rw [upd_same] at e ⊢; exact e
    · rw [upd_ne q] at e ⊢; exact s a u e
  have nw : ∀ {A : Hp} {a : Addr} {u : HO}, upd A p o a = some u → A a = some u ∨ G.H a = none := fun {A a u} e => by
    by_cases q : a = p
    · subst q; exact .inr hp
    · rw [upd_ne q] at e; exact .inl e
  refine ⟨{ g with fp := both g.fp, ph := both g.ph, pn := fun k a m => ?_, adp := fun a m => ?_, sl := fun i t e => ?_, ob := fun n b e => ?_ },
    { Step.refl (ef := false) G with f := sF, p := sP, fnew := fun a u e => (nw e).imp id .inl, pnew := fun a u e => (nw e).imp id .inl, fr := fun a u e _ _ => sm a u e, dom := fun a h e => ?_, q := fun _ => ⟨rfl, rfl, sm, rfl, rfl⟩ }⟩
  · have e : a ≠ p := fun z => g.fpH m (by rw [z]; exact hp)
    show upd G.P p o a = none
    rw [upd_ne e]; exact g.pn k a m
  · have e : a ≠ p := fun z => g.adH m (by rw [z]; exact hp)
    show upd G.P p o a = none
    rw [upd_ne e]; exact g.adp a m
  · obtain ⟨v, a, r⟩ := g.sl i t e
    exact ⟨v, a, Rep.ex _ _ _ (ex _) r⟩
  · obtain ⟨q, a, r⟩ := g.ob n b e
    exact ⟨q, a, r.ex (ex _)⟩
  · cases q : G.H a with
    | none => exact h q
    | some u => rw [show (G.newF p o).H a = some u from sm a u q] at e; cases e
/-- a new list, a new dict, over values that are apart already -/
theorem Good.newL (g : Good K ca σ G) (hp : G.H p = none) {ts : List T} {vs : List V} {gs : List Addr} (r : Reps G.toHc ts vs gs) (nd : gs.Nodup) (out : ∀ a ∈ gs, (∀ k, a ∉ G.fp k) ∧ a ∉ G.ad ∧ G.P a = none) :
    Tmp (G.newH p (.lst vs)) (.ref p) (.lst .ow ts) (p :: gs) := by
  have sm : Same G.H (upd G.H p (.lst vs)) := same_upd hp
  refine ⟨⟨p, vs, gs, rfl, upd_same, Reps.ex (c := G.toHc) _ _ _ ⟨rfl, rfl, Same.refl _, Same.refl _, fun a _ u e => sm a u e, ⟨[], by show G.ad = _; simp⟩⟩ r, rfl⟩, ?_, fun a m => ?_⟩
  · refine List.nodup_cons.mpr ⟨fun m => Reps.inH _ _ _ r p m hp, nd⟩
  · rcases List.mem_cons.mp m with e | m
    · subst e
      exact ⟨fun k m => g.fpH m hp, fun m => g.adH m hp, g.ph.free hp⟩
    · exact out a m
theorem Good.newT (g : Good K ca σ G) (hp : G.H p = none) {ts : List T} {vs : List V} {gs : List Addr} (r : Reps G.toHc ts vs gs) (nd : gs.Nodup) (out : ∀ a ∈ gs, (∀ k, a ∉ G.fp k) ∧ a ∉ G.ad ∧ G.P a = none) :
    Tmp (G.newF p (.tup vs)) (.ref p) (.tup ts) gs := by
  have hP : G.P p = none := g.ph.free hp
  have hF : G.F p = none := g.fp.free hP
  have sm : Same G.H (upd G.H p (.tup vs)) := same_upd hp
  refine ⟨⟨p, vs, rfl, SqT.of upd_same, Reps.ex (c := G.toHc) _ _ _ ⟨rfl, rfl, same_upd hF, same_upd hP, fun a _ u e => sm a u e, ⟨[], by show G.ad = _; simp⟩⟩ r⟩, nd, fun a m => ?_⟩
  obtain ⟨a1, a2, a3⟩ := out a m
  refine ⟨a1, a2, ?_⟩
  show upd G.P p _ a = none
  rw [upd_ne fun z => Reps.inH _ _ _ r a m (by rw [z]; exact hp)]
  exact a3
theorem New.cons {G : Gh} {p : Addr} {gs : List Addr} (hp : G.H p = none) (n : New G gs) : New G (p :: gs) := fun a m => by
  rcases List.mem_cons.mp m with e | m
  · subst e; exact .inl hp
  · exact n a m
end

/-! ### looking at trees -/
section
variable {c : Hc}
theorem Reps.len : ∀ {ts : List T} {vs : List V} {g : List Addr}, Reps c ts vs g → vs.length = ts.length
  | [], _, _, ⟨a, _⟩ => by rw [a]; rfl
  | t :: ts, _, _, ⟨v, r, ga, gb, a, _, _, q⟩ => by rw [a, List.length_cons, List.length_cons, Reps.len q]
theorem Reps.get : ∀ {ts : List T} {vs : List V} {g : List Addr} {i : Nat} {t : T}, Reps c ts vs g → ts[i]? = some t → ∃ v gt, vs[i]? = some v ∧ Rep c t v gt ∧ ∀ a ∈ gt, a ∈ g
  | [], _, _, _, _, _, e => by simp at e
  | u :: ts, _, _, 0, t, ⟨v, r, ga, gb, a, b, d, _⟩, e => by
    simp at e; subst e
    exact ⟨v, ga, by rw [a]; rfl, d, fun x m => by rw [b]; exact List.mem_append_left _ m⟩
  | u :: ts, _, _, i + 1, t, ⟨v, r, ga, gb, a, b, _, q⟩, e => by
    obtain ⟨v', gt, e1, e2, e3⟩ := Reps.get (i := i) (t := t) q (by simpa using e)
    exact ⟨v', gt, by rw [a]; simpa using e1, e2, fun x m => by rw [b]; exact List.mem_append_right _ (e3 x m)⟩
/-- a list, however it is held -/
theorem Rep.lstL {m : Mk} {ts : List T} {v : V} {g : List Addr} (fp : Same c.F c.P) (ph : Same c.P c.H) (r : Rep c (.lst m ts) v g) : ∃ p vs gs, v = .ref p ∧ SqL c.K c.H p vs ∧ Reps c ts vs gs ∧ (m ≠ .sc → c.H p = some (.lst vs)) ∧ ∀ a ∈ gs, a ∈ g := by
  cases m with
  | sc => obtain ⟨p, vs, a, b, d, q⟩ := r; exact ⟨p, vs, [], a, sqL_same (fp.trans ph) b, d, fun h => absurd rfl h, fun _ m => absurd m (by simp)⟩
  | fz => obtain ⟨p, vs, a, b, d, q⟩ := r; exact ⟨p, vs, [], a, SqL.of (ph _ _ (fp _ _ b)), d, fun _ => ph _ _ (fp _ _ b), fun _ m => absurd m (by simp)⟩
  | br => obtain ⟨p, vs, a, b, d, q⟩ := r; exact ⟨p, vs, [], a, SqL.of (ph _ _ b), d, fun _ => ph _ _ b, fun _ m => absurd m (by simp)⟩
  | ow => obtain ⟨p, vs, gs, a, b, d, q⟩ := r; exact ⟨p, vs, gs, a, SqL.of b, d, fun _ => b, fun _ m => by rw [q]; exact List.mem_cons_of_mem _ m⟩
theorem Rep.tupT {ts : List T} {v : V} {g : List Addr} (fp : Same c.F c.P) (ph : Same c.P c.H) (r : Rep c (.tup ts) v g) : ∃ p vs, v = .ref p ∧ SqT c.K c.H p vs ∧ Reps c ts vs g := by
  obtain ⟨p, vs, a, b, d⟩ := r
  exact ⟨p, vs, a, sqT_same (fp.trans ph) b, d⟩
theorem Reps.append : ∀ {ts us : List T} {vs ws : List V} {g g' : List Addr}, Reps c ts vs g → Reps c us ws g' → Reps c (ts ++ us) (vs ++ ws) (g ++ g')
  | [], _, _, _, _, _, ⟨a, b⟩, h => by rw [a, b]; exact h
  | t :: ts, us, _, ws, _, g', ⟨v, r, ga, gb, a, b, d, q⟩, h => ⟨v, r ++ ws, ga, gb ++ g', by rw [a, List.cons_append], by rw [b, List.append_assoc], d, Reps.append q h⟩
theorem Reps.bare {ts : List T} {vs : List V} {g : List Addr} (r : Reps c ts vs g) (n : noOws ts = true) : Reps c ts vs [] := by
  have e := Reps.noOw _ _ _ n r
  rw [e] at r
  exact r
theorem noOws_app : ∀ {a b : List T}, noOws a = true → noOws b = true → noOws (a ++ b) = true
  | [], _, _, h => h
  | t :: a, b, h, h' => by
    have h2 := Bool.and_eq_true_iff.mp (show (t.noOw && noOws a) = true from h)
    exact Bool.and_eq_true_iff.mpr ⟨h2.1, noOws_app h2.2 h'⟩
theorem noOws_mem : ∀ {a : List T} {t : T}, noOws a = true → t ∈ a → t.noOw = true
  | [], _, _, m => absurd m (by simp)
  | u :: a, t, h, m => by
    have h2 := Bool.and_eq_true_iff.mp (show (u.noOw && noOws a) = true from h)
    rcases List.mem_cons.mp m with e | m
    · rw [e]; exact h2.1
    · exact noOws_mem h2.2 m
theorem noOws_of : ∀ {a : List T}, (∀ t ∈ a, t.noOw = true) → noOws a = true
  | [], _ => rfl
  | u :: a, h => Bool.and_eq_true_iff.mpr ⟨h u (by simp), noOws_of fun t m => h t (by simp [m])⟩
theorem Reps.sub {ts : List T} {vs : List V} {g : List Addr} (r : Reps c ts vs g) (n : noOws ts = true) : ∀ {us : List T} {ws : List V}, us.length = ws.length → (∀ (i : Nat) (u : T) (w : V), us[i]? = some u → ws[i]? = some w → ∃ j : Nat, ts[j]? = some u ∧ vs[j]? = some w) → Reps c us ws []
  | [], [], _, _ => ⟨rfl, rfl⟩
  | [], _ :: _, e, _ => by simp at e
  | _ :: _, [], e, _ => by simp at e
  | u :: us, w :: ws, e, h => by
    obtain ⟨j, e1, e2⟩ := h 0 u w rfl rfl
    obtain ⟨v, gt, e3, e4, _⟩ := r.get e1
    rw [e2] at e3
    cases e3
    have e5 := Rep.noOw _ _ _ (noOws_mem n (List.mem_of_getElem? e1)) e4
    rw [e5] at e4
    exact ⟨w, ws, [], [], rfl, rfl, e4, Reps.sub r n (by simpa using e) fun i u' w' a b => h (i + 1) u' w' (by simpa using a) (by simpa using b)⟩
theorem Reps.take (n : Nat) {ts : List T} {vs : List V} (r : Reps c ts vs []) (h : noOws ts = true) : Reps c (ts.take n) (vs.take n) [] := by
  refine r.sub h (by rw [List.length_take, List.length_take, r.len]) fun i u w a b => ⟨i, ?_, ?_⟩
  · rw [List.getElem?_take] at a; split at a; exact a; cases a
  · rw [List.getElem?_take] at b; split at b; exact b; cases b
theorem Reps.drop (n : Nat) {ts : List T} {vs : List V} (r : Reps c ts vs []) (h : noOws ts = true) : Reps c (ts.drop n) (vs.drop n) [] := by
  refine r.sub h (by rw [List.length_drop, List.length_drop, r.len]) fun i u w a b => ⟨n + i, ?_, ?_⟩
  · rw [List.getElem?_drop] at a; exact a
  · rw [List.getElem?_drop] at b; exact b
end

/-! ### a + b -/
def fAdd : T → T → Option T
  | .int i, .int j => some (.int (i + j))
  | .str x, .str y => if x.length + y.length ≤ sizeLine then some (.str (x ++ y)) else none
  | .lst .sc _, _ => none
  | .lst _ _, .lst .sc _ => none
  | .lst _ xs, .lst _ ys => if xs.length + ys.length ≤ sizeLine ∧ noOws xs = true ∧ noOws ys = true then some (.lst .ow (xs ++ ys)) else none
  | .tup xs, .tup ys => if xs.length + ys.length ≤ sizeLine ∧ xs ≠ [] ∧ noOws xs = true ∧ noOws ys = true then some (.tup (xs ++ ys)) else none
  | _, _ => none
def rAddAny (K : PySem.W.Frag) : R2 := fun x y H Q => rI0 (fun i j => .int (i + j)) x y H Q ∨ (∃ i j, x = .str i ∧ y = .str j ∧ i.length + j.length ≤ sizeLine ∧ Q (.str (i ++ j)) H) ∨ rCat x y H Q ∨ rCatT K x y H Q
instance : DecidablePred fun xs : List T => xs ≠ [] := fun xs => match xs with
  | [] => isFalse (fun h => h rfl)
  | _ :: _ => isTrue (fun h => by cases h)
theorem op_addAny {X : Cx} : OpR X (binaryOp .Add) (rAddAny X.K) := by
  intro pins s σ H x y v u Q I rx ry h
  rcases h with h | h | h | h
  · exact op_add pins s σ H x y v u Q I rx ry h
  · exact op_add_str pins s σ H x y v u Q I rx ry h
  · exact op_cat pins s σ H x y v u Q I rx ry h
  · exact op_catT pins s σ H x y v u Q I rx ry h
section
variable {X : Cx} {ca : Str → Addr}
/-- the ends of an operation: a value without nodes -/
theorem fin0 {σ : L2.St} {G : Gh} {Q : VK} {z : T} {v : V} (g : Good X.K ca σ G) (k : ∀ G' u g, G'.S = G.S → Good X.K ca σ G' → Step false G G' → Tmp G' u z g → New G g → Q u G'.H) (r : Rep G.toHc z v []) : Q v G.H :=
  k G v [] rfl g (Step.refl _) (.bare r) New.nil
/-- .. a new list of values that others hold -/
theorem finL {σ : L2.St} {G : Gh} {Q : VK} {zs : List T} {vs : List V} (g : Good X.K ca σ G) (k : ∀ G' u g, G'.S = G.S → Good X.K ca σ G' → Step false G G' → Tmp G' u (.lst .ow zs) g → New G g → Q u G'.H) (r : Reps G.toHc zs vs []) :
    ∀ p, G.H p = none → Q (.ref p) (upd G.H p (.lst vs)) := fun p hp => by
  obtain ⟨g2, s2⟩ := g.newH (o := .lst vs) hp
  exact k (G.newH p (.lst vs)) (.ref p) (p :: []) rfl g2 s2 (g.newL hp r List.nodup_nil fun _ m => absurd m (by simp)) (New.nil.cons hp)
theorem finT {σ : L2.St} {G : Gh} {Q : VK} {zs : List T} {vs : List V} (g : Good X.K ca σ G) (k : ∀ G' u g, G'.S = G.S → Good X.K ca σ G' → Step false G G' → Tmp G' u (.tup zs) g → New G g → Q u G'.H) (r : Reps G.toHc zs vs []) :
    ∀ p, G.H p = none → Q (.ref p) (upd G.H p (.tup vs)) := fun p hp => by
  obtain ⟨g2, s2⟩ := g.newF (o := .tup vs) hp
  exact k (G.newF p (.tup vs)) (.ref p) [] rfl g2 s2 (g.newT hp r List.nodup_nil fun _ m => absurd m (by simp)) New.nil
theorem o2_add : Op2 X ca (rAddAny X.K) fAdd := by
  intro σ G x y z v w gx gy Q g rx ry e k
  have hK : G.K = X.K := g.k
  unfold fAdd at e
  split at e
  · cases e
    obtain ⟨rfl, _⟩ := rx
    obtain ⟨rfl, _⟩ := ry
    exact .inl ⟨_, _, rfl, rfl, fin0 g k ⟨rfl, rfl⟩⟩
  · rename_i a b
    split at e
    · rename_i hl
      cases e
      obtain ⟨rfl, _⟩ := rx
      obtain ⟨rfl, _⟩ := ry
      exact .inr (.inl ⟨_, _, rfl, rfl, hl, fin0 g k ⟨rfl, rfl⟩⟩)
    · cases e
  · cases e
  · cases e
  · rename_i m xs m2 ys h1 h2
    split at e
    · rename_i hl
      cases e
      obtain ⟨p1, v1, g1, rfl, a1, r1, t1, _⟩ := Rep.lstL g.fp g.ph rx
      obtain ⟨p2, v2, g2, rfl, a2, r2, t2, _⟩ := Rep.lstL g.fp g.ph ry
      refine .inr (.inr (.inl ⟨_, _, _, _, rfl, rfl, t1 (fun z => ?_), t2 (fun z => ?_), by rw [r1.len, r2.len]; exact hl.1, finL g k ((r1.bare hl.2.1).append (r2.bare hl.2.2))⟩))
      · exact h1 z
      · exact h2 z
    · cases e
  · rename_i xs ys
    split at e
    · rename_i hl
      cases e
      obtain ⟨p1, v1, rfl, a1, r1⟩ := Rep.tupT g.fp g.ph rx
      obtain ⟨p2, v2, rfl, a2, r2⟩ := Rep.tupT g.fp g.ph ry
      have n1 := r1.bare hl.2.2.1
      have n2 := r2.bare hl.2.2.2
      have ne : v1 ≠ [] := fun z => by
        have := r1.len
        rw [z] at this
        exact hl.2.1 (List.length_eq_zero_iff.mp this.symm)
      refine .inr (.inr (.inr ⟨_, _, _, _, rfl, rfl, hK ▸ a1, hK ▸ a2, ne, by rw [r1.len, r2.len]; exact hl.1, fun z => ?_, fun _ => finT g k (n1.append n2)⟩))
      have : ys = [] := List.length_eq_zero_iff.mp (by rw [← r2.len, z]; rfl)
      subst this
      rw [List.append_nil] at k
      obtain ⟨q, vs, a, b, d⟩ := rx
      cases a
      exact fin0 g k ⟨_, vs, rfl, b, d.bare hl.2.2.1⟩
    · cases e
  · cases e

/-! ### ints -/
def fI (C : Int → Int → Bool) (f : Int → Int → T) : T → T → Option T
  | .int i, .int j => if C i j then some (f i j) else none
  | _, _ => none
theorem o2_I {C : Int → Int → Prop} {Cb : Int → Int → Bool} {fv : Int → Int → V} {f : Int → Int → T} (hC : ∀ i j, Cb i j = true → C i j) (hf : ∀ (c : Hc) i j, Rep c (f i j) (fv i j) []) : Op2 X ca (rI C fv) (fI Cb f) := by
  intro σ G x y z v w gx gy Q g rx ry e k
  unfold fI at e
  split at e
  · split at e
    · rename_i i j hc
      cases e
      obtain ⟨rfl, _⟩ := rx
      obtain ⟨rfl, _⟩ := ry
      exact ⟨i, j, rfl, rfl, hC i j hc, fin0 g k (hf _ i j)⟩
    · cases e
  · cases e
theorem o2_I0 {fv : Int → Int → V} {f : Int → Int → T} (hf : ∀ (c : Hc) i j, Rep c (f i j) (fv i j) []) : Op2 X ca (rI0 fv) (fI (fun _ _ => true) f) := by
  intro σ G x y z v w gx gy Q g rx ry e k
  unfold fI at e
  split at e
  · rename_i i j
    rw [if_pos rfl] at e
    cases e
    obtain ⟨rfl, _⟩ := rx
    obtain ⟨rfl, _⟩ := ry
    exact ⟨i, j, rfl, rfl, fin0 g k (hf _ i j)⟩
  · cases e
def fSub : T → T → Option T := fI (fun _ _ => true) fun i j => .int (i - j)
theorem o2_sub : Op2 X ca (rI0 fun i j => .int (i - j)) fSub := o2_I0 fun _ _ _ => ⟨rfl, rfl⟩
def smallI (i : Int) : Bool := decide (-(2 ^ 64) < i ∧ i < 2 ^ 64)
/-- * of ints (one of them below 2 ^ 64), and a list times an int -/
def fMul : T → T → Option T
  | .int i, .int j => if smallI i || smallI j then some (.int (i * j)) else none
  | .lst .sc _, _ => none
  | .lst _ xs, .int k => if -(2 ^ 63) ≤ k ∧ k < 2 ^ 63 ∧ xs.length * k.toNat ≤ sizeLine ∧ noOws xs = true then some (.lst .ow (List.replicate k.toNat xs).flatten) else none
  | _, _ => none
def rMulAny : R2 := fun x y H Q => rI CMul (fun i j => .int (i * j)) x y H Q ∨ rRep x y H Q
theorem op_mulAny : OpR X (binaryOp .Mult) rMulAny := by
  intro pins s σ H x y v u Q I rx ry h
  rcases h with h | h
  · exact op_mul pins s σ H x y v u Q I rx ry h
  · exact op_rep pins s σ H x y v u Q I rx ry h
theorem Reps.rep {c : Hc} {ts : List T} {vs : List V} (r : Reps c ts vs []) : ∀ n : Nat, Reps c (List.replicate n ts).flatten (List.replicate n vs).flatten []
  | 0 => ⟨rfl, rfl⟩
  | n + 1 => by
    rw [List.replicate_succ, List.replicate_succ, List.flatten_cons, List.flatten_cons]
    exact r.append (Reps.rep r n)
theorem o2_mul : Op2 X ca rMulAny fMul := by
  intro σ G x y z v w gx gy Q g rx ry e k
  unfold fMul at e
  split at e
  · rename_i i j
    split at e
    · rename_i hc
      cases e
      obtain ⟨rfl, _⟩ := rx
      obtain ⟨rfl, _⟩ := ry
      refine .inl ⟨_, _, rfl, rfl, ?_, fin0 g k ⟨rfl, rfl⟩⟩
      rcases Bool.or_eq_true_iff.mp hc with h | h
      · exact .inl (of_decide_eq_true h)
      · exact .inr (of_decide_eq_true h)
    · cases e
  · cases e
  · rename_i m xs kk h1
    split at e
    · rename_i hl
      cases e
      obtain ⟨p1, v1, g1, rfl, a1, r1, t1, _⟩ := Rep.lstL g.fp g.ph rx
      obtain ⟨rfl, _⟩ := ry
      exact .inr ⟨_, _, _, rfl, rfl, t1 (fun z => h1 z), hl.1, hl.2.1, by rw [r1.len]; exact hl.2.2.1, finL g k ((r1.bare hl.2.2.2).rep _)⟩
    · cases e
  · cases e
def okDiv (_ j : Int) : Bool := decide (0 < j ∧ j.natAbs.log2 < 9000)
def fDiv : T → T → Option T := fI okDiv fun i j => .int (i / j)
theorem o2_div : Op2 X ca (rI CDivW fun i j => .int (i / j)) fDiv := o2_I (fun i j h => by have q : 0 < j ∧ j.natAbs.log2 < 9000 := of_decide_eq_true h; exact q) fun _ _ _ => ⟨rfl, rfl⟩
def fMod : T → T → Option T := fI (fun _ j => decide (0 < j)) fun i j => .int (i % j)
theorem o2_mod : Op2 X ca (rI (fun _ j => 0 < j) fun i j => .int (i % j)) fMod := o2_I (fun i j h => of_decide_eq_true h) fun _ _ _ => ⟨rfl, rfl⟩
def fPow : T → T → Option T := fI (fun i j => decide (0 ≤ j ∧ j ≤ 1000000 ∧ i.natAbs < 2 ^ 64)) fun i j => .int (i ^ j.toNat)
theorem o2_pow : Op2 X ca (rI CPow fun i j => .int (i ^ j.toNat)) fPow := o2_I (fun i j h => by have q : 0 ≤ j ∧ j ≤ 1000000 ∧ i.natAbs < 2 ^ 64 := of_decide_eq_true h; exact q) fun _ _ _ => ⟨rfl, rfl⟩
def fNeg : T → Option T
  | .int i => some (.int (-i))
  | _ => none
theorem o1_neg : Op1 X ca (rU fun i => .int (-i)) fNeg := by
  intro σ G x z v gx Q g rx e k
  unfold fNeg at e
  split at e
  · cases e
    obtain ⟨rfl, _⟩ := rx
    exact ⟨_, rfl, fin0 g k ⟨rfl, rfl⟩⟩
  · cases e

/-! ### < and its like: ints and texts -/
def ltS (x y : Str) : Bool := decide (x.cps.toList < y.cps.toList)
def fLt : T → T → Option T
  | .int i, .int j => some (.bl (decide (i < j)))
  | .str x, .str y => some (.bl (ltS x y))
  | _, _ => none
def fLe : T → T → Option T
  | .int i, .int j => some (.bl (decide (i ≤ j)))
  | .str x, .str y => some (.bl (!ltS y x))
  | _, _ => none
def fGt : T → T → Option T
  | .int i, .int j => some (.bl (decide (j < i)))
  | .str x, .str y => some (.bl (ltS y x))
  | _, _ => none
def fGe : T → T → Option T
  | .int i, .int j => some (.bl (decide (j ≤ i)))
  | .str x, .str y => some (.bl (!ltS x y))
  | _, _ => none
def rOrd (fi : Int → Int → Bool) (fs : Str → Str → Bool) : R2 := fun x y H Q => rI0 (fun i j => .bl (fi i j)) x y H Q ∨ ∃ i j, x = .str i ∧ y = .str j ∧ Q (.bl (fs i j)) H
theorem op_ord {op : CmpOp} {fi : Int → Int → Bool} {fs : Str → Str → Bool} (h1 : OpR X (compareOp op) (rI0 fun i j => .bl (fi i j))) (h2 : OpR X (compareOp op) fun x y H Q => ∃ i j, x = .str i ∧ y = .str j ∧ Q (.bl (fs i j)) H) : OpR X (compareOp op) (rOrd fi fs) := by
  intro pins s σ H x y v u Q I rx ry h
  rcases h with h | h
  · exact h1 pins s σ H x y v u Q I rx ry h
  · exact h2 pins s σ H x y v u Q I rx ry h
theorem op_ltA : OpR X (compareOp .Lt) (rOrd (fun i j => decide (i < j)) ltS) := op_ord op_lt op_lt_str
theorem op_leA : OpR X (compareOp .LtE) (rOrd (fun i j => decide (i ≤ j)) fun x y => !ltS y x) := op_ord op_le op_le_str
theorem op_gtA : OpR X (compareOp .Gt) (rOrd (fun i j => decide (j < i)) fun x y => ltS y x) := op_ord op_gt op_gt_str
theorem op_geA : OpR X (compareOp .GtE) (rOrd (fun i j => decide (j ≤ i)) fun x y => !ltS x y) := op_ord op_ge op_ge_str
theorem o2_ord {fi : Int → Int → Bool} {fs : Str → Str → Bool} {f : T → T → Option T} (hf : ∀ x y z, f x y = some z → (∃ i j, x = .int i ∧ y = .int j ∧ z = .bl (fi i j)) ∨ ∃ i j, x = .str i ∧ y = .str j ∧ z = .bl (fs i j)) : Op2 X ca (rOrd fi fs) f := by
  intro σ G x y z v w gx gy Q g rx ry e k
  rcases hf x y z e with ⟨i, j, rfl, rfl, rfl⟩ | ⟨i, j, rfl, rfl, rfl⟩
  · obtain ⟨rfl, _⟩ := rx
    obtain ⟨rfl, _⟩ := ry
    exact .inl ⟨_, _, rfl, rfl, fin0 g k ⟨rfl, rfl⟩⟩
  · obtain ⟨rfl, _⟩ := rx
    obtain ⟨rfl, _⟩ := ry
    exact .inr ⟨_, _, rfl, rfl, fin0 g k ⟨rfl, rfl⟩⟩
theorem o2_lt : Op2 X ca (rOrd (fun i j => decide (i < j)) ltS) fLt := o2_ord fun x y z e => by
  unfold fLt at e; split at e <;> cases e
  · exact .inl ⟨_, _, rfl, rfl, rfl⟩
  · exact .inr ⟨_, _, rfl, rfl, rfl⟩
theorem o2_le : Op2 X ca (rOrd (fun i j => decide (i ≤ j)) fun x y => !ltS y x) fLe := o2_ord fun x y z e => by
  unfold fLe at e; split at e <;> cases e
  · exact .inl ⟨_, _, rfl, rfl, rfl⟩
  · exact .inr ⟨_, _, rfl, rfl, rfl⟩
theorem o2_gt : Op2 X ca (rOrd (fun i j => decide (j < i)) fun x y => ltS y x) fGt := o2_ord fun x y z e => by
  unfold fGt at e; split at e <;> cases e
  · exact .inl ⟨_, _, rfl, rfl, rfl⟩
  · exact .inr ⟨_, _, rfl, rfl, rfl⟩
theorem o2_ge : Op2 X ca (rOrd (fun i j => decide (j ≤ i)) fun x y => !ltS x y) fGe := o2_ord fun x y z e => by
  unfold fGe at e; split at e <;> cases e
  · exact .inl ⟨_, _, rfl, rfl, rfl⟩
  · exact .inr ⟨_, _, rfl, rfl, rfl⟩
/-! ### is None -/
def T.isN : T → Bool
  | .non => true
  | _ => false
theorem Rep.isN {c : Hc} {t : T} {v : V} {g : List Addr} (r : Rep c t v g) : decide (v = .non) = t.isN := by
  have ref : ∀ {p : Addr}, v = .ref p → decide (v = .non) = false := fun e => by rw [e]; rfl
  cases t with
  | non => obtain ⟨rfl, _⟩ := r; rfl
  | bl b => obtain ⟨rfl, _⟩ := r; rfl
  | int i => obtain ⟨rfl, _⟩ := r; rfl
  | str x => obtain ⟨rfl, _⟩ := r; rfl
  | tup xs => obtain ⟨p, vs, rfl, _⟩ := r; rfl
  | hnd n => obtain ⟨p, rfl, _⟩ := r; rfl
  | lst m xs => cases m with
    | fz => obtain ⟨p, vs, rfl, _⟩ := r; rfl
    | ow => obtain ⟨p, vs, gs, rfl, _⟩ := r; rfl
    | br => obtain ⟨p, vs, rfl, _⟩ := r; rfl
    | sc => obtain ⟨p, vs, rfl, _⟩ := r; rfl
  | dic m xs => cases m with
    | fz => obtain ⟨p, vs, rfl, _⟩ := r; rfl
    | ow => obtain ⟨p, vs, gs, rfl, _⟩ := r; rfl
    | br => obtain ⟨p, vs, rfl, _⟩ := r; rfl
    | sc => exact (show False from r).elim
def fIsN : T → T → Option T
  | x, .non => some (.bl x.isN)
  | _, _ => none
def fNotN : T → T → Option T
  | x, .non => some (.bl (!x.isN))
  | _, _ => none
theorem o2_isN : Op2 X ca (fun x y H Q => y = .non ∧ Q (.bl (decide (x = .non))) H) fIsN := by
  intro σ G x y z v w gx gy Q g rx ry e k
  unfold fIsN at e
  split at e
  · cases e
    obtain ⟨rfl, _⟩ := ry
    refine ⟨rfl, ?_⟩
    rw [rx.isN]
    exact fin0 g k ⟨rfl, rfl⟩
  · cases e
theorem o2_notN : Op2 X ca (fun x y H Q => y = .non ∧ Q (.bl (!decide (x = .non))) H) fNotN := by
  intro σ G x y z v w gx gy Q g rx ry e k
  unfold fNotN at e
  split at e
  · cases e
    obtain ⟨rfl, _⟩ := ry
    refine ⟨rfl, ?_⟩
    rw [rx.isN]
    exact fin0 g k ⟨rfl, rfl⟩
  · cases e
end
end TL

set_option Elab.async false
set_option linter.all false
set_option maxRecDepth 100000
/-! TL5: and, or, not, a if t else b; arguments; displays; places and slices; statements; calls. -/
namespace TL
open PySem PySem.Spec L2

/-! ### tests -/
def tAndD (a b : DT) : DT := fun S => (a S).bind fun p => if p.1 = true then b p.2 else some (false, p.2)
def tOrD (a b : DT) : DT := fun S => (a S).bind fun p => if p.1 = true then some (true, p.2) else b p.2
def tNotD (a : DT) : DT := fun S => (a S).bind fun p => some (!p.1, p.2)
def dAndD (a b : DE) : DE := fun S => (a S).bind fun p => match p.1 with
  | .bl c => if c = true then b p.2 else some (.bl false, p.2)
  | _ => none
def dOrD (a b : DE) : DE := fun S => (a S).bind fun p => match p.1 with
  | .bl c => if c = true then some (.bl true, p.2) else b p.2
  | _ => none
def dNotD (a : DE) : DE := fun S => (a S).bind fun p => match p.1 with
  | .bl c => some (.bl (!c), p.2)
  | _ => none
def dIfD (c : DT) (a b : DE) : DE := fun S => (c S).bind fun p => if p.1 = true then a p.2 else b p.2
section
variable {X : Cx} {ca : Str → Addr} {a b c : Expr} {rest : List Expr} {ea eb ec : Bool} {pos : Pos}
theorem step_l {e1 e2 : Bool} {G G' : Gh} (s : Step e1 G G') : Step (e1 || e2) G G' := s.weak fun h => (Bool.or_eq_false_iff.mp h).1
abbrev WX (ca : Str → Addr) (X : Cx) (e : Expr) (ef : Bool) (d : DT) : Prop := PW X e (liftT X.K ca ef d)
theorem wx_and1 {d : DT} (h : TX ca X a ea d) : WX ca X (.BoolOp .And [a] pos) ea d := pw_and1 h
theorem wx_or1 {d : DT} (h : TX ca X a ea d) : WX ca X (.BoolOp .Or [a] pos) ea d := pw_or1 h
theorem wx_and {d1 d2 : DT} (h1 : TX ca X a ea d1) (h2 : WX ca X (.BoolOp .And (b :: rest) pos) eb d2) : WX ca X (.BoolOp .And (a :: b :: rest) pos) (ea || eb) (tAndD d1 d2) :=
  PW.imp (pw_and h1 h2) fun σ H Q w => by
    obtain ⟨G, rfl, g, z, S', e1, k⟩ := w
    obtain ⟨p, h3, e1⟩ := Option.bind_eq_some_iff.mp e1
    refine ⟨G, rfl, g, p.1, p.2, h3, fun G1 a1 a2 a3 => ?_⟩
    split at e1
    · rename_i hp
      rw [if_pos hp]
      exact ⟨G1, rfl, a2, z, S', by rw [a1]; exact e1, fun G2 b1 b2 b3 => k G2 b1 b2 (a3.trans b3)⟩
    · rename_i hp
      rw [if_neg hp]
      cases e1
      exact k G1 a1 a2 (step_l a3)
theorem wx_or {d1 d2 : DT} (h1 : TX ca X a ea d1) (h2 : WX ca X (.BoolOp .Or (b :: rest) pos) eb d2) : WX ca X (.BoolOp .Or (a :: b :: rest) pos) (ea || eb) (tOrD d1 d2) :=
  PW.imp (pw_or h1 h2) fun σ H Q w => by
    obtain ⟨G, rfl, g, z, S', e1, k⟩ := w
    obtain ⟨p, h3, e1⟩ := Option.bind_eq_some_iff.mp e1
    refine ⟨G, rfl, g, p.1, p.2, h3, fun G1 a1 a2 a3 => ?_⟩
    split at e1
    · rename_i hp
      rw [if_pos hp]
      cases e1
      exact k G1 a1 a2 (step_l a3)
    · rename_i hp
      rw [if_neg hp]
      exact ⟨G1, rfl, a2, z, S', by rw [a1]; exact e1, fun G2 b1 b2 b3 => k G2 b1 b2 (a3.trans b3)⟩
theorem tx_not {d : DT} (h : TX ca X a ea d) : TX ca X (.UnaryOp .Not a pos) ea (tNotD d) := PT.imp (pt_not h) fun σ H Q w => by
  obtain ⟨G, rfl, g, z, S', e1, k⟩ := w
  obtain ⟨p, h3, e1⟩ := Option.bind_eq_some_iff.mp e1
  cases e1
  exact ⟨G, rfl, g, p.1, p.2, h3, fun G1 a1 a2 a3 => k G1 a1 a2 a3⟩
theorem ex_one {op : BoolOp} {d : DE} (h : EX ca X a ea d) : EX ca X (.BoolOp op [a] pos) ea d := pe_one h
theorem ex_and {d1 d2 : DE} (h1 : EX ca X a ea d1) (h2 : EX ca X (.BoolOp .And (b :: rest) pos) eb d2) : EX ca X (.BoolOp .And (a :: b :: rest) pos) (ea || eb) (dAndD d1 d2) :=
  PE.imp (pe_and h1 h2) fun σ H Q w => by
    obtain ⟨G, rfl, g, z, S', e1, k⟩ := w
    obtain ⟨p, h3, e1⟩ := Option.bind_eq_some_iff.mp e1
    refine ⟨G, rfl, g, p.1, p.2, h3, fun G1 v gv a1 a2 a3 a4 a5 => ?_⟩
    split at e1
    · rename_i cc hc
      have r := a4.rep
      rw [hc] at r
      refine ⟨cc, r.1, ?_⟩
      split at e1
      · rename_i hp
        rw [if_pos hp]
        exact ⟨G1, rfl, a2, z, S', by rw [a1]; exact e1, fun G2 u gu b1 b2 b3 b4 b5 => k G2 u gu b1 b2 (a3.trans b3) b4 (b5.step a3)⟩
      · rename_i hp
        rw [if_neg hp]
        cases e1
        exact k G1 _ [] a1 a2 (step_l a3) (.bare ⟨rfl, rfl⟩) New.nil
    · cases e1
theorem ex_or {d1 d2 : DE} (h1 : EX ca X a ea d1) (h2 : EX ca X (.BoolOp .Or (b :: rest) pos) eb d2) : EX ca X (.BoolOp .Or (a :: b :: rest) pos) (ea || eb) (dOrD d1 d2) :=
  PE.imp (pe_or h1 h2) fun σ H Q w => by
    obtain ⟨G, rfl, g, z, S', e1, k⟩ := w
    obtain ⟨p, h3, e1⟩ := Option.bind_eq_some_iff.mp e1
    refine ⟨G, rfl, g, p.1, p.2, h3, fun G1 v gv a1 a2 a3 a4 a5 => ?_⟩
    split at e1
    · rename_i cc hc
      have r := a4.rep
      rw [hc] at r
      refine ⟨cc, r.1, ?_⟩
      split at e1
      · rename_i hp
        rw [if_pos hp]
        cases e1
        exact k G1 _ [] a1 a2 (step_l a3) (.bare ⟨rfl, rfl⟩) New.nil
      · rename_i hp
        rw [if_neg hp]
        exact ⟨G1, rfl, a2, z, S', by rw [a1]; exact e1, fun G2 u gu b1 b2 b3 b4 b5 => k G2 u gu b1 b2 (a3.trans b3) b4 (b5.step a3)⟩
    · cases e1
theorem ex_not {d : DE} (h : EX ca X a ea d) : EX ca X (.UnaryOp .Not a pos) ea (dNotD d) := PE.imp (pe_not h) fun σ H Q w => by
  obtain ⟨G, rfl, g, z, S', e1, k⟩ := w
  obtain ⟨p, h3, e1⟩ := Option.bind_eq_some_iff.mp e1
  refine ⟨G, rfl, g, p.1, p.2, h3, fun G1 v gv a1 a2 a3 a4 a5 => ?_⟩
  split at e1
  · rename_i cc hc
    have r := a4.rep
    rw [hc] at r
    cases e1
    exact ⟨cc, r.1, k G1 _ [] a1 a2 a3 (.bare ⟨rfl, rfl⟩) New.nil⟩
  · cases e1
theorem ex_ifx {dc : DT} {d1 d2 : DE} (hc : TX ca X c ec dc) (h1 : EX ca X a ea d1) (h2 : EX ca X b eb d2) : EX ca X (.IfExp c a b pos) (ec || (ea || eb)) (dIfD dc d1 d2) :=
  PE.imp (pe_ifExp hc h1 h2) fun σ H Q w => by
    obtain ⟨G, rfl, g, z, S', e1, k⟩ := w
    obtain ⟨p, h3, e1⟩ := Option.bind_eq_some_iff.mp e1
    refine ⟨G, rfl, g, p.1, p.2, h3, fun G1 a1 a2 a3 => ?_⟩
    split at e1
    · rename_i hp
      rw [if_pos hp]
      refine ⟨G1, rfl, a2, z, S', by rw [a1]; exact e1, fun G2 u gu b1 b2 b3 b4 b5 => k G2 u gu b1 b2 ((a3.trans b3).weak fun h => ?_) b4 (b5.step a3)⟩
      obtain ⟨q1, q2⟩ := Bool.or_eq_false_iff.mp h
      rw [q1, (Bool.or_eq_false_iff.mp q2).1] <;> rfl
    · rename_i hp
      rw [if_neg hp]
      refine ⟨G1, rfl, a2, z, S', by rw [a1]; exact e1, fun G2 u gu b1 b2 b3 b4 b5 => k G2 u gu b1 b2 ((a3.trans b3).weak fun h => ?_) b4 (b5.step a3)⟩
      obtain ⟨q1, q2⟩ := Bool.or_eq_false_iff.mp h
      rw [q1, (Bool.or_eq_false_iff.mp q2).2] <;> rfl
/-- a < b < c -/
def dChain (f f' : T → T → Option T) (a b c : DE) : DE := fun S => (a S).bind fun p => (b p.2).bind fun q => (f p.1 q.1).bind fun z => match z with
  | .bl k => if k = true then (c q.2).bind fun r => (f' q.1 r.1).bind fun y => some (y, r.2) else some (.bl false, q.2)
  | _ => none

/-! ### arguments -/
def aNil : DA := fun S => some ([], S)
def aCons (a : DO) (r : DA) : DA := fun S => (a S).bind fun p => (r p.2).bind fun q => some (p.1 :: q.1, q.2)
theorem ax_nil : AX ca X [] false aNil := PA.imp pa_nil fun σ H Q w => by
  obtain ⟨G, rfl, g, as, S', e1, k⟩ := w
  cases e1
  exact k G [] [] rfl g (Step.refl _) ⟨rfl, rfl⟩ New.nil
theorem ax_cons {es : List Expr} {da : DO} {dr : DA} (h1 : OX ca X a ea da) (h2 : AX ca X es eb dr) (hs : starEach (a :: es) X.env = (false, eval a X.env) :: starEach es X.env := by rfl) : AX ca X (a :: es) (ea || eb) (aCons da dr) :=
  PA.imp (pa_cons h1 h2 hs) fun σ H Q w => by
    obtain ⟨G, rfl, g, as, S', e1, k⟩ := w
    obtain ⟨p, h3, e1⟩ := Option.bind_eq_some_iff.mp e1
    obtain ⟨q, h4, e1⟩ := Option.bind_eq_some_iff.mp e1
    cases e1
    refine ⟨G, rfl, g, p.1, p.2, h3, fun G1 v gv a1 a2 a3 a4 a5 => ⟨G1, rfl, a2, q.1, q.2, by rw [a1]; exact h4, fun G2 vs gs b1 b2 b3 b4 b5 => ?_⟩⟩
    have a4' : ArgAt G2 σ p.1 v gv := by
      cases hp : p.1 with
      | tmp t => rw [hp] at a4; exact Tmp.step a4 b3
      | bor i => rw [hp] at a4; exact a4
    refine k G2 (v :: vs) (gv ++ gs) b1 b2 (a3.trans b3) ⟨v, vs, gv, gs, rfl, rfl, a4', b4, fun x m => ?_⟩ fun x m => ?_
    · cases hp : p.1 with
      | tmp t => rw [hp] at a4; exact Tmp.apart a4 b5 x m
      | bor i => rw [hp] at a4; rw [a4.2] at m; exact absurd m (by simp)
    · rcases List.mem_append.mp m with m | m
      · exact a5 x m
      · exact (b5.step a3) x m
/-- the values among arguments, where there is no lent slot -/
def temps : List Arg → Option (List T)
  | [] => some []
  | .tmp t :: as => (temps as).bind fun ts => some (t :: ts)
  | .bor _ :: _ => none
theorem ArgsAt.reps {G : Gh} {σ : L2.St} : ∀ {as : List Arg} {ts : List T} {vs : List V} {g : List Addr}, temps as = some ts → ArgsAt G σ as vs g → Reps G.toHc ts vs g ∧ g.Nodup ∧ ∀ a ∈ g, (∀ k, a ∉ G.fp k) ∧ a ∉ G.ad ∧ G.P a = none
  | [], ts, vs, g, e, ⟨h1, h2⟩ => by
    cases e
    rw [h1, h2]
    exact ⟨⟨rfl, rfl⟩, List.nodup_nil, fun _ m => absurd m (by simp)⟩
  | .tmp t :: as, ts, vs, g, e, ⟨v, r, ga, gb, e1, e2, h, hr, d⟩ => by
    obtain ⟨us, e3, e4⟩ := Option.bind_eq_some_iff.mp (show (temps as).bind (fun ts => some (t :: ts)) = some ts from e)
    cases e4
    obtain ⟨r1, r2, r3⟩ := ArgsAt.reps e3 hr
    have h : Tmp G v t ga := h
    refine ⟨⟨v, r, ga, gb, e1, e2, h.rep, r1⟩, ?_, fun x m => ?_⟩
    · rw [e2]
      exact List.nodup_append.mpr ⟨h.nd, r2, fun x m y m' q => d x m (q ▸ m')⟩
    · rw [e2] at m
      rcases List.mem_append.mp m with m | m
      · exact h.out x m
      · exact r3 x m
def dTup (a : DA) : DE := fun S => (a S).bind fun p => (temps p.1).bind fun ts => if ts.length ≤ sizeLine then some (.tup ts, p.2) else none
def dLst (a : DA) : DE := fun S => (a S).bind fun p => (temps p.1).bind fun ts => if ts.length ≤ sizeLine then some (.lst .ow ts, p.2) else none
theorem ex_tup {es : List Expr} {da : DA} {x1 : Nat} (h : AX ca X es ea da) : EX ca X (.Tuple es x1 pos) ea (dTup da) := PE.imp (pe_tup h) fun σ H Q w => by
  obtain ⟨G, rfl, g, z, S', e1, k⟩ := w
  obtain ⟨p, h3, e1⟩ := Option.bind_eq_some_iff.mp e1
  obtain ⟨ts, h4, e1⟩ := Option.bind_eq_some_iff.mp e1
  split at e1
  · rename_i hl
    cases e1
    refine ⟨G, rfl, g, p.1, p.2, h3, fun G1 vs gs a1 a2 a3 a4 a5 => ?_⟩
    obtain ⟨r, nd, out⟩ := a4.reps h4
    refine ⟨by rw [r.len]; exact hl, fun q hq => ?_⟩
    obtain ⟨g2, s2⟩ := a2.newF (o := .tup vs) hq
    exact k (G1.newF q (.tup vs)) (.ref q) gs a1 g2 ((a3.trans s2).weak fun e => by rw [e]; rfl) (a2.newT hq r nd out) a5
  · cases e1
theorem ex_lst {es : List Expr} {da : DA} (h : AX ca X es ea da) : EX ca X (.List es pos) ea (dLst da) := PE.imp (pe_lst h) fun σ H Q w => by
  obtain ⟨G, rfl, g, z, S', e1, k⟩ := w
  obtain ⟨p, h3, e1⟩ := Option.bind_eq_some_iff.mp e1
  obtain ⟨ts, h4, e1⟩ := Option.bind_eq_some_iff.mp e1
  split at e1
  · rename_i hl
    cases e1
    refine ⟨G, rfl, g, p.1, p.2, h3, fun G1 vs gs a1 a2 a3 a4 a5 => ?_⟩
    obtain ⟨r, nd, out⟩ := a4.reps h4
    refine ⟨by rw [r.len]; exact hl, fun q hq => ?_⟩
    obtain ⟨g2, s2⟩ := a2.newH (o := .lst vs) hq
    exact k (G1.newH q (.lst vs)) (.ref q) (q :: gs) a1 g2 ((a3.trans s2).weak fun e => by rw [e]; rfl) (a2.newL hq r nd out) (New.cons (by
      cases q' : G.H q with
      | none => rfl
      | some u => exact absurd hq (a3.dom q (by rw [q']; simp))) a5)
  · cases e1

/-! ### places and slices -/
def fIx : T → T → Option T
  | .lst _ xs, .int i => (atI xs i).bind fun t => if t.noOw then some t else none
  | .tup xs, .int i => (atI xs i).bind fun t => if t.noOw then some t else none
  | .str z, .int i => if z.length ≤ sizeLine then (atI z.cps.toList i).bind fun c => some (.str ⟨#[c]⟩) else none
  | _, _ => none
theorem atI_reps {c : Hc} {ts : List T} {vs : List V} {g : List Addr} {i : Int} {t : T} (r : Reps c ts vs g) (h : atI ts i = some t) (n : t.noOw = true) : ∃ v, atI vs i = some v ∧ Rep c t v [] := by
  unfold atI at h ⊢
  obtain ⟨j, h1, h2⟩ := Option.bind_eq_some_iff.mp h
  obtain ⟨v, gt, e1, e2, _⟩ := r.get h2
  have e3 := Rep.noOw _ _ _ n e2
  rw [e3] at e2
  exact ⟨v, by rw [r.len, h1]; exact e1, e2⟩
theorem o2_ix : Op2 X ca (rIx X.K) fIx := by
  intro σ G x y z v w gx gy Q g rx ry e k
  have hK : G.K = X.K := g.k
  unfold fIx at e
  split at e
  · obtain ⟨t, h1, e⟩ := Option.bind_eq_some_iff.mp e
    split at e
    · rename_i n
      cases e
      obtain ⟨p1, v1, g1, rfl, a1, r1, _, _⟩ := Rep.lstL g.fp g.ph rx
      obtain ⟨rfl, _⟩ := ry
      obtain ⟨u, e1, e2⟩ := atI_reps r1 h1 n
      exact .inl ⟨_, _, _, u, rfl, rfl, hK ▸ a1, e1, fin0 g k e2⟩
    · cases e
  · obtain ⟨t, h1, e⟩ := Option.bind_eq_some_iff.mp e
    split at e
    · rename_i n
      cases e
      obtain ⟨p1, v1, rfl, a1, r1⟩ := Rep.tupT g.fp g.ph rx
      obtain ⟨rfl, _⟩ := ry
      obtain ⟨u, e1, e2⟩ := atI_reps r1 h1 n
      exact .inr (.inl ⟨_, _, _, u, rfl, rfl, hK ▸ a1, e1, fin0 g k e2⟩)
    · cases e
  · split at e
    · rename_i hl
      obtain ⟨ch, h1, e⟩ := Option.bind_eq_some_iff.mp e
      cases e
      obtain ⟨rfl, _⟩ := rx
      obtain ⟨rfl, _⟩ := ry
      exact .inr (.inr ⟨_, _, ch, rfl, rfl, hl, h1, fin0 g k ⟨rfl, rfl⟩⟩)
    · cases e
  · cases e
theorem ex_ix {da db : DO} (ha : OX ca X a ea da) (hb : OX ca X b eb db) (hs : PlainIx b) : EX ca X (.Subscript a b pos) (ea || eb) (d2 fIx da db) :=
  PE.imp (pe_ix ix_seq ha hb hs) fun σ H Q w => bin_of o2_ix w
/-! a slice: its ends ints or left out -/
abbrev DP := SS → Option (Option Int × SS)
def pNone : DP := fun S => some (none, S)
def pSome (d : DE) : DP := fun S => (d S).bind fun p => match p.1 with
  | .int i => some (some i, p.2)
  | _ => none
section
variable (K : PySem.W.Frag)
def liftP (ca : Str → Addr) (ef : Bool) (d : DP) : TO := fun σ H Q => ∃ G : Gh, G.H = H ∧ Good K ca σ G ∧ ∃ i S', d G.S = some (i, S') ∧ ∀ G', G'.S = S' → Good K ca σ G' → Step ef G G' → Q i G'.H
end
abbrev PX (ca : Str → Addr) (X : Cx) (e : Option Expr) (ef : Bool) (d : DP) : Prop := PO X e (liftP X.K ca ef d)
theorem PO.imp {X : Cx} {e : Option Expr} {t t' : TO} (h : PO X e t) (i : ∀ σ H Q, t' σ H Q → t σ H Q) : PO X e t' := ⟨fun pins s σ H Q I w => h.run pins s σ H Q I (i σ H Q w)⟩
theorem px_none : PX ca X none false pNone := PO.imp po_none fun σ H Q w => by
  obtain ⟨G, rfl, g, i, S', e1, k⟩ := w
  cases e1
  exact k G rfl g (Step.refl _)
theorem px_some {d : DE} (h : EX ca X a ea d) : PX ca X (some a) ea (pSome d) := PO.imp (po_some h) fun σ H Q w => by
  obtain ⟨G, rfl, g, i, S', e1, k⟩ := w
  obtain ⟨p, h3, e1⟩ := Option.bind_eq_some_iff.mp e1
  refine ⟨G, rfl, g, p.1, p.2, h3, fun G1 v gv a1 a2 a3 a4 a5 => ?_⟩
  split at e1
  · rename_i j hj
    cases e1
    have r := a4.rep
    rw [hj] at r
    exact ⟨j, r.1, k G1 a1 a2 a3⟩
  · cases e1
/-- the cut of a list of trees, as of values -/
def cutT (xs : List T) (lo hi : Option Int) : List T := (xs.drop (HT.sIx xs.length 0 lo)).take (HT.sIx xs.length xs.length hi - HT.sIx xs.length 0 lo)
def isWhole (n : Nat) (lo hi : Option Int) : Bool := decide (HT.sIx n 0 lo = 0 ∧ HT.sIx n n hi = n)
def fSl (x : T) (lo hi : Option Int) : Option T := match x with
  | .lst _ xs => if noOws xs then some (.lst .ow (cutT xs lo hi)) else none
  | .tup xs => if noOws xs ∧ isWhole xs.length lo hi = false then some (.tup (cutT xs lo hi)) else none
  | .str z => if z.length ≤ sizeLine then some (.str (cutS z lo hi)) else none
  | _ => none
def rSlAny (K : PySem.W.Frag) : V → Option Int → Option Int → Hp → VK → Prop := fun x lo hi H Q => rSlL K x lo hi H Q ∨ rSlT K x lo hi H Q ∨ rSlS x lo hi H Q
theorem sl_any : SlR X (rSlAny X.K) := SlR.or sl_list (SlR.or sl_tup sl_str)
def d3 (f : T → Option Int → Option Int → Option T) (a : DO) (lo hi : DP) : DE := fun S => (a S).bind fun p => (lo p.2).bind fun q => (hi q.2).bind fun r => (p.1.res r.2).bind fun x => (f x q.1 r.1).bind fun z => some (z, r.2)
theorem cut_reps {c : Hc} {ts : List T} {vs : List V} (r : Reps c ts vs []) (n : noOws ts = true) (lo hi : Option Int) : Reps c (cutT ts lo hi) (cutV vs lo hi) [] := by
  unfold cutT cutV
  rw [r.len]
  exact (r.drop _ n).take _ (noOws_of fun t m => noOws_mem n (List.mem_of_mem_drop m))
theorem ex_sl {lo hi : Option Expr} {da : DO} {dl dh : DP} {el eh : Bool} {p2 : Pos} (ha : OX ca X a ea da) (hl : PX ca X lo el dl) (hh : PX ca X hi eh dh) : EX ca X (.Subscript a (.Slice lo hi none p2) pos) (ea || (el || eh)) (d3 fSl da dl dh) :=
  PE.imp (pe_slice sl_any ha hl hh) fun σ H Q w => by
    obtain ⟨G, rfl, g, z, S', e1, k⟩ := w
    obtain ⟨p, h1, e1⟩ := Option.bind_eq_some_iff.mp e1
    obtain ⟨q, h2, e1⟩ := Option.bind_eq_some_iff.mp e1
    obtain ⟨r, h3, e1⟩ := Option.bind_eq_some_iff.mp e1
    obtain ⟨x, h4, e1⟩ := Option.bind_eq_some_iff.mp e1
    obtain ⟨z', h5, e1⟩ := Option.bind_eq_some_iff.mp e1
    cases e1
    refine ⟨G, rfl, g, p.1, p.2, h1, fun G1 v gv a1 a2 a3 a4 a5 => ⟨G1, rfl, a2, q.1, q.2, by rw [a1]; exact h2, fun G2 b1 b2 b3 => ⟨G2, rfl, b2, r.1, r.2, by rw [b1]; exact h3, fun G3 c1 c2 c3 => ?_⟩⟩⟩
    have a4' : ArgAt G3 σ p.1 v gv := by
      cases hp : p.1 with
      | tmp t => rw [hp] at a4; exact Tmp.step (Tmp.step a4 b3) c3
      | bor i => rw [hp] at a4; exact a4
    obtain ⟨g1, rx⟩ := a4'.rep c2 (by rw [c1]; exact h4)
    have st : Step (ea || (el || eh)) G G3 := a3.trans (b3.trans c3)
    have k' : ∀ G' u gu, G'.S = G3.S → Good X.K ca σ G' → Step false G3 G' → Tmp G' u z gu → New G3 gu → Q u G'.H := fun G' u gu d1 d2 d3 d4 d5 => k G' u gu (d1.trans c1) d2 ((st.trans d3).weak fun e => by rw [e]; rfl) d4 (d5.step st)
    have hK : G3.K = X.K := c2.k
    unfold fSl at h5
    split at h5
    · split at h5
      · rename_i n
        cases h5
        obtain ⟨p1, v1, g1, rfl, t1, r1, _, _⟩ := Rep.lstL c2.fp c2.ph rx
        exact .inl ⟨_, _, rfl, hK ▸ t1, finL c2 k' (cut_reps (r1.bare n) n _ _)⟩
      · cases h5
    · split at h5
      · rename_i n
        cases h5
        obtain ⟨p1, v1, rfl, t1, r1⟩ := Rep.tupT c2.fp c2.ph rx
        refine .inr (.inl ⟨_, _, rfl, hK ▸ t1, ?_, finT c2 k' (cut_reps (r1.bare n.1) n.1 _ _)⟩)
        rw [r1.len]
        intro h
        have := n.2
        unfold isWhole at this
        rw [decide_eq_true h] at this
        cases this
      · cases h5
    · split at h5
      · rename_i hl
        cases h5
        obtain ⟨rfl, _⟩ := rx
        exact .inr (.inr ⟨_, rfl, hl, fin0 c2 k' ⟨rfl, rfl⟩⟩)
      · cases h5
    · cases h5
end
end TL

set_option Elab.async false
set_option linter.all false
set_option maxRecDepth 100000
/-! TL6: chains; statements; targets; for and while; comprehensions. -/
namespace TL
open PySem PySem.Spec L2

section
variable {X : Cx} {ca : Str → Addr} {a b c : Expr} {ea eb ec : Bool} {pos : Pos}
theorem chain_of {r r' : R2} {f f' : T → T → Option T} {da db dc : DE} (o : Op2 X ca r f) (o' : Op2 X ca r' f') {σ : L2.St} {H : Hp} {Q : VK} (w : liftE X.K ca (ea || (eb || ec)) (dChain f f' da db dc) σ H Q) :
    tChain r r' (liftE X.K ca ea da) (liftE X.K ca eb db) (liftE X.K ca ec dc) σ H Q := by
  obtain ⟨G, rfl, g, z, S', e1, k⟩ := w
  obtain ⟨p, h1, e1⟩ := Option.bind_eq_some_iff.mp e1
  obtain ⟨q, h2, e1⟩ := Option.bind_eq_some_iff.mp e1
  obtain ⟨y, h3, e1⟩ := Option.bind_eq_some_iff.mp e1
  refine ⟨G, rfl, g, p.1, p.2, h1, fun G1 v gv a1 a2 a3 a4 a5 => ⟨G1, rfl, a2, q.1, q.2, by rw [a1]; exact h2, fun G2 w gw b1 b2 b3 b4 b5 => ?_⟩⟩
  refine o σ G2 p.1 q.1 y v w gv gw _ b2 (Tmp.step a4 b3).rep b4.rep h3 fun G3 u gu c1 c2 c3 c4 c5 => ?_
  split at e1
  · rename_i kk
    have r := c4.rep
    refine ⟨kk, r.1, ?_⟩
    split at e1
    · rename_i hk
      rw [if_pos hk]
      obtain ⟨rr, h4, e1⟩ := Option.bind_eq_some_iff.mp e1
      obtain ⟨y2, h5, e1⟩ := Option.bind_eq_some_iff.mp e1
      cases e1
      refine ⟨G3, rfl, c2, rr.1, rr.2, by rw [c1, b1]; exact h4, fun G4 x gx d1 d2 d3 d4 d5 => ?_⟩
      refine o' σ G4 q.1 rr.1 z w x gw gx Q d2 (Tmp.step (Tmp.step b4 c3) d3).rep d4.rep h5 fun G5 u2 gu2 e1 e2 e3 e4 e5 => ?_
      have st := (a3.trans b3).trans (c3.trans (d3.trans e3))
      refine k G5 u2 gu2 (e1.trans d1) e2 (st.weak fun h => ?_) e4 (e5.step ((a3.trans b3).trans (c3.trans d3)))
      obtain ⟨q1, q2⟩ := Bool.or_eq_false_iff.mp h
      obtain ⟨q3, q4⟩ := Bool.or_eq_false_iff.mp q2
      rw [q1, q3, q4] <;> rfl
    · rename_i hk
      rw [if_neg hk]
      cases e1
      refine k G3 _ [] (c1.trans b1) c2 (((a3.trans b3).trans c3).weak fun h => ?_) (.bare ⟨rfl, rfl⟩) New.nil
      obtain ⟨q1, q2⟩ := Bool.or_eq_false_iff.mp h
      obtain ⟨q3, q4⟩ := Bool.or_eq_false_iff.mp q2
      rw [q1, q3] <;> rfl
  · cases e1
theorem ex_chain {op op' : CmpOp} {r r' : R2} {f f' : T → T → Option T} {da db dc : DE} (ho : OpR X (compareOp op) r) (o : Op2 X ca r f) (ho' : OpR X (compareOp op') r') (o' : Op2 X ca r' f') (ha : EX ca X a ea da) (hb : EX ca X b eb db) (hc : EX ca X c ec dc)
    (hm : lastMarks [op, op'] [b, c] = false := by with_unfolding_all rfl) : EX ca X (.Compare a [op, op'] [b, c] pos) (ea || (eb || ec)) (dChain f f' da db dc) :=
  PE.imp (pe_chain ho ho' ha hb hc hm) fun σ H Q w => chain_of o o' w
theorem tx_chain {op op' : CmpOp} {r r' : R2} {f f' : T → T → Option T} {da db dc : DE} (ho : OpR X (compareOp op) r) (o : Op2 X ca r f) (ho' : OpR X (compareOp op') r') (o' : Op2 X ca r' f') (ha : EX ca X a ea da) (hb : EX ca X b eb db) (hc : EX ca X c ec dc)
    (hm : lastMarks [op, op'] [b, c] = false := by with_unfolding_all rfl) : TX ca X (.Compare a [op, op'] [b, c] pos) (ea || (eb || ec)) (tOf (dChain f f' da db dc)) :=
  PT.imp (pt_chain ho ho' ha hb hc hm) fun σ H Q w => chain_of o o' (liftT_of w)
end

/-! ### statements -/
def sNil : DS := fun S => some (.nx, S)
def sSeq (a b : DS) : DS := fun S => (a S).bind fun p => match p.1 with
  | .nx => b p.2
  | f => some (f, p.2)
def sBrk : DS := fun S => some (.bk, S)
def sCnt : DS := fun S => some (.ct, S)
def sDrop (d : DE) : DS := fun S => (d S).bind fun p => some (.nx, p.2)
def sRet (d : DE) : DS := fun S => (d S).bind fun p => some (.rt p.1, p.2)
def sRetN : DS := fun S => some (.rt .non, S)
def sIf (c : DT) (a b : DS) : DS := fun S => (c S).bind fun p => if p.1 = true then a p.2 else b p.2
section
variable {X : Cx} {ca : Str → Addr} {e : Expr} {st : Stmt} {rest : List Stmt} {ef : Bool} {pos : Pos}
theorem bx_nil : BX ca X [] sNil := PSs.imp pss_nil fun D σ H w => by
  obtain ⟨G, rfl, g, f, S', e1, k⟩ := w
  cases e1
  exact k G σ rfl g (Step.refl _)
theorem sx_pass : SX ca X (.Pass pos) sNil := PS.imp ps_pass fun D σ H w => by
  obtain ⟨G, rfl, g, f, S', e1, k⟩ := w
  cases e1
  exact k G σ rfl g (Step.refl _)
theorem sx_doc {x : Str} {j : Nat} {pos' : Pos} : SX ca X (.Expr (.Constant (.str x) j pos) pos') sNil := PS.imp ps_doc fun D σ H w => by
  obtain ⟨G, rfl, g, f, S', e1, k⟩ := w
  cases e1
  exact k G σ rfl g (Step.refl _)
theorem sx_brk : SX ca X (.Break pos) sBrk := PS.imp ps_break fun D σ H w => by
  obtain ⟨G, rfl, g, f, S', e1, k⟩ := w
  cases e1
  exact k G σ rfl g (Step.refl _)
theorem sx_cnt : SX ca X (.Continue pos) sCnt := PS.imp ps_continue fun D σ H w => by
  obtain ⟨G, rfl, g, f, S', e1, k⟩ := w
  cases e1
  exact k G σ rfl g (Step.refl _)
theorem bx_cons {d1 d2 : DS} (h1 : SX ca X st d1) (h2 : BX ca X rest d2) : BX ca X (st :: rest) (sSeq d1 d2) := PSs.imp (pss_cons h1 h2) fun D σ H w => by
  obtain ⟨G, rfl, g, f, S', e1, k⟩ := w
  obtain ⟨p, h3, e1⟩ := Option.bind_eq_some_iff.mp e1
  refine ⟨G, rfl, g, p.1, p.2, h3, fun G1 σ1 a1 a2 a3 => ?_⟩
  split at e1
  · rename_i hp
    rw [hp]
    refine ⟨G1, rfl, a2, f, S', by rw [a1]; exact e1, fun G2 σ2 b1 b2 b3 => ?_⟩
    have k2 := k G2 σ2 b1 b2 (a3.trans b3)
    cases f with
    | nx => exact k2
    | bk => exact k2
    | ct => exact k2
    | rt t => exact fun v gv m n => k2 v gv m (n.step a3)
  · rename_i ff hp
    cases e1
    have k2 := k G1 σ1 a1 a2 a3
    cases q : p.1 with
    | nx => exact absurd q hp
    | bk => rw [q] at k2; exact k2
    | ct => rw [q] at k2; exact k2
    | rt t => rw [q] at k2; exact k2
theorem bx_one {d : DS} (h1 : SX ca X st d) : BX ca X [st] d := pss_one h1
theorem sx_expr {d : DE} (h : EX ca X e ef d) (hs : swapsWith e none pos.line X.env = pure false := by rfl) : SX ca X (.Expr e pos) (sDrop d) := PS.imp (ps_expr h hs) fun D σ H w => by
  obtain ⟨G, rfl, g, f, S', e1, k⟩ := w
  obtain ⟨p, h3, e1⟩ := Option.bind_eq_some_iff.mp e1
  cases e1
  exact ⟨G, rfl, g, p.1, p.2, h3, fun G1 v gv a1 a2 a3 a4 a5 => k G1 σ a1 a2 a3.loud⟩
theorem sx_ret {d : DE} (h : EX ca X e ef d) : SX ca X (.Return (some e) pos) (sRet d) := PS.imp (ps_ret h) fun D σ H w => by
  obtain ⟨G, rfl, g, f, S', e1, k⟩ := w
  obtain ⟨p, h3, e1⟩ := Option.bind_eq_some_iff.mp e1
  cases e1
  exact ⟨G, rfl, g, p.1, p.2, h3, fun G1 v gv a1 a2 a3 a4 a5 => k G1 σ a1 a2 a3.loud v gv a4 a5⟩
theorem sx_retN : SX ca X (.Return none pos) sRetN := PS.imp ps_retN fun D σ H w => by
  obtain ⟨G, rfl, g, f, S', e1, k⟩ := w
  cases e1
  exact k G σ rfl g (Step.refl _) .non [] (.bare ⟨rfl, rfl⟩) New.nil
theorem sx_if {c : Expr} {a b : List Stmt} {dc : DT} {d1 d2 : DS} (hc : TX ca X c ef dc) (ha : BX ca X a d1) (hb : BX ca X b d2) : SX ca X (.If c a b pos) (sIf dc d1 d2) := PS.imp (ps_if hc ha hb) fun D σ H w => by
  obtain ⟨G, rfl, g, f, S', e1, k⟩ := w
  obtain ⟨p, h3, e1⟩ := Option.bind_eq_some_iff.mp e1
  refine ⟨G, rfl, g, p.1, p.2, h3, fun G1 a1 a2 a3 => ?_⟩
  have fin : ∀ d : DS, d p.2 = some (f, S') → liftS X.K ca d D σ G1.H := fun d h => ⟨G1, rfl, a2, f, S', by rw [a1]; exact h, fun G2 σ2 b1 b2 b3 => by
    have k2 := k G2 σ2 b1 b2 (a3.loud.trans b3)
    cases f with
    | nx => exact k2
    | bk => exact k2
    | ct => exact k2
    | rt t => exact fun v gv m n => k2 v gv m (n.step a3)⟩
  split at e1
  · rename_i hp
    show if p.1 = true then _ else _
    rw [if_pos hp]
    exact fin d1 e1
  · rename_i hp
    show if p.1 = true then _ else _
    rw [if_neg hp]
    exact fin d2 e1
/-- a way that is not gone -/
def sNev : DS := fun _ => none
theorem sx_nev : SX ca X st sNev := PS.imp ps_never fun D σ H w => by
  obtain ⟨G, rfl, g, f, S', e1, k⟩ := w
  cases e1
theorem bx_nev {sts : List Stmt} : BX ca X sts sNev := PSs.imp pss_never fun D σ H w => by
  obtain ⟨G, rfl, g, f, S', e1, k⟩ := w
  cases e1

/-! ### targets -/
abbrev DG := T → SS → Option SS
def gNm (i : Nat) : DG := fun t S => if i < S.1.length then some (setS S i (some t)) else none
def gTp : List DG → T → SS → Option SS
  | gs, .tup ts, S => gAll gs ts S
  | _, _, _ => none
where gAll : List DG → List T → SS → Option SS
  | [], [], S => some S
  | g :: gs, t :: ts, S => (g t S).bind fun S' => gAll gs ts S'
  | _, _, _ => none
section
variable (K : PySem.W.Frag)
def liftG (ca : Str → Addr) (is : List Nat) (d : DG) : TG := fun v σ H Q => ∃ (G : Gh) (t : T) (g : List Addr), G.H = H ∧ Good K ca σ G ∧ Tmp G v t g ∧ ∃ S', d t G.S = some S' ∧ ∀ G' σ', G'.S = S' → Good K ca σ' G' → (∀ G0 ef, Step ef G0 G → New G0 g → Step true G0 G') → (∀ v2 t2 g2, Tmp G v2 t2 g2 → (∀ a ∈ g2, a ∉ g) → Tmp G' v2 t2 g2) → (∀ vs, (∀ i ∈ is, i ∈ vs) → wipe σ' vs = wipe σ vs) → Q σ' G'.H
def liftGs (ca : Str → Addr) (is : List Nat) (d : List T → SS → Option SS) : TGs := fun vs σ H Q => ∃ (G : Gh) (ts : List T) (g : List Addr), G.H = H ∧ Good K ca σ G ∧ Reps G.toHc ts vs g ∧ g.Nodup ∧ (∀ a ∈ g, (∀ k, a ∉ G.fp k) ∧ a ∉ G.ad ∧ G.P a = none) ∧ ∃ S', d ts G.S = some S' ∧
  ∀ G' σ', G'.S = S' → Good K ca σ' G' → (∀ G0 ef, Step ef G0 G → New G0 g → Step true G0 G') → (∀ v2 t2 g2, Tmp G v2 t2 g2 → (∀ a ∈ g2, a ∉ g) → Tmp G' v2 t2 g2) → (∀ vs, (∀ i ∈ is, i ∈ vs) → wipe σ' vs = wipe σ vs) → Q σ' G'.H
end
abbrev GX (ca : Str → Addr) (X : Cx) (e : Expr) (is : List Nat) (d : DG) : Prop := PG X e (liftG X.K ca is d)
abbrev GsX (ca : Str → Addr) (X : Cx) (e : List Expr) (is : List Nat) (d : List DG) : Prop := PGs X e (liftGs X.K ca is (gTp.gAll d))
theorem wipe_set {σ : L2.St} {i : Nat} {x : Option V} : ∀ {vs : List Nat}, i ∈ vs → wipe (σ.set i x) vs = wipe σ vs
  | [], m => absurd m (by simp)
  | v :: vs, m => by
    show (wipe (σ.set i x) vs).set v none = (wipe σ vs).set v none
    by_cases h : i ∈ vs
    · rw [wipe_set h]
    · have e : v = i := by
        rcases List.mem_cons.mp m with e | m
        · exact e.symm
        · exact absurd m h
      subst e
      have sw : ∀ ws : List Nat, v ∉ ws → wipe (σ.set v x) ws = (wipe σ ws).set v x := by
        intro ws
        induction ws with
        | nil => intro _; rfl
        | cons w ws ih =>
          intro n
          have n2 : v ≠ w ∧ v ∉ ws := by simpa using n
          show (wipe (σ.set v x) ws).set w none = ((wipe σ ws).set w none).set v x
          rw [ih n2.2, List.set_comm _ _ n2.1]
      rw [sw vs h, List.set_set]
theorem PG.imp {X : Cx} {e : Expr} {t t' : TG} (h : PG X e t) (i : ∀ v σ H Q, t' v σ H Q → t v σ H Q) : PG X e t' := ⟨fun pins s σ H v u Q I r w => h.run pins s σ H v u Q I r (i v σ H Q w)⟩
theorem PGs.imp {X : Cx} {e : List Expr} {t t' : TGs} (h : PGs X e t) (i : ∀ v σ H Q, t' v σ H Q → t v σ H Q) : PGs X e t' := ⟨fun pins s σ H v u Q I r w => h.run pins s σ H v u Q I r (i v σ H Q w)⟩
theorem Tmp.put {G : Gh} {v : V} {t : T} {g : List Addr} (m : Tmp G v t g) {i : Nat} {o : Option T} {gi : List Addr} (h : ∀ a ∈ g, a ∉ gi) : Tmp (G.put i o gi) v t g := ⟨m.rep, m.nd, fun a q => by
  obtain ⟨h1, h2, h3⟩ := m.out a q
  refine ⟨fun k z => ?_, h2, h3⟩
  by_cases e : k = .s i
  · subst e; rw [Gh.put_s] at z; exact h a q z
  · rw [Gh.put_ne e] at z; exact h1 k z⟩
theorem gx_name {i : Nat} {x : Str} (hN : X.N.Nodup) (hi : X.N[i]? = some x) (hx : Loc X.env.scope x) (hf : X.fn x = true ∨ X.env.scope.names.lookup x = some .local := by first | exact .inl rfl | exact .inr rfl | assumption) : GX ca X (.Name x pos) [i] (gNm i) :=
  PG.imp (pg_name hN hi hx hf) fun v σ H Q w => by
    obtain ⟨G, t, gt, rfl, g, m, S', e1, k⟩ := w
    unfold gNm at e1
    split at e1
    · rename_i hl
      cases e1
      have hl : i < σ.length := by rw [← g.len]; exact hl
      obtain ⟨g2, s2⟩ := g.store hl m
      exact k (G.put i (some t) gt) _ rfl g2 s2 (fun v2 t2 g2 m2 ap => m2.put ap) fun vs h => wipe_set (h i (by simp))
    · cases e1
theorem gsx_nil : GsX ca X [] [] [] := PGs.imp pgs_nil fun vs σ H Q w => by
  obtain ⟨G, ts, gt, rfl, g, r, nd, out, S', e1, k⟩ := w
  cases ts with
  | nil =>
    cases e1
    obtain ⟨rfl, rfl⟩ := r
    exact ⟨rfl, k G σ rfl g (fun G0 ef s _ => s.loud) (fun v2 t2 g2 m _ => m) fun _ _ => rfl⟩
  | cons t ts => cases e1
theorem gsx_cons {es : List Expr} {d : DG} {ds : List DG} {i1 i2 : List Nat} (h1 : GX ca X e i1 d) (h2 : GsX ca X es i2 ds) (hs : (assignEach (e :: es) X.env).map (·.2) = assign e X.env :: (assignEach es X.env).map (·.2) := by rfl) : GsX ca X (e :: es) (i1 ++ i2) (d :: ds) :=
  PGs.imp (pgs_cons h1 h2 hs) fun vs σ H Q w => by
    obtain ⟨G, ts, gt, rfl, g, r, nd, out, S', e1, k⟩ := w
    cases ts with
    | nil => cases e1
    | cons t ts =>
      obtain ⟨S1, h3, e1⟩ := Option.bind_eq_some_iff.mp (show (d t G.S).bind (fun S' => gTp.gAll ds ts S') = some S' from e1)
      obtain ⟨v, r', ga, gb, rfl, rfl, rt, rr⟩ := r
      have nda := (List.nodup_append.mp nd)
      have ap : ∀ a ∈ gb, a ∉ ga := fun a m m' => nda.2.2 a m' a m rfl
      refine ⟨v, r', rfl, G, t, ga, rfl, g, ⟨rt, nda.1, fun a m => out a (List.mem_append_left _ m)⟩, S1, h3, fun G1 σ1 a1 a2 a3 a4 a5 => ?_⟩
      -- the rest, as it stands behind
      have each : ∀ (us : List T) (ws : List V) (gg : List Addr), Reps G.toHc us ws gg → gg.Nodup → (∀ a ∈ gg, a ∉ ga) → (∀ a ∈ gg, (∀ k, a ∉ G.fp k) ∧ a ∉ G.ad ∧ G.P a = none) → Reps G1.toHc us ws gg := by
        intro us
        induction us with
        | nil => intro ws gg r _ _ _; exact r
        | cons u us ih =>
          intro ws gg r nd ap out
          obtain ⟨v, r', g1, g2, rfl, rfl, h1, h2⟩ := r
          have n2 := List.nodup_append.mp nd
          exact ⟨v, r', g1, g2, rfl, rfl, (a4 v u g1 ⟨h1, n2.1, fun a m => out a (List.mem_append_left _ m)⟩ fun a m => ap a (List.mem_append_left _ m)).rep, ih r' g2 h2 n2.2.1 (fun a m => ap a (List.mem_append_right _ m)) fun a m => out a (List.mem_append_right _ m)⟩
      have outs : ∀ (us : List T) (ws : List V) (gg : List Addr), Reps G.toHc us ws gg → gg.Nodup → (∀ a ∈ gg, a ∉ ga) → (∀ a ∈ gg, (∀ k, a ∉ G.fp k) ∧ a ∉ G.ad ∧ G.P a = none) → ∀ a ∈ gg, (∀ k, a ∉ G1.fp k) ∧ a ∉ G1.ad ∧ G1.P a = none := by
        intro us
        induction us with
        | nil => intro ws gg r _ _ _ a m; rw [r.2] at m; exact absurd m (by simp)
        | cons u us ih =>
          intro ws gg r nd ap out a m
          obtain ⟨v, r', g1, g2, rfl, rfl, h1, h2⟩ := r
          have n2 := List.nodup_append.mp nd
          rcases List.mem_append.mp m with m | m
          · exact (a4 v u g1 ⟨h1, n2.1, fun a m => out a (List.mem_append_left _ m)⟩ fun a m => ap a (List.mem_append_left _ m)).out a m
          · exact ih r' g2 h2 n2.2.1 (fun a m => ap a (List.mem_append_right _ m)) (fun a m => out a (List.mem_append_right _ m)) a m
      have outb : ∀ a ∈ gb, (∀ k, a ∉ G.fp k) ∧ a ∉ G.ad ∧ G.P a = none := fun a m => out a (List.mem_append_right _ m)
      refine ⟨G1, ts, gb, rfl, a2, each ts r' gb rr nda.2.1 ap outb, nda.2.1, outs ts r' gb rr nda.2.1 ap outb, S', by rw [a1]; exact e1, fun G2 σ2 b1 b2 b3 b4 b5 => ?_⟩
      exact k G2 σ2 b1 b2 (fun G0 ef s n => b3 G0 true (a3 G0 ef s fun a m => n a (List.mem_append_left _ m)) fun a m => n a (List.mem_append_right _ m)) (fun v2 t2 g2 m ap2 => b4 v2 t2 g2 (a4 v2 t2 g2 m fun a q => fun z => ap2 a q (List.mem_append_left _ z)) fun a q => fun z => ap2 a q (List.mem_append_right _ z)) fun vs h => (b5 vs fun i m => h i (List.mem_append_right _ m)).trans (a5 vs fun i m => h i (List.mem_append_left _ m))
theorem gx_tup {es : List Expr} {kk : Nat} {ds : List DG} {is : List Nat} {n : Nat} (hc : X.calm = true) (h : GsX ca X es is ds) (hl : ds.length = n := by rfl)
    (hn : (assignEach es X.env).length = n := by rfl) (hst : (assignEach es X.env).findIdx? (·.1) = none := by rfl) : GX ca X (.Tuple es kk pos) is (gTp ds) :=
  PG.imp (pg_tup hc h hn hst) fun v σ H Q w => by
    obtain ⟨G, t, gt, rfl, g, m, S', e1, k⟩ := w
    cases t with
    | tup ts =>
      have e1 : gTp.gAll ds ts G.S = some S' := e1
      obtain ⟨p, vs, rfl, a1, r⟩ := Rep.tupT g.fp g.ph m.rep
      have hK : G.K = X.K := g.k
      have len : ∀ (ds : List DG) (ts : List T) (S S' : SS), gTp.gAll ds ts S = some S' → ts.length = ds.length := by
        intro ds
        induction ds with
        | nil => intro ts S S' e; cases ts with
          | nil => rfl
          | cons t ts => cases e
        | cons d ds ih => intro ts S S' e; cases ts with
          | nil => cases e
          | cons t ts =>
            obtain ⟨S1, h3, e1⟩ := Option.bind_eq_some_iff.mp (show (d t S).bind (fun S' => gTp.gAll ds ts S') = some S' from e)
            rw [List.length_cons, List.length_cons, ih ts S1 S' e1]
      exact ⟨p, vs, rfl, hK ▸ a1, by rw [r.len, len _ _ _ _ e1, hl], G, ts, gt, rfl, g, r, m.nd, m.out, S', e1, k⟩
    | _ => cases e1
/-! target = value -/
def sAsg (d : DE) (g : DG) : DS := fun S => (d S).bind fun p => (g p.1 p.2).bind fun S' => some (.nx, S')
theorem sx_asg {tg : Expr} {d : DE} {dg : DG} {is : List Nat} (h : EX ca X e ef d) (hg : GX ca X tg is dg) (hs : swapsWithSole [tg] e pos.line X.env = pure false := by rfl) (hw : swappedStores [tg] e X.env = pure none := by rfl)
    (h1 : (assignEach [tg] X.env).map (·.2) = [assign tg X.env] := by rfl) : SX ca X (.Assign [tg] e pos) (sAsg d dg) := PS.imp (ps_asg h hg hs hw h1) fun D σ H w => by
  obtain ⟨G, rfl, g, f, S', e1, k⟩ := w
  obtain ⟨p, h3, e1⟩ := Option.bind_eq_some_iff.mp e1
  obtain ⟨S2, h4, e1⟩ := Option.bind_eq_some_iff.mp e1
  cases e1
  exact ⟨G, rfl, g, p.1, p.2, h3, fun G1 v gv a1 a2 a3 a4 a5 => ⟨G1, p.1, gv, rfl, a2, a4, _, by rw [a1]; exact h4, fun G2 σ2 b1 b2 b3 _ _ => k G2 σ2 b1 b2 (b3 G ef a3 a5)⟩⟩
theorem sx_set {i : Nat} {x : Str} {d : DE} {pos' : Pos} (hN : X.N.Nodup) (hi : X.N[i]? = some x) (hx : Loc X.env.scope x) (h : EX ca X e ef d) (hs : swapsWith e (some (.Name x pos')) pos.line X.env = pure false := by rfl)
    (hf : X.fn x = true ∨ X.env.scope.names.lookup x = some .local := by first | exact .inl rfl | exact .inr rfl | assumption) : SX ca X (.Assign [.Name x pos'] e pos) (sAsg d (gNm i)) := PS.imp (ps_set hN hi hx h hs hf) fun D σ H w => by
  obtain ⟨G, rfl, g, f, S', e1, k⟩ := w
  obtain ⟨p, h3, e1⟩ := Option.bind_eq_some_iff.mp e1
  obtain ⟨S2, h4, e1⟩ := Option.bind_eq_some_iff.mp e1
  cases e1
  refine ⟨G, rfl, g, p.1, p.2, h3, fun G1 v gv a1 a2 a3 a4 a5 => ?_⟩
  unfold gNm at h4
  split at h4
  · rename_i hl
    cases h4
    have hl : i < σ.length := by
      have e2 : G1.τ.length = p.2.1.length := by rw [← a1]
      rw [← a2.len, e2]; exact hl
    obtain ⟨g2, s2⟩ := a2.store hl a4
    refine k (G1.put i (some p.1) gv) _ ?_ g2 (s2 G ef a3 a5)
    show (G1.τ.set i (some p.1), G1.O) = setS p.2 i (some p.1)
    rw [← a1] <;> rfl
  · cases h4
end
end TL

set_option Elab.async false
set_option linter.all false
set_option maxRecDepth 100000
/-! TL7: what is walked; for, while; comprehensions. -/
namespace TL
open PySem PySem.Spec L2

abbrev DI := SS → Option (List T × SS)
/-- the iterator J yields the trees ts, whatever is done meanwhile -/
def Walks (K : PySem.W.Frag) (ca : Str → Addr) (J : It) (ts : List T) (G : Gh) : Prop := ∀ (G' : Gh) (σ : L2.St), Good K ca σ G' → Step true G G' →
  (∀ (i : Nat) (t : T), ts[i]? = some t → J.go i G'.H ∧ ∀ x H'', J.yld i G'.H x H'' → ∃ G'', G''.H = H'' ∧ G''.S = G'.S ∧ Good K ca σ G'' ∧ Step false G' G'' ∧ Tmp G'' x t []) ∧ J.stop ts.length G'.H
section
variable (K : PySem.W.Frag)
def liftI (ca : Str → Addr) (ef : Bool) (d : DI) : TI := fun σ H R => ∃ G : Gh, G.H = H ∧ Good K ca σ G ∧ ∃ ts S', d G.S = some (ts, S') ∧ ∀ G' J, G'.S = S' → Good K ca σ G' → Step ef G G' → Walks K ca J ts G' → R J G'.H
end
abbrev IX (ca : Str → Addr) (X : Cx) (tg e : Expr) (ef : Bool) (d : DI) : Prop := PI X tg e (liftI X.K ca ef d)
theorem PI.imp {X : Cx} {tg e : Expr} {t t' : TI} (h : PI X tg e t) (i : ∀ σ H Q, t' σ H Q → t σ H Q) : PI X tg e t' := ⟨fun pins s σ H R I w => h.run pins s σ H R I (i σ H R w)⟩

/-! ### for -/
def forGo (g : DG) (b : DS) : List T → SS → Option (Fl × SS)
  | [], S => some (.nx, S)
  | t :: ts, S => (g t S).bind fun S1 => (b S1).bind fun q => match q.1 with
    | .nx => forGo g b ts q.2
    | .ct => forGo g b ts q.2
    | .bk => some (.nx, q.2)
    | .rt r => some (.rt r, q.2)
def sFor (d : DI) (g : DG) (b : DS) : DS := fun S => (d S).bind fun p => forGo g b p.1 p.2
def whGo (c : DT) (b : DS) : Nat → SS → Option (Fl × SS)
  | 0, _ => none
  | n + 1, S => (c S).bind fun p => if p.1 = true then (b p.2).bind fun q => match q.1 with
      | .nx => whGo c b n q.2
      | .ct => whGo c b n q.2
      | .bk => some (.nx, q.2)
      | .rt r => some (.rt r, q.2)
    else some (.nx, p.2)
def sWhile (n : Nat) (c : DT) (b : DS) : DS := whGo c b n
section
variable {X : Cx} {ca : Str → Addr} {ef : Bool} {pos : Pos}
theorem sx_for {tg iter : Expr} {body : List Stmt} {d : DI} {dg : DG} {is : List Nat} {db : DS} (hp : PassesOwn (model X.prog X.w) X.A X.env X.xe) (hc : X.calm = true) (hi : IX ca X tg iter ef d) (hg : GX ca X tg is dg) (hb : BX ca X body db)
    (hs : ∀ x, foldedSetIterable iter X.env x = pure x := by intro _; rfl) : SX ca X (.For tg iter body [] pos) (sFor d dg db) := PS.imp (ps_for hp hc hi hg hb hs) fun D σ H w => by
  obtain ⟨G, rfl, g, f, S', e1, k⟩ := w
  obtain ⟨p, h3, e1⟩ := Option.bind_eq_some_iff.mp e1
  refine ⟨G, rfl, g, p.1, p.2, h3, fun G1 J a1 a2 a3 wk => ?_⟩
  refine ⟨fun i m σ' H' => ∃ G', G'.H = H' ∧ Good X.K ca σ' G' ∧ Step true G1 G' ∧ m = p.1.length - i ∧ i ≤ p.1.length ∧ forGo dg db (p.1.drop i) G'.S = some (f, S'), ⟨p.1.length, G1, rfl, a2, Step.refl _, by simp, Nat.zero_le _, by rw [a1, List.drop_zero]; exact e1⟩, ?_⟩
  rintro i m σ' H' ⟨G', rfl, gg, st, rfl, hi, e⟩
  obtain ⟨w1, w2⟩ := wk G' σ' gg st
  by_cases hlt : i < p.1.length
  · right
    have ht : p.1[i]? = some p.1[i] := List.getElem?_eq_getElem hlt
    obtain ⟨go, yl⟩ := w1 i _ ht
    rw [List.drop_eq_getElem_cons hlt] at e
    obtain ⟨S1, e2, e⟩ := Option.bind_eq_some_iff.mp (show (dg p.1[i] G'.S).bind _ = some (f, S') from e)
    obtain ⟨q, e3, e⟩ := Option.bind_eq_some_iff.mp e
    refine ⟨go, fun σ'' H'' => ∃ G'', G''.H = H'' ∧ Good X.K ca σ'' G'' ∧ Step true G1 G'' ∧ forGo dg db (p.1.drop (i + 1)) G''.S = some (f, S'), fun σ'' H'' ⟨G'', b1, b2, b3, b4⟩ => ⟨p.1.length - (i + 1), by omega, G'', b1, b2, b3, rfl, hlt, b4⟩, fun x H'' y => ?_⟩
    obtain ⟨G2, rfl, b1, b2, b3, b4⟩ := yl x H'' y
    refine ⟨G2, p.1[i], [], rfl, b2, b4, S1, by rw [b1]; exact e2, fun G3 σ3 c1 c2 c3 _ _ => ?_⟩
    have st3 : Step true G1 G3 := c3 G1 true (st.trans b3) New.nil
    refine ⟨G3, rfl, c2, q.1, q.2, by rw [c1]; exact e3, fun G4 σ4 d1 d2 d3 => ?_⟩
    have st4 : Step true G1 G4 := st3.trans d3
    cases hq : q.1 with
    | nx => rw [hq] at e; exact ⟨G4, rfl, d2, st4, by rw [d1]; exact e⟩
    | ct => rw [hq] at e; exact ⟨G4, rfl, d2, st4, by rw [d1]; exact e⟩
    | bk =>
      rw [hq] at e
      cases e
      exact k G4 σ4 d1 d2 (a3.loud.trans st4)
    | rt r =>
      rw [hq] at e
      cases e
      exact fun v gv m n => k G4 σ4 d1 d2 (a3.loud.trans st4) v gv m (n.step (a3.loud.trans st3))
  · left
    have e0 : i = p.1.length := by omega
    subst e0
    rw [List.drop_length] at e
    cases e
    exact ⟨w2, k G' σ' rfl gg (a3.loud.trans st)⟩
theorem sx_while {n : Nat} {c : Expr} {body : List Stmt} {dc : DT} {db : DS} (hp : PassesOwn (model X.prog X.w) X.A X.env X.xe) (hc : TX ca X c ef dc) (hb : BX ca X body db) : SX ca X (.While c body [] pos) (sWhile n dc db) := PS.imp (ps_while hp hc hb) fun D σ H w => by
  obtain ⟨G, rfl, g, f, S', e1, k⟩ := w
  refine ⟨fun m σ' H' => ∃ G', G'.H = H' ∧ Good X.K ca σ' G' ∧ Step true G G' ∧ whGo dc db m G'.S = some (f, S'), ⟨n, G, rfl, g, Step.refl _, e1⟩, ?_⟩
  rintro m σ' H' ⟨G', rfl, gg, st, e⟩
  cases m with
  | zero => cases e
  | succ m =>
    obtain ⟨p, h3, e⟩ := Option.bind_eq_some_iff.mp (show (dc G'.S).bind _ = some (f, S') from e)
    refine ⟨G', rfl, gg, p.1, p.2, h3, fun G1 a1 a2 a3 => ?_⟩
    have st1 : Step true G G1 := st.trans a3
    split at e
    · rename_i hp
      show if p.1 = true then _ else _
      rw [if_pos hp]
      obtain ⟨q, e3, e⟩ := Option.bind_eq_some_iff.mp e
      refine ⟨fun σ'' H'' => ∃ G'', G''.H = H'' ∧ Good X.K ca σ'' G'' ∧ Step true G G'' ∧ whGo dc db m G''.S = some (f, S'), fun σ'' H'' ⟨G'', b1, b2, b3, b4⟩ => ⟨m, Nat.lt_succ_self m, G'', b1, b2, b3, b4⟩, ?_⟩
      refine ⟨G1, rfl, a2, q.1, q.2, by rw [a1]; exact e3, fun G4 σ4 d1 d2 d3 => ?_⟩
      have st4 : Step true G G4 := st1.trans d3
      cases hq : q.1 with
      | nx => rw [hq] at e; exact ⟨G4, rfl, d2, st4, by rw [d1]; exact e⟩
      | ct => rw [hq] at e; exact ⟨G4, rfl, d2, st4, by rw [d1]; exact e⟩
      | bk =>
        rw [hq] at e
        cases e
        exact k G4 σ4 d1 d2 st4
      | rt r =>
        rw [hq] at e
        cases e
        exact fun v gv m n => k G4 σ4 d1 d2 st4 v gv m (n.step st1)
    · rename_i hp
      show if p.1 = true then _ else _
      rw [if_neg hp]
      cases e
      exact k G1 σ' a1 a2 st1
end

/-! ### comprehensions -/
def wipeS (S : SS) (own : List Nat) : SS := (own.foldl (fun τ i => τ.set i none) S.1, S.2)
def lcGo (own : List Nat) (g : DG) (tt : DT) (te : DE) : List T → List T → SS → Option (List T × SS)
  | [], acc, S => some (acc, S)
  | t :: ts, acc, S => (g t S).bind fun S1 => (tt S1).bind fun p => if p.1 = true then (te p.2).bind fun q => if acc.length < sizeLine then lcGo own g tt te ts (acc ++ [q.1]) (wipeS q.2 own) else none
      else lcGo own g tt te ts acc (wipeS p.2 own)
def dLc (own : List Nat) (d : DI) (g : DG) (tt : DT) (te : DE) : DE := fun S => (d S).bind fun p => (lcGo own g tt te p.1 [] (wipeS p.2 own)).bind fun q => some (.lst .ow q.1, q.2)
def tYesD : DT := fun S => some (true, S)
section
variable {K : PySem.W.Frag} {ca : Str → Addr} {σ : L2.St} {G : Gh}
/-- a slot that bears nothing may hold anything -/
theorem Good.any (g : Good K ca σ G) {i : Nat} {x : Option V} (h : ∀ t, G.τ[i]? ≠ some (some t)) : Good K ca (σ.set i x) G := by
  refine { g with len := (by rw [List.length_set]; exact g.len), sl := fun j t e => ?_ }
  obtain ⟨v, a, r⟩ := g.sl j t e
  refine ⟨v, ?_, r⟩
  rw [List.getElem?_set_ne (fun z => h t (by rw [z]; exact e))]
  exact a
/-- slots forgotten: in the trees, then in the values -/
theorem Good.wipes : ∀ (vs : List Nat) {G : Gh} {σ : L2.St}, Good K ca σ G → ∃ G', G'.H = G.H ∧ G'.S = wipeS G.S vs ∧ Good K ca σ G' ∧ Step true G G' ∧ (∀ v t g, Tmp G v t g → Tmp G' v t g) ∧ ∀ i ∈ vs, ∀ t, G'.τ[i]? ≠ some (some t)
  | [], G, σ, g => ⟨G, rfl, rfl, g, Step.refl _, fun _ _ _ m => m, fun _ m => absurd m (by simp)⟩
  | i :: vs, G, σ, g => by
    obtain ⟨g1, s1⟩ := g.drop i
    obtain ⟨G', a1, a2, a3, a4, a5, a6⟩ := Good.wipes vs g1
    refine ⟨G', a1, a2, a3, s1.trans a4, fun v t gg m => a5 v t gg (m.put fun _ _ => by simp), fun j m t => ?_⟩
    rcases List.mem_cons.mp m with e | m
    · subst e
      by_cases h : j ∈ vs
      · exact a6 j h t
      · have q : G'.τ = vs.foldl (fun τ i => τ.set i none) (G.τ.set j none) := congrArg Prod.fst a2
        have keep : ∀ (ws : List Nat) (τ : List (Option T)), (∀ t, τ[j]? ≠ some (some t)) → ∀ t, (ws.foldl (fun τ i => τ.set i none) τ)[j]? ≠ some (some t) := by
          intro ws
          induction ws with
          | nil => intro τ h; exact h
          | cons w ws ih =>
            intro τ h
            refine ih (τ.set w none) fun t e => ?_
            rcases setAt e with ⟨_, z, _⟩ | ⟨_, z⟩
            · cases z
            · exact h t z
        rw [q]
        refine keep vs _ (fun t e => ?_) t
        rcases setAt e with ⟨_, z, _⟩ | ⟨z, _⟩
        · cases z
        · exact z rfl
    · exact a6 j m t
theorem Good.wiped {vs : List Nat} (g : Good K ca σ G) (h : ∀ i ∈ vs, ∀ t, G.τ[i]? ≠ some (some t)) : Good K ca (wipe σ vs) G := by
  induction vs with
  | nil => exact g
  | cons v vs ih =>
    show Good K ca ((wipe σ vs).set v none) G
    exact (ih fun i m => h i (List.mem_cons_of_mem _ m)).any (h v (by simp))
theorem wipe_off {σ : L2.St} {i : Nat} : ∀ {vs : List Nat}, i ∉ vs → (wipe σ vs)[i]? = σ[i]? := fun h => L2.wipe_out h
/-- back to the values ahead of the wiping -/
theorem Good.unwipe {vs : List Nat} (g : Good K ca (wipe σ vs) G) (h : ∀ i ∈ vs, ∀ t, G.τ[i]? ≠ some (some t)) : Good K ca σ G := by
  refine { g with len := (by rw [g.len, wipe_length]), sl := fun j t e => ?_ }
  obtain ⟨v, a, r⟩ := g.sl j t e
  refine ⟨v, ?_, r⟩
  rw [wipe_off fun m => h j m t e] at a
  exact a
theorem wipe_idem {σ : L2.St} {own : List Nat} : ∀ ws : List Nat, (∀ i ∈ ws, i ∈ own) → wipe (wipe σ own) ws = wipe σ own
  | [], _ => rfl
  | w :: ws, h => by
    show (wipe (wipe σ own) ws).set w none = wipe σ own
    rw [wipe_idem ws fun i m => h i (List.mem_cons_of_mem _ m)]
    refine List.ext_getElem? fun j => ?_
    by_cases ej : w = j
    · subst ej
      by_cases lj : w < (wipe σ own).length
      · rw [List.getElem?_set_self lj]
        cases q : (wipe σ own)[w]? with
        | none => exact absurd (List.getElem?_eq_none_iff.mp q) (by omega)
        | some o =>
          cases o with
          | none => rfl
          | some v => exact absurd (h w (by simp)) (wipe_some q).2
      · rw [List.getElem?_eq_none (by simpa using lj), List.getElem?_eq_none (by simpa using lj)]
    · rw [List.getElem?_set_ne ej]
/-- the object at an address that nobody here holds, written -/
def Gh.setH (G : Gh) (p : Addr) (o : HO) : Gh := { G with H := upd G.H p o }
theorem Good.setH (g : Good K ca σ G) {p : Addr} {o : HO} (h1 : ∀ k, p ∉ G.fp k) (h2 : p ∉ G.ad) (h3 : G.P p = none) : Good K ca σ (G.setH p o) := by
  have ex : ∀ gg : List Addr, p ∉ gg → Ex G.toHc (G.setH p o).toHc gg := fun gg n => ⟨rfl, rfl, Same.refl _, Same.refl _, fun a m u e => by
    show upd G.H p o a = _
    rw [upd_ne fun z => n (by rw [← z]; exact m)]; exact e, ⟨[], by show G.ad = _; simp⟩⟩
  refine { g with ph := fun a u e => ?_, sl := fun i t e => ?_, ob := fun n b e => ?_ }
  · show upd G.H p o a = _
    have e : G.P a = some u := e
    rw [upd_ne fun z => by rw [z, h3] at e; cases e]
    exact g.ph a u e
  · obtain ⟨v, a, r⟩ := g.sl i t e
    exact ⟨v, a, Rep.ex _ _ _ (ex _ (h1 _)) r⟩
  · obtain ⟨q, a, r⟩ := g.ob n b e
    refine ⟨q, a, r.ex (ex _ fun m => ?_)⟩
    rcases List.mem_cons.mp m with z | m
    · subst z; exact h2 (List.mem_of_getElem? a)
    · exact h1 _ m
theorem Step.setH {ef : Bool} {G0 G : Gh} {p : Addr} {o : HO} (s : Step ef G0 G) (hp : G0.H p = none) (hl : ef = true) : Step true G0 (G.setH p o) := { s with
  fr := fun a u e h1 h2 => by
    show upd G.H p o a = _
    rw [upd_ne fun z => by rw [z, hp] at e; cases e]
    exact s.fr a u e h1 h2
  dom := fun a e => by
    show upd G.H p o a ≠ none
    by_cases z : a = p
    · rw [z]; exact absurd hp (z ▸ e)
    · rw [upd_ne z]; exact s.dom a e
  q := fun e => by cases e }
end
section
variable {X : Cx} {ca : Str → Addr} {ef et ee : Bool} {pos : Pos}
abbrev TsX (ca : Str → Addr) (X : Cx) (es : List Expr) (ef : Bool) (d : DT) : Prop := PTs X es (liftT X.K ca ef d)
theorem tsx_nil : TsX ca X [] false tYesD := ⟨fun pins s σ H Q I w => pts_nil.run pins s σ H Q I (by
  obtain ⟨G, rfl, g, b, S', e1, k⟩ := w
  cases e1
  exact k G rfl g (Step.refl _))⟩
theorem tsx_one {c : Expr} {d : DT} (h : TX ca X c ef d) : TsX ca X [c] ef d := pts_one h
theorem lc_of {K : PySem.W.Frag} {own : List Nat} {d : DI} {dg : DG} {is : List Nat} {dt : DT} {de : DE} (hsub : ∀ i ∈ is, i ∈ own) {σ : L2.St} {H : Hp} {Q : VK} (w : liftE K ca true (dLc own d dg dt de) σ H Q) :
    tLc (liftI K ca ef d) (liftG K ca is dg) (liftT K ca et dt) (liftE K ca ee de) own σ H Q := by
  obtain ⟨G, rfl, g, r, S', e1, k⟩ := w
  obtain ⟨p, h3, e1⟩ := Option.bind_eq_some_iff.mp e1
  obtain ⟨z, h4, e1⟩ := Option.bind_eq_some_iff.mp e1
  cases e1
  refine ⟨G, rfl, g, p.1, p.2, h3, fun G1 J a1 a2 a3 wk D hD => ?_⟩
  -- the own slots forgotten
  obtain ⟨Gw, w1, w2, w3, w4, w5, w6⟩ := Good.wipes own a2
  have hDw : Gw.H D = none := by rw [w1]; exact hD
  -- the invariant
  refine ⟨fun i m H' => ∃ (G' : Gh) (acc : List T) (vs : List V) (ga : List Addr), G'.H = H' ∧ Good K ca (wipe σ own) G' ∧ (∀ i ∈ own, ∀ t, G'.τ[i]? ≠ some (some t)) ∧ Step true G1 G' ∧ H' D = some (.lst vs) ∧ Tmp G' (.ref D) (.lst .ow acc) (D :: ga) ∧ Reps G'.toHc acc vs ga ∧ New G1 ga ∧ m = p.1.length - i ∧ i ≤ p.1.length ∧ lcGo own dg dt de (p.1.drop i) acc G'.S = some z, ⟨p.1.length, ?_⟩, ?_⟩
  · obtain ⟨g2, s2⟩ := w3.newH (o := .lst []) hDw
    have r0 : Reps Gw.toHc [] [] [] := ⟨rfl, rfl⟩
    refine ⟨Gw.newH D (.lst []), [], [], [], by show upd Gw.H D _ = _; rw [w1], (g2.wiped (vs := own) w6), w6, w4.trans s2, upd_same, w3.newL hDw r0 List.nodup_nil (fun _ m => absurd m (by simp)), ⟨rfl, rfl⟩, New.nil, by simp, Nat.zero_le _, ?_⟩
    show lcGo own dg dt de (p.1.drop 0) [] Gw.S = some z
    rw [w2, a1, List.drop_zero]
    exact h4
  · rintro i m H' ⟨G', acc, vs, ga, rfl, gg, gw, st, hDl, tm, rs, nw, rfl, hi, e⟩
    obtain ⟨wk1, wk2⟩ := wk G' (wipe σ own) gg st
    by_cases hlt : i < p.1.length
    · right
      have ht : p.1[i]? = some p.1[i] := List.getElem?_eq_getElem hlt
      obtain ⟨go, yl⟩ := wk1 i _ ht
      rw [List.drop_eq_getElem_cons hlt] at e
      obtain ⟨S1, e2, e⟩ := Option.bind_eq_some_iff.mp (show (dg p.1[i] G'.S).bind _ = some z from e)
      obtain ⟨q, e3, e⟩ := Option.bind_eq_some_iff.mp e
      refine ⟨go, fun H'' => ∃ (G' : Gh) (acc : List T) (vs : List V) (ga : List Addr), G'.H = H'' ∧ Good K ca (wipe σ own) G' ∧ (∀ i ∈ own, ∀ t, G'.τ[i]? ≠ some (some t)) ∧ Step true G1 G' ∧ H'' D = some (.lst vs) ∧ Tmp G' (.ref D) (.lst .ow acc) (D :: ga) ∧ Reps G'.toHc acc vs ga ∧ New G1 ga ∧ lcGo own dg dt de (p.1.drop (i + 1)) acc G'.S = some z,
        fun H'' ⟨G'', acc', vs', ga', b1, b2, b3, b4, b5, b6, b7, b8, b9⟩ => ⟨p.1.length - (i + 1), by omega, G'', acc', vs', ga', b1, b2, b3, b4, b5, b6, b7, b8, rfl, hlt, b9⟩, fun x H'' y => ?_⟩
      obtain ⟨G2, rfl, b1, b2, b3, b4⟩ := yl x H'' y
      refine ⟨G2, p.1[i], [], rfl, b2, b4, S1, by rw [b1]; exact e2, fun G3 σ3 c1 c2 c3 c4 c5 => ⟨?_, ?_⟩⟩
      · rw [c5 own hsub]
        exact wipe_idem own fun _ m => m
      · have st2 : Step true G1 G2 := st.trans b3
        have st3 : Step true G1 G3 := c3 G1 true st2 New.nil
        have tm3 : Tmp G3 (.ref D) (.lst .ow acc) (D :: ga) := c4 _ _ _ (tm.step b3) fun _ _ => by simp
        have wσ : wipe σ3 own = wipe σ own := by
          rw [c5 own hsub]
          exact wipe_idem own fun _ m => m
        -- a turn's end: the own slots forgotten again
        have fin : ∀ (G4 : Gh) (acc' : List T) (vs' : List V) (ga' : List Addr), Good K ca σ3 G4 → Step true G1 G4 → G4.H D = some (.lst vs') → Tmp G4 (.ref D) (.lst .ow acc') (D :: ga') → Reps G4.toHc acc' vs' ga' → New G1 ga' → lcGo own dg dt de (p.1.drop (i + 1)) acc' (wipeS G4.S own) = some z →
            ∃ (G' : Gh) (acc : List T) (vs : List V) (ga : List Addr), G'.H = G4.H ∧ Good K ca (wipe σ own) G' ∧ (∀ i ∈ own, ∀ t, G'.τ[i]? ≠ some (some t)) ∧ Step true G1 G' ∧ G4.H D = some (.lst vs) ∧ Tmp G' (.ref D) (.lst .ow acc) (D :: ga) ∧ Reps G'.toHc acc vs ga ∧ New G1 ga ∧ lcGo own dg dt de (p.1.drop (i + 1)) acc G'.S = some z := by
          intro G4 acc' vs' ga' d1 d2 d3 d4 d5 d6 d7
          obtain ⟨G5, x1, x2, x3, x4, x5, x6⟩ := Good.wipes own d1
          have t5 := x5 _ _ _ d4
          refine ⟨G5, acc', vs', ga', x1, wσ ▸ (x3.wiped x6), x6, d2.trans x4, d3, t5, ?_, d6, by rw [x2]; exact d7⟩
          obtain ⟨pp, vv, gv, u1, u2, u3, u4⟩ := t5.rep
          cases u1
          have u5 : G5.H D = some (.lst vs') := by rw [x1]; exact d3
          have u2 : G5.H D = some (.lst vv) := u2
          rw [u5] at u2
          cases u2
          have u6 : ga' = gv := (List.cons.inj u4).2
          rw [u6]
          exact u3
        refine ⟨G3, rfl, c2, q.1, q.2, by rw [c1]; exact e3, fun G4 d1 d2 d3 => ?_⟩
        have tm4 : Tmp G4 (.ref D) (.lst .ow acc) (D :: ga) := tm3.step d3
        have st4 : Step true G1 G4 := st3.trans d3
        have at4 : ∀ {GG : Gh} {ac : List T} {gg : List Addr}, Tmp GG (.ref D) (.lst .ow ac) (D :: gg) → ∃ vv, GG.H D = some (.lst vv) ∧ Reps GG.toHc ac vv gg := fun {GG ac gg} t => by
          obtain ⟨pp, vv, gv, u1, u2, u3, u4⟩ := t.rep
          cases u1
          have u6 : gg = gv := (List.cons.inj u4).2
          exact ⟨vv, u2, by rw [u6]; exact u3⟩
        split at e
        · rename_i hq
          show if q.1 = true then _ else _
          rw [if_pos hq]
          obtain ⟨y, e5, e⟩ := Option.bind_eq_some_iff.mp e
          split at e
          · rename_i hlen
            refine ⟨G4, rfl, d2, y.1, y.2, by rw [d1]; exact e5, fun G5 v gv f1 f2 f3 f4 f5 => ?_⟩
            have tm5 := tm4.step f3
            have st5 : Step true G1 G5 := st4.trans f3
            obtain ⟨vv, u2, u3⟩ := at4 tm5
            refine ⟨vv, u2, by rw [u3.len]; exact hlen, ?_⟩
            have oD := tm5.out D (by simp)
            have ndD := List.nodup_cons.mp tm5.nd
            have ap := tm4.apart f5
            have DnV : D ∉ gv := ap D (by simp)
            have gaV : ∀ a ∈ ga, a ∉ gv := fun a m => ap a (List.mem_cons_of_mem _ m)
            have g6 := f2.setH (o := .lst (vv ++ [v])) oD.1 oD.2.1 oD.2.2
            have ex : ∀ gg : List Addr, D ∉ gg → Ex G5.toHc (G5.setH D (.lst (vv ++ [v]))).toHc gg := fun gg n => ⟨rfl, rfl, Same.refl _, Same.refl _, fun a m u e => by
              show upd G5.H D _ a = _
              rw [upd_ne fun z => n (by rw [← z]; exact m)]; exact e, ⟨[], by show G5.ad = _; simp⟩⟩
            have r6 : Reps (G5.setH D (.lst (vv ++ [v]))).toHc (acc ++ [y.1]) (vv ++ [v]) (ga ++ gv) := by
              refine (Reps.ex _ _ _ (ex ga ndD.1) u3).append ?_
              exact ⟨v, [], gv, [], rfl, by simp, Rep.ex _ _ _ (ex gv DnV) f4.rep, rfl, rfl⟩
            refine fin (G5.setH D (.lst (vv ++ [v]))) (acc ++ [y.1]) (vv ++ [v]) (ga ++ gv) g6 (st5.setH hD rfl) upd_same ⟨⟨D, _, _, rfl, upd_same, r6, rfl⟩, ?_, ?_⟩ r6 ?_ ?_
            · refine List.nodup_cons.mpr ⟨fun m => ?_, List.nodup_append.mpr ⟨ndD.2, f4.nd, fun a m b m' q => gaV a m (q ▸ m')⟩⟩
              rcases List.mem_append.mp m with m | m
              · exact ndD.1 m
              · exact DnV m
            · intro a m
              rcases List.mem_cons.mp m with e | m
              · rw [e]; exact oD
              · rcases List.mem_append.mp m with m | m
                · exact tm5.out a (List.mem_cons_of_mem _ m)
                · exact f4.out a m
            · intro a m
              rcases List.mem_append.mp m with m | m
              · exact nw a m
              · exact (f5.step st4) a m
            · show lcGo own dg dt de (p.1.drop (i + 1)) (acc ++ [y.1]) (wipeS G5.S own) = some z
              rw [f1]; exact e
          · cases e
        · rename_i hq
          show if q.1 = true then _ else _
          rw [if_neg hq]
          obtain ⟨vv, u2, u3⟩ := at4 tm4
          exact fin G4 acc vv ga d2 st4 u2 tm4 u3 nw (by rw [d1]; exact e)
    · left
      have e0 : i = p.1.length := by omega
      subst e0
      rw [List.drop_length] at e
      cases e
      refine ⟨wk2, k G' (.ref D) (D :: ga) rfl (gg.unwipe gw) (a3.loud.trans st) tm ?_⟩
      have hD0 : G.H D = none := by
        cases q : G.H D with
        | none => rfl
        | some u => exact absurd hD (a3.dom D (by rw [q]; simp))
      exact New.cons hD0 (nw.step a3)
theorem ex_lc {elt tg iter : Expr} {ifs : List Expr} {scope : Scope} {own : List (Str × Nat)} {d : DI} {dg : DG} {is : List Nat} {dt : DT} {de : DE} (hsub : ∀ i ∈ is, i ∈ own.map (·.2)) (hc : X.calm = true) (hN : X.N.Nodup) (hi : IX ca X tg iter ef d) (ok : BlkOk X.N X.env.scope scope own)
    (hg : ∀ (s : Shared) (H : Hp) (C : Addr) (cl : List (Str × Addr)) (fp : List Addr), GX ca (X.blk s H scope (compEnvC scope cl C X.env) fp) tg is dg) (ht : ∀ (s : Shared) (H : Hp) (C : Addr) (cl : List (Str × Addr)) (fp : List Addr), TsX ca (X.blk s H scope (compEnvC scope cl C X.env) fp) ifs et dt)
    (he : ∀ (s : Shared) (H : Hp) (C : Addr) (cl : List (Str × Addr)) (fp : List Addr), EX ca (X.blk s H scope (compEnvC scope cl C X.env) fp) elt ee de) (hs : ∀ x, foldedSetIterable iter X.env x = pure x := by intro _; rfl) :
    EX ca X (.ListComp elt [⟨tg, iter, ifs, 0⟩] scope pos) true (dLc (own.map (·.2)) d dg dt de) :=
  PE.imp (pe_lc hc hN hi ok hg ht he hs) fun σ H Q w => lc_of hsub w
/-- name = [..], the name a local -/
theorem sx_setLc {i : Nat} {y : Str} {py : Pos} {elt tg iter : Expr} {ifs : List Expr} {scope : Scope} {own : List (Str × Nat)} {spos : Pos} {d : DI} {dg : DG} {is : List Nat} {dt : DT} {de : DE} (hsub : ∀ i ∈ is, i ∈ own.map (·.2)) (hc : X.calm = true) (hN : X.N.Nodup) (hy : X.N[i]? = some y) (hyl : X.env.scope.names.lookup y = some .local)
    (hsw : swapsWith (.ListComp elt [⟨tg, iter, ifs, 0⟩] scope pos) (some (.Name y py)) spos.line X.env = pure true) (hi : IX ca X tg iter ef d) (ok : BlkOk X.N X.env.scope scope own)
    (hg : ∀ (s : Shared) (H : Hp) (C : Addr) (cl : List (Str × Addr)) (fp : List Addr), GX ca (X.blk s H scope (compEnvC scope cl C X.env) fp) tg is dg) (ht : ∀ (s : Shared) (H : Hp) (C : Addr) (cl : List (Str × Addr)) (fp : List Addr), TsX ca (X.blk s H scope (compEnvC scope cl C X.env) fp) ifs et dt)
    (he : ∀ (s : Shared) (H : Hp) (C : Addr) (cl : List (Str × Addr)) (fp : List Addr), EX ca (X.blk s H scope (compEnvC scope cl C X.env) fp) elt ee de) (hs : ∀ x, foldedSetIterable iter X.env x = pure x := by intro _; rfl) :
    SX ca X (.Assign [.Name y py] (.ListComp elt [⟨tg, iter, ifs, 0⟩] scope pos) spos) (sAsg (dLc (own.map (·.2)) d dg dt de) (gNm i)) :=
  PS.imp (ps_setLc hc hN hy hyl hsw hi ok hg ht he hs) fun D σ H w => by
    obtain ⟨G, rfl, g, f, S', e1, k⟩ := w
    obtain ⟨p, h3, e1⟩ := Option.bind_eq_some_iff.mp e1
    obtain ⟨S2, h4, e1⟩ := Option.bind_eq_some_iff.mp e1
    cases e1
    refine lc_of (et := et) (ee := ee) hsub ⟨G, rfl, g, p.1, p.2, h3, fun G1 v gv a1 a2 a3 a4 a5 => ?_⟩
    unfold gNm at h4
    split at h4
    · rename_i hl
      cases h4
      have hl : i < σ.length := by
        have e2 : G1.τ.length = p.2.1.length := by rw [← a1]
        rw [← a2.len, e2]; exact hl
      obtain ⟨g2, s2⟩ := a2.store hl a4
      refine k (G1.put i (some p.1) gv) _ ?_ g2 (s2 G true a3 a5)
      show (G1.τ.set i (some p.1), G1.O) = setS p.2 i (some p.1)
      rw [← a1] <;> rfl
    · cases h4
end
end TL

set_option Elab.async false
set_option linter.all false
set_option maxRecDepth 100000
/-! TL8: what loops walk: lists, tuples, texts, ranges, reversed, enumerate, zip. -/
namespace TL
open PySem PySem.Spec L2

section
variable {K : PySem.W.Frag} {ca : Str → Addr} {G : Gh}
theorem tmp_item {G' : Gh} {ts : List T} {vs : List V} {gs : List Addr} (r : Reps G'.toHc ts vs gs) (n : noOws ts = true) {i : Nat} {t : T} (h : ts[i]? = some t) : ∃ v, vs[i]? = some v ∧ Tmp G' v t [] := by
  obtain ⟨v, gt, e1, e2, _⟩ := r.get h
  have e3 := Rep.noOw _ _ _ (noOws_mem n (List.mem_of_getElem? h)) e2
  rw [e3] at e2
  exact ⟨v, e1, .bare e2⟩
theorem walks_list {p : Addr} {m : Mk} {ts : List T} {g : List Addr} (hk : G.K = K) (t : Tmp G (.ref p) (.lst m ts) g) (n : noOws ts = true) : Walks K ca (Itl K p) ts G := by
  intro G' σ gd st
  have t' := t.step st
  obtain ⟨q, vs, gs, e, sq, r, _, _⟩ := Rep.lstL gd.fp gd.ph t'.rep
  cases e
  have hK : G'.K = K := gd.k
  rw [hK] at sq
  refine ⟨fun i u h => ?_, vs, sq, by rw [r.len]; exact Nat.le_refl _⟩
  obtain ⟨v, e1, tm⟩ := tmp_item r n h
  refine ⟨⟨vs, v, sq, e1⟩, fun x H'' y => ?_⟩
  obtain ⟨rfl, y2⟩ := y
  have e2 := y2 vs sq
  rw [e1] at e2
  cases e2
  exact ⟨G', rfl, rfl, gd, Step.refl _, tm⟩
theorem walks_tup {p : Addr} {ts : List T} {g : List Addr} (hk : G.K = K) (t : Tmp G (.ref p) (.tup ts) g) (n : noOws ts = true) : Walks K ca (Itt K p) ts G := by
  intro G' σ gd st
  have t' := t.step st
  obtain ⟨q, vs, e, sq, r⟩ := Rep.tupT gd.fp gd.ph t'.rep
  cases e
  have hK : G'.K = K := gd.k
  rw [hK] at sq
  refine ⟨fun i u h => ?_, vs, sq, by rw [r.len]; exact Nat.le_refl _⟩
  obtain ⟨v, e1, tm⟩ := tmp_item r n h
  refine ⟨⟨vs, v, sq, e1⟩, fun x H'' y => ?_⟩
  obtain ⟨rfl, y2⟩ := y
  have e2 := y2 vs sq
  rw [e1] at e2
  cases e2
  exact ⟨G', rfl, rfl, gd, Step.refl _, tm⟩
def signsOf (z : Str) : List T := z.cps.toList.map fun c => .str ⟨#[c]⟩
theorem walks_str {z : Str} : Walks K ca (Its z) (signsOf z) G := by
  intro G' σ gd st
  refine ⟨fun i u h => ?_, by show z.cps.size ≤ _; simp [signsOf]⟩
  unfold signsOf at h
  rw [List.getElem?_map] at h
  cases q : z.cps.toList[i]? with
  | none => rw [q] at h; cases h
  | some c =>
    rw [q] at h
    cases h
    have hi : i < z.cps.size := by
      have := (List.getElem?_eq_some_iff.mp q).1
      simpa using this
    refine ⟨hi, fun x H'' y => ?_⟩
    obtain ⟨rfl, c', e1, rfl⟩ := y
    have : c' = c := by
      have e2 : z.cps.toList[i]? = some c' := by simpa using e1
      rw [q] at e2; cases e2; rfl
    subst this
    exact ⟨G', rfl, rfl, gd, Step.refl _, .bare ⟨rfl, rfl⟩⟩
def rangeT (lo c : Int) (n : Nat) : List T := (List.range n).map fun (i : Nat) => .int (lo + (i : Int) * c)
theorem walks_int {J : It} {lo c : Int} {n : Nat} (h1 : ∀ i H, i < n → J.go i H) (h2 : ∀ i H x H', J.yld i H x H' → H' = H ∧ x = .int (lo + (i : Int) * c)) (h3 : ∀ H, J.stop n H) : Walks K ca J (rangeT lo c n) G := by
  intro G' σ gd st
  refine ⟨fun i u h => ?_, by rw [show (rangeT lo c n).length = n by simp [rangeT]]; exact h3 _⟩
  unfold rangeT at h
  rw [List.getElem?_map] at h
  cases q : (List.range n)[i]? with
  | none => rw [q] at h; cases h
  | some j =>
    rw [q] at h
    cases h
    obtain ⟨hl, hj⟩ := List.getElem?_eq_some_iff.mp q
    rw [List.getElem_range] at hj
    subst hj
    refine ⟨h1 i _ (by simpa using hl), fun x H'' y => ?_⟩
    obtain ⟨rfl, rfl⟩ := h2 _ _ _ _ y
    exact ⟨G', rfl, rfl, gd, Step.refl _, .bare ⟨rfl, rfl⟩⟩
end
section
variable {X : Cx} {ca : Str → Addr} {tg : Expr} {ef : Bool} {p pos : Pos}
/-- a list, a tuple, a text -/
theorem pi_seq {l : Expr} {tl : TE} (hl : PE X l tl) : PI X tg l (fun σ H R => tl σ H fun x H1 => (∃ a xs, x = .ref a ∧ SqL X.K H1 a xs ∧ R (Itl X.K a) H1) ∨ (∃ a xs, x = .ref a ∧ SqT X.K H1 a xs ∧ R (Itt X.K a) H1) ∨ ∃ z, x = .str z ∧ R (Its z) H1) := by
  refine ⟨fun pins s σ H R I h => ?_⟩
  refine thn (hl.run pins s σ H _ I h) fun v s1 ⟨x, H1, I1, r1, q1⟩ => ?_
  rcases q1 with ⟨a, xs, rfl, hq, q⟩ | ⟨a, xs, rfl, hq, q⟩ | ⟨z, rfl, q⟩
  · cases r1
    obtain ⟨its, rv, p, hz⟩ := I1.list hq
    refine wpAny_pyIter_list p.isList ?_
    refine ⟨s1.heap.objs.size, [s1.heap.objs.size], _, _, H1, rfl, I1.kept (t' := s1.toks) fun b o e => Heap.get?_push_of_some _ e, turn_list a _, ⟨_, Heap.get?_push_size _ rfl, rfl, rfl⟩, fun b hb => ?_, q⟩
    have e : b = s1.heap.objs.size := by simpa using hb
    subst e
    exact I1.fpOk (Nat.le_refl _) (I1.hok.fresh (Nat.le_refl _))
  · cases r1
    obtain ⟨its, rv, p, hz⟩ := I1.tuple hq
    refine wpAny_pyIter_tuple (show s1.heap.IsTuple a its.toArray from p) ?_
    refine ⟨s1.heap.objs.size, [s1.heap.objs.size], _, _, H1, rfl, I1.kept (t' := s1.toks) fun b o e => Heap.get?_push_of_some _ e, turn_tuple a _, ⟨_, Heap.get?_push_size _ rfl, rfl, rfl⟩, fun b hb => ?_, q⟩
    have e : b = s1.heap.objs.size := by simpa using hb
    subst e
    exact I1.fpOk (Nat.le_refl _) (I1.hok.fresh (Nat.le_refl _))
  · obtain ⟨t, rfl⟩ := r1
    cases ha : z.cps.all (· < 128)
    · exact wpAny_pyIter_wide ha (pi_one (tk := s1.toks) I1 _ (turn_str _ z t "str_iterator" (.inr rfl)) ⟨_, Heap.get?_push_size _ rfl, rfl, rfl⟩ q)
    · exact wpAny_pyIter_ascii ha (pi_one (tk := s1.toks) I1 _ (turn_str _ z t "str_ascii_iterator" (.inl rfl)) ⟨_, Heap.get?_push_size _ rfl, rfl, rfl⟩ q)
def itemsOf : T → Option (List T)
  | .lst _ xs => if noOws xs then some xs else none
  | .tup xs => if noOws xs then some xs else none
  | .str z => some (signsOf z)
  | _ => none
def iSeq (d : DE) : DI := fun S => (d S).bind fun p => (itemsOf p.1).bind fun ts => some (ts, p.2)
theorem ix_seq' {l : Expr} {d : DE} (h : EX ca X l ef d) : IX ca X tg l ef (iSeq d) := PI.imp (pi_seq h) fun σ H R w => by
  obtain ⟨G, rfl, g, ts, S', e1, k⟩ := w
  obtain ⟨q, h1, e1⟩ := Option.bind_eq_some_iff.mp e1
  obtain ⟨us, h2, e1⟩ := Option.bind_eq_some_iff.mp e1
  cases e1
  refine ⟨G, rfl, g, q.1, q.2, h1, fun G1 v gv a1 a2 a3 a4 a5 => ?_⟩
  have hK : G1.K = X.K := a2.k
  unfold itemsOf at h2
  split at h2
  · rename_i m xs hq
    split at h2
    · rename_i n
      cases h2
      rw [hq] at a4
      obtain ⟨p', vs, gs, rfl, sq, _, _, _⟩ := Rep.lstL a2.fp a2.ph a4.rep
      exact .inl ⟨p', vs, rfl, hK ▸ sq, k G1 _ a1 a2 a3 (walks_list hK a4 n)⟩
    · cases h2
  · rename_i xs hq
    split at h2
    · rename_i n
      cases h2
      rw [hq] at a4
      obtain ⟨p', vs, rfl, sq, _⟩ := Rep.tupT a2.fp a2.ph a4.rep
      exact .inr (.inl ⟨p', vs, rfl, hK ▸ sq, k G1 _ a1 a2 a3 (walks_tup hK a4 n)⟩)
    · cases h2
  · rename_i z hq
    cases h2
    rw [hq] at a4
    obtain ⟨rfl, _⟩ := a4.rep
    exact .inr (.inr ⟨z, rfl, k G1 _ a1 a2 a3 walks_str⟩)
  · cases h2
/-! ranges -/
def okR (j : Int) : Bool := decide (-(2 ^ 62) ≤ j ∧ j < 2 ^ 62)
def iR1 (a : DA) : DI := fun S => (a S).bind fun p => (temps p.1).bind fun ts => match ts with
  | [.int j] => if okR j then some (rangeT 0 1 j.toNat, p.2) else none
  | _ => none
def iR2 (a : DA) : DI := fun S => (a S).bind fun p => (temps p.1).bind fun ts => match ts with
  | [.int i, .int j] => if okR i && okR j then some (rangeT i 1 (j - i).toNat, p.2) else none
  | _ => none
/-- downwards, by ones -/
def iR3 (a : DA) : DI := fun S => (a S).bind fun p => (temps p.1).bind fun ts => match ts with
  | [.int i, .int j, .int (-1)] => if okR i && okR j then some (rangeT i (-1) (i - j).toNat, p.2) else none
  | _ => none
theorem ix_r1 {a : Expr} {d : DA} (hm : X.mg "range" = none) (h : AX ca X [a] ef d) (hg : Gl X "range" := by rfl) (hs : starEach [a] X.env = [(false, eval a X.env)] := by rfl) : IX ca X tg (.Call (.Name "range" p) [a] [] pos) ef (iR1 d) := PI.imp (pi_range1 hg hm h hs) fun σ H R w => by
  obtain ⟨G, rfl, g, ts, S', e1, k⟩ := w
  obtain ⟨q, h1, e1⟩ := Option.bind_eq_some_iff.mp e1
  obtain ⟨us, h2, e1⟩ := Option.bind_eq_some_iff.mp e1
  split at e1
  · split at e1
    · rename_i j hj
      cases e1
      refine ⟨G, rfl, g, q.1, q.2, h1, fun G1 vs gv a1 a2 a3 a4 a5 => ?_⟩
      obtain ⟨r, _, _⟩ := a4.reps h2
      obtain ⟨v, r', ga, gb, rfl, _, ⟨rfl, _⟩, ⟨rfl, _⟩⟩ := r
      have b := of_decide_eq_true hj
      exact ⟨j, rfl, b.1, b.2, k G1 _ a1 a2 a3 (walks_int (fun i H h => h) (fun i H x H' y => ⟨y.1, by rw [y.2, Int.mul_one]⟩) fun H => Nat.le_refl _)⟩
    · cases e1
  · cases e1
theorem ix_r2 {a b : Expr} {d : DA} (hm : X.mg "range" = none) (h : AX ca X [a, b] ef d) (hg : Gl X "range" := by rfl) (hs : starEach [a, b] X.env = [(false, eval a X.env), (false, eval b X.env)] := by rfl) (hs2 : starEach [b] X.env = [(false, eval b X.env)] := by rfl) : IX ca X tg (.Call (.Name "range" p) [a, b] [] pos) ef (iR2 d) := PI.imp (pi_range2 hg hm h hs hs2) fun σ H R w => by
  obtain ⟨G, rfl, g, ts, S', e1, k⟩ := w
  obtain ⟨q, h1, e1⟩ := Option.bind_eq_some_iff.mp e1
  obtain ⟨us, h2, e1⟩ := Option.bind_eq_some_iff.mp e1
  split at e1
  · split at e1
    · rename_i i j hj
      cases e1
      refine ⟨G, rfl, g, q.1, q.2, h1, fun G1 vs gv a1 a2 a3 a4 a5 => ?_⟩
      obtain ⟨r, _, _⟩ := a4.reps h2
      obtain ⟨v, r', ga, gb, rfl, _, ⟨rfl, _⟩, v2, r2, gc, gd, rfl, _, ⟨rfl, _⟩, ⟨rfl, _⟩⟩ := r
      have b := Bool.and_eq_true_iff.mp hj
      have b1 := of_decide_eq_true b.1
      have b2 := of_decide_eq_true b.2
      exact ⟨i, j, rfl, ⟨b1.1, b1.2, b2.1, b2.2⟩, k G1 _ a1 a2 a3 (walks_int (fun i H h => h) (fun i H x H' y => ⟨y.1, by rw [y.2, Int.mul_one]⟩) fun H => Nat.le_refl _)⟩
    · cases e1
  · cases e1
theorem ix_r3 {a b c : Expr} {d : DA} (hm : X.mg "range" = none) (h : AX ca X [a, b, c] ef d) (hg : Gl X "range" := by rfl) (hs : starEach [a, b, c] X.env = (false, eval a X.env) :: starEach [b, c] X.env := by rfl) (hpl : (backTo pos (starEach [b, c] X.env)).any (·.1) = false := by rfl) : IX ca X tg (.Call (.Name "range" p) [a, b, c] [] pos) ef (iR3 d) := PI.imp (pi_range3 hg hm h hs hpl) fun σ H R w => by
  obtain ⟨G, rfl, g, ts, S', e1, k⟩ := w
  obtain ⟨q, h1, e1⟩ := Option.bind_eq_some_iff.mp e1
  obtain ⟨us, h2, e1⟩ := Option.bind_eq_some_iff.mp e1
  split at e1
  · split at e1
    · rename_i i j hj
      cases e1
      refine ⟨G, rfl, g, q.1, q.2, h1, fun G1 vs gv a1 a2 a3 a4 a5 => ?_⟩
      obtain ⟨r, _, _⟩ := a4.reps h2
      obtain ⟨v, r', ga, gb, rfl, _, ⟨rfl, _⟩, v2, r2, gc, gd, rfl, _, ⟨rfl, _⟩, v3, r3, ge, gf, rfl, _, ⟨rfl, _⟩, ⟨rfl, _⟩⟩ := r
      have b := Bool.and_eq_true_iff.mp hj
      have b1 := of_decide_eq_true b.1
      have b2 := of_decide_eq_true b.2
      exact ⟨i, j, -1, _, rfl, RgC.neg b1.1 b1.2 b2.1 b2.2, k G1 _ a1 a2 a3 (walks_int (fun i H h => h) (fun i H x H' y => ⟨y.1, y.2⟩) fun H => Nat.le_refl _)⟩
    · cases e1
  · cases e1
/-! reversed -/
def iRv (a : DA) : DI := fun S => (a S).bind fun p => (temps p.1).bind fun ts => match ts with
  | [.lst _ xs] => if noOws xs then some (xs.reverse, p.2) else none
  | _ => none
theorem ix_rev {a : Expr} {d : DA} (hm : X.mg "reversed" = none) (h : AX ca X [a] ef d) (hg : Gl X "reversed" := by rfl) (hs : starEach [a] X.env = [(false, eval a X.env)] := by rfl) : IX ca X tg (.Call (.Name "reversed" p) [a] [] pos) ef (iRv d) := PI.imp (pi_reversed hg hm h hs) fun σ H R w => by
  obtain ⟨G, rfl, g, ts, S', e1, k⟩ := w
  obtain ⟨q, h1, e1⟩ := Option.bind_eq_some_iff.mp e1
  obtain ⟨us, h2, e1⟩ := Option.bind_eq_some_iff.mp e1
  split at e1
  · split at e1
    · rename_i m xs n
      cases e1
      refine ⟨G, rfl, g, q.1, q.2, h1, fun G1 vs gv a1 a2 a3 a4 a5 => ?_⟩
      obtain ⟨r, nd, out⟩ := a4.reps h2
      obtain ⟨v, r', ga, gb, rfl, rfl, rl, ⟨rfl, rfl⟩⟩ := r
      have t : Tmp G1 v (.lst m xs) ga := ⟨rl, (List.append_nil ga ▸ nd), fun a h => out a (by simpa using h)⟩
      have hK : G1.K = X.K := a2.k
      obtain ⟨p', ws, gs, rfl, sq, rr, _, _⟩ := Rep.lstL a2.fp a2.ph rl
      refine ⟨p', ws, rfl, hK ▸ sq, k G1 _ a1 a2 a3 ?_⟩
      intro G' σ' gd st
      have t' := t.step st
      obtain ⟨q', vs', gs', e, sq', r', _, _⟩ := Rep.lstL gd.fp gd.ph t'.rep
      cases e
      have hK' : G'.K = X.K := gd.k
      rw [hK'] at sq'
      have len : ws.length = xs.length := rr.len
      refine ⟨fun i u h => ?_, by show ws.length ≤ _; rw [List.length_reverse, len]; exact Nat.le_refl _⟩
      have hi : i < xs.length := by
        have := (List.getElem?_eq_some_iff.mp h).1
        simpa using this
      rw [List.getElem?_reverse hi] at h
      obtain ⟨v, e1, tm⟩ := tmp_item r' n h
      refine ⟨⟨by rw [len]; exact hi, vs', v, sq', by rw [len]; exact e1⟩, fun x H'' y => ?_⟩
      obtain ⟨rfl, y2⟩ := y
      have e2 := y2 vs' sq'
      rw [len, e1] at e2
      cases e2
      exact ⟨G', rfl, rfl, gd, Step.refl _, tm⟩
    · cases e1
  · cases e1
/-! enumerate -/
def enumT : Nat → List T → List T
  | _, [] => []
  | i, t :: ts => .tup [.int (i : Nat), t] :: enumT (i + 1) ts
theorem enumT_len : ∀ (i : Nat) (ts : List T), (enumT i ts).length = ts.length
  | _, [] => rfl
  | i, t :: ts => by show (enumT (i + 1) ts).length + 1 = _; rw [enumT_len]; rfl
theorem enumT_get : ∀ (k : Nat) (ts : List T) (i : Nat), (enumT k ts)[i]? = ts[i]?.map fun t => .tup [.int ((k + i : Nat) : Int), t]
  | _, [], i => by simp [enumT]
  | k, t :: ts, 0 => by simp [enumT]
  | k, t :: ts, i + 1 => by
    show (enumT (k + 1) ts)[i]? = _
    rw [enumT_get (k + 1) ts i]
    simp only [List.getElem?_cons_succ]
    rw [show k + 1 + i = k + (i + 1) by omega]
def iEn (a : DA) : DI := fun S => (a S).bind fun p => (temps p.1).bind fun ts => match ts with
  | [.lst _ xs] => if noOws xs then some (enumT 0 xs, p.2) else none
  | _ => none
theorem ix_enum {a : Expr} {elts : List Expr} {kk : Nat} {tpos : Pos} {d : DA} (hm : X.mg "enumerate" = none) (h : AX ca X [a] ef d) (hg : Gl X "enumerate" := by rfl) (hs : starEach [a] X.env = [(false, eval a X.env)] := by rfl) : IX ca X (.Tuple elts kk tpos) (.Call (.Name "enumerate" p) [a] [] pos) ef (iEn d) := PI.imp (pi_enum hg hm h hs) fun σ H R w => by
  obtain ⟨G, rfl, g, ts, S', e1, k⟩ := w
  obtain ⟨q, h1, e1⟩ := Option.bind_eq_some_iff.mp e1
  obtain ⟨us, h2, e1⟩ := Option.bind_eq_some_iff.mp e1
  split at e1
  · split at e1
    · rename_i m xs n
      cases e1
      refine ⟨G, rfl, g, q.1, q.2, h1, fun G1 vs gv a1 a2 a3 a4 a5 => ?_⟩
      obtain ⟨r, nd, out⟩ := a4.reps h2
      obtain ⟨v, r', ga, gb, rfl, rfl, rl, ⟨rfl, rfl⟩⟩ := r
      have t : Tmp G1 v (.lst m xs) ga := ⟨rl, (List.append_nil ga ▸ nd), fun a h => out a (by simpa using h)⟩
      have hK : G1.K = X.K := a2.k
      obtain ⟨p', ws, gs, rfl, sq, rr, _, _⟩ := Rep.lstL a2.fp a2.ph rl
      refine ⟨p', ws, rfl, hK ▸ sq, k G1 _ a1 a2 a3 ?_⟩
      intro G' σ' gd st
      have t' := t.step st
      obtain ⟨q', vs', gs', e, sq', r', _, _⟩ := Rep.lstL gd.fp gd.ph t'.rep
      cases e
      have hK' : G'.K = X.K := gd.k
      rw [hK'] at sq'
      refine ⟨fun i u h => ?_, vs', sq', by rw [enumT_len, r'.len]; exact Nat.le_refl _⟩
      rw [enumT_get] at h
      cases hq : xs[i]? with
      | none => rw [hq] at h; cases h
      | some x0 =>
        rw [hq] at h
        cases h
        obtain ⟨v, e1, tm⟩ := tmp_item r' n hq
        refine ⟨⟨vs', v, sq', e1⟩, fun x H'' y => ?_⟩
        obtain ⟨Ta, x1, rfl, hT, rfl, y2⟩ := y
        have e2 := y2 vs' sq'
        rw [e1] at e2
        cases e2
        obtain ⟨g2, s2⟩ := gd.newF (o := .tup [.int (i : Nat), v]) hT
        refine ⟨G'.newF Ta (.tup [.int (i : Nat), v]), rfl, rfl, g2, s2, ?_⟩
        have rr2 : Reps G'.toHc [.int ((0 + i : Nat) : Int), x0] [.int (i : Nat), v] [] := ⟨_, [v], [], [], rfl, rfl, ⟨by rw [Nat.zero_add], rfl⟩, v, [], [], [], rfl, rfl, tm.rep, rfl, rfl⟩
        exact gd.newT hT rr2 List.nodup_nil fun _ m => absurd m (by simp)
    · cases e1
  · cases e1
/-! zip, of two lists, of two tuples -/
def zipT : List T → List T → List T
  | x :: xs, y :: ys => .tup [x, y] :: zipT xs ys
  | _, _ => []
theorem zipT_get : ∀ (xs ys : List T) (i : Nat) (t : T), (zipT xs ys)[i]? = some t → ∃ x y, xs[i]? = some x ∧ ys[i]? = some y ∧ t = .tup [x, y]
  | [], _, _, _, h => by simp [zipT] at h
  | _ :: _, [], _, _, h => by simp [zipT] at h
  | x :: xs, y :: ys, 0, t, h => by simp [zipT] at h; exact ⟨x, y, rfl, rfl, h.symm⟩
  | x :: xs, y :: ys, i + 1, t, h => by
    have h : (zipT xs ys)[i]? = some t := h
    simpa using zipT_get xs ys i t h
theorem zipT_len : ∀ (xs ys : List T), (zipT xs ys).length = min xs.length ys.length
  | [], _ => by simp [zipT]
  | _ :: _, [] => by simp [zipT]
  | x :: xs, y :: ys => by show (zipT xs ys).length + 1 = _; rw [zipT_len]; simp [Nat.succ_min_succ]
def zipOf : T → T → Option (List T)
  | .lst _ xs, .lst _ ys => if noOws xs && noOws ys then some (zipT xs ys) else none
  | .tup xs, .tup ys => if noOws xs && noOws ys then some (zipT xs ys) else none
  | _, _ => none
def iZp (a : DA) : DI := fun S => (a S).bind fun p => (temps p.1).bind fun ts => match ts with
  | [x, y] => (zipOf x y).bind fun us => some (us, p.2)
  | _ => none
theorem ix_zip {a b : Expr} {elts : List Expr} {kk : Nat} {tpos : Pos} {d : DA} (hm : X.mg "zip" = none) (h : AX ca X [a, b] ef d) (hg : Gl X "zip" := by rfl)
    (hs : starEach [a, b] X.env = (false, eval a X.env) :: starEach [b] X.env := by rfl) (hpl : (backTo pos (starEach [b] X.env)).any (·.1) = false := by rfl) : IX ca X (.Tuple elts kk tpos) (.Call (.Name "zip" p) [a, b] [] pos) ef (iZp d) := PI.imp (RZ.pi_zipA hg hm h hs hpl) fun σ H R w => by
  obtain ⟨G, rfl, g, ts, S', e1, k⟩ := w
  obtain ⟨q, h1, e1⟩ := Option.bind_eq_some_iff.mp e1
  obtain ⟨us, h2, e1⟩ := Option.bind_eq_some_iff.mp e1
  split at e1
  · rename_i x y
    obtain ⟨zs, h3, e1⟩ := Option.bind_eq_some_iff.mp e1
    cases e1
    refine ⟨G, rfl, g, q.1, q.2, h1, fun G1 vs gv a1 a2 a3 a4 a5 => ?_⟩
    obtain ⟨r, nd, out⟩ := a4.reps h2
    obtain ⟨v, r', ga, gb, rfl, rfl, rx, w, r2, gc, gd, rfl, rfl, ry, ⟨rfl, rfl⟩⟩ := r
    have hK : G1.K = X.K := a2.k
    have nda := List.nodup_append.mp nd
    have tx : Tmp G1 v x ga := ⟨rx, nda.1, fun a h => out a (by simp [h])⟩
    have ty : Tmp G1 w y gc := ⟨ry, (by simpa using nda.2.1), fun a h => out a (by simp [h])⟩
    have pair : ∀ {G' : Gh} {σ' : L2.St} {u1 u2 : V} {t1 t2 : T} {Ta : Addr}, Good X.K ca σ' G' → G'.H Ta = none → Tmp G' u1 t1 [] → Tmp G' u2 t2 [] → ∃ G'', G''.H = upd G'.H Ta (.tup [u1, u2]) ∧ G''.S = G'.S ∧ Good X.K ca σ' G'' ∧ Step false G' G'' ∧ Tmp G'' (.ref Ta) (.tup [t1, t2]) [] := by
      intro G' σ' u1 u2 t1 t2 Ta gd hT m1 m2
      obtain ⟨g2, s2⟩ := gd.newF (o := .tup [u1, u2]) hT
      have rr2 : Reps G'.toHc [t1, t2] [u1, u2] [] := ⟨_, [u2], [], [], rfl, rfl, m1.rep, u2, [], [], [], rfl, rfl, m2.rep, rfl, rfl⟩
      exact ⟨G'.newF Ta (.tup [u1, u2]), rfl, rfl, g2, s2, gd.newT hT rr2 List.nodup_nil fun _ m => absurd m (by simp)⟩
    unfold zipOf at h3
    split at h3
    · rename_i m1 xs m2 ys
      split at h3
      · rename_i n
        have n := Bool.and_eq_true_iff.mp n
        cases h3
        obtain ⟨p1, w1, _, rfl, sq1, rr1, _, _⟩ := Rep.lstL a2.fp a2.ph rx
        obtain ⟨p2, w2, _, rfl, sq2, rr2, _, _⟩ := Rep.lstL a2.fp a2.ph ry
        refine ⟨p1, p2, w1, w2, rfl, .inl ⟨hK ▸ sq1, hK ▸ sq2, k G1 _ a1 a2 a3 ?_⟩⟩
        intro G' σ' gd st
        obtain ⟨_, v1, _, e1, s1, r1, _, _⟩ := Rep.lstL gd.fp gd.ph (tx.step st).rep
        cases e1
        obtain ⟨_, v2, _, e2, s2, r2, _, _⟩ := Rep.lstL gd.fp gd.ph (ty.step st).rep
        cases e2
        have hK' : G'.K = X.K := gd.k
        rw [hK'] at s1 s2
        refine ⟨fun i u h => ?_, v1, v2, s1, s2, ?_⟩
        · obtain ⟨x0, y0, h1, h2, rfl⟩ := zipT_get _ _ _ _ h
          obtain ⟨u1, e1, t1⟩ := tmp_item r1 n.1 h1
          obtain ⟨u2, e2, t2⟩ := tmp_item r2 n.2 h2
          refine ⟨⟨v1, v2, u1, u2, s1, s2, e1, e2⟩, fun x H'' y => ?_⟩
          obtain ⟨Ta, x1, x2, rfl, hT, rfl, y1, y2⟩ := y
          have q1 := y1 v1 s1
          have q2 := y2 v2 s2
          rw [e1] at q1
          rw [e2] at q2
          cases q1
          cases q2
          exact pair gd hT t1 t2
        · rw [zipT_len, r1.len, r2.len]
          omega
      · cases h3
    · rename_i xs ys
      split at h3
      · rename_i n
        have n := Bool.and_eq_true_iff.mp n
        cases h3
        obtain ⟨p1, w1, rfl, sq1, rr1⟩ := Rep.tupT a2.fp a2.ph rx
        obtain ⟨p2, w2, rfl, sq2, rr2⟩ := Rep.tupT a2.fp a2.ph ry
        refine ⟨p1, p2, w1, w2, rfl, .inr ⟨hK ▸ sq1, hK ▸ sq2, k G1 _ a1 a2 a3 ?_⟩⟩
        intro G' σ' gd st
        obtain ⟨_, v1, e1, s1, r1⟩ := Rep.tupT gd.fp gd.ph (tx.step st).rep
        cases e1
        obtain ⟨_, v2, e2, s2, r2⟩ := Rep.tupT gd.fp gd.ph (ty.step st).rep
        cases e2
        have hK' : G'.K = X.K := gd.k
        rw [hK'] at s1 s2
        refine ⟨fun i u h => ?_, v1, v2, s1, s2, ?_⟩
        · obtain ⟨x0, y0, h1, h2, rfl⟩ := zipT_get _ _ _ _ h
          obtain ⟨u1, e1, t1⟩ := tmp_item r1 n.1 h1
          obtain ⟨u2, e2, t2⟩ := tmp_item r2 n.2 h2
          refine ⟨⟨v1, v2, u1, u2, s1, s2, e1, e2⟩, fun x H'' y => ?_⟩
          obtain ⟨Ta, x1, x2, rfl, hT, rfl, y1, y2⟩ := y
          have q1 := y1 v1 s1
          have q2 := y2 v2 s2
          rw [e1] at q1
          rw [e2] at q2
          cases q1
          cases q2
          exact pair gd hT t1 t2
        · rw [zipT_len, r1.len, r2.len]
          omega
      · cases h3
    · cases h3
  · cases e1
end
end TL

set_option Elab.async false
set_option linter.all false
set_option maxRecDepth 100000
/-! TL9: a def by its mirror; calls. -/
namespace TL
open PySem PySem.Spec L2

abbrev DF := List T → List Ob → Option (T × List Ob)
/-- a def of n parameters does what d says -/
def spT (K : PySem.W.Frag) (ca : Str → Addr) (n : Nat) (d : DF) : Sp := fun vs H Q _ => vs.length = n ∧ ∃ G : Gh, G.H = H ∧ Good K ca (vs.map some) G ∧ ∃ ts r O', G.τ = ts.map some ∧ d ts G.O = some (r, O') ∧ r.noBr = true ∧
  ∀ G' σ' v g, Good K ca σ' G' → Step true G G' → Tmp G' v r g → New G g → G'.O = O' → Q v G'.H
/-- a body's mirror as a def's: N slots -/
def dFn (N : Nat) (b : DS) : DF := fun ts O => (b (ts.map some ++ List.replicate (N - ts.length) none, O)).bind fun q => match q.1 with
  | .rt r => if r.noBr then some (r, q.2.2) else none
  | .nx => some (.non, q.2.2)
  | _ => none
section
variable {P : Program} {w : World} {K : PySem.W.Frag} {mg : Str → Option Value} {base : Heap} {ca : Str → Addr}
theorem Good.ext {σ : L2.St} {G : Gh} (g : Good K ca σ G) (m : Nat) : Good K ca (σ ++ List.replicate m none) { G with τ := G.τ ++ List.replicate m none } := by
  have at_ : ∀ (i : Nat) (t : T), (G.τ ++ List.replicate m none)[i]? = some (some t) → G.τ[i]? = some (some t) := fun i t e => by
    by_cases h : i < G.τ.length
    · rw [List.getElem?_append_left h] at e; exact e
    · rw [List.getElem?_append_right (by omega)] at e
      have := List.getElem?_replicate (n := m) (a := (none : Option T)) (i := i - G.τ.length)
      rw [this] at e
      split at e <;> cases e
  refine { g with len := (by show (G.τ ++ _).length = _; rw [List.length_append, List.length_append, g.len, List.length_replicate, List.length_replicate]), sl := fun i t e => ?_, sn := fun i e => ?_ }
  · have e2 := at_ i t e
    obtain ⟨v, a, r⟩ := g.sl i t e2
    have hl : i < σ.length := (List.getElem?_eq_some_iff.mp a).1
    exact ⟨v, by rw [List.getElem?_append_left hl]; exact a, r⟩
  · refine g.sn i fun t q => e t ?_
    have hl : i < G.τ.length := (List.getElem?_eq_some_iff.mp q).1
    show (G.τ ++ _)[i]? = _
    rw [List.getElem?_append_left hl]
    exact q
theorem fn_ok {x qual : Str} {st : Stmt} {f : Addr} {fd : FuncData} {N ps : List Str} {k : Nat} {b : DS} (F : L2.Fun K x qual st f fd) (S : FnScope N ps (defScope st)) (hN : ps.length ≤ N.length)
    (hb : ∀ (cdv : Value) (A : Around) (outer : List Env) (s : Shared) (H : Hp) (E : XK), Room k (A.deeper (PyProof.Rows.envOfC qual (defScope st) s.heap.objs.size f cdv)) → BX ca (cxOf CX0 P w K mg base N qual (defScope st) f cdv A outer s H E).nox (defBody st) b) :
    FnOk P w K mg base CX0 (k + 1) f fd ps (spT K ca ps.length (dFn N.length b)) := by
  refine F.ok S (fun vs H Q E h => h.1) (fun cdv A outer s H vs Q E hr h => ⟨liftS K ca b, hb cdv A outer s H E hr, ?_⟩)
  obtain ⟨hl, G, rfl, g, ts, r, O', hτ, hd, hbr, kk⟩ := h
  have ht : ts.length = ps.length := by
    have := g.len
    rw [hτ, List.length_map, List.length_map] at this
    omega
  unfold dFn at hd
  obtain ⟨q, e1, hd⟩ := Option.bind_eq_some_iff.mp hd
  refine ⟨{ G with τ := G.τ ++ List.replicate (N.length - ps.length) none }, rfl, ?_, q.1, q.2, ?_, fun G' σ' a1 a2 a3 => ?_⟩
  · have e : L2.start N vs = vs.map some ++ List.replicate (N.length - ps.length) none := by unfold L2.start; rw [hl]
    rw [e]
    exact g.ext _
  · show b (G.τ ++ _, G.O) = _
    rw [hτ, ← ht]
    exact e1
  · have st : Step true G G' := { a3 with q := fun e => by cases e }
    have hO : G'.O = q.2.2 := by rw [← a1]
    cases hq : q.1 with
    | nx =>
      rw [hq] at hd
      cases hd
      exact kk G' σ' .non [] a2 st (.bare ⟨rfl, rfl⟩) New.nil hO
    | rt t =>
      rw [hq] at hd
      intro v gv m n
      have hd : (if t.noBr then some (t, q.2.2) else none) = some (r, O') := hd
      split at hd
      · cases hd
        exact kk G' σ' v gv a2 st m n hO
      · cases hd
    | bk => rw [hq] at hd; cases hd
    | ct => rw [hq] at hd; cases hd
end

/-! ### a call -/
def resAll (S : SS) : List Arg → Option (List T)
  | [] => some []
  | .tmp t :: as => (resAll S as).bind fun ts => some (t :: ts)
  | .bor i :: as => (slot S i).bind fun t => (resAll S as).bind fun ts => some (t.brw :: ts)
def dCall (d : DF) (a : DA) : DE := fun S => (a S).bind fun p => (resAll p.2 p.1).bind fun ts => (d ts p.2.2).bind fun q => if q.1.noBr then some (q.1, (p.2.1, q.2)) else none
def borOf (G : Gh) : List Arg → List Addr
  | [] => []
  | .tmp _ :: as => borOf G as
  | .bor i :: as => G.fp (.s i) ++ borOf G as
theorem borOf_mem {G : Gh} {x : Addr} : ∀ {as : List Arg}, x ∈ borOf G as → ∃ i, x ∈ G.fp (.s i)
  | [], m => absurd m (by simp [borOf])
  | .tmp _ :: as, m => borOf_mem (as := as) m
  | .bor i :: as, m => by
    rcases List.mem_append.mp (show x ∈ G.fp (.s i) ++ borOf G as from m) with m | m
    · exact ⟨i, m⟩
    · exact borOf_mem m
/-- the arguments, by places: what the callee holds -/
theorem args_in {K : PySem.W.Frag} {ca : Str → Addr} {G c' : Gh} {σ : L2.St} (gd : Good K ca σ G) : ∀ {as : List Arg} {ts : List T} {vs : List V} {g : List Addr}, resAll G.S as = some ts → ArgsAt G σ as vs g → Ex G.toHc c'.toHc g → Lend G.toHc c'.toHc (borOf G as) →
    ∃ gs : List (List Addr), gs.length = as.length ∧ ts.length = as.length ∧ vs.length = as.length ∧ (∀ (j : Nat) (t : T), ts[j]? = some t → ∃ v, vs[j]? = some v ∧ Rep c'.toHc t v (gs.getD j [])) ∧ (∀ j, (gs.getD j []).Nodup ∧ ∀ x ∈ gs.getD j [], x ∈ g ∧ (∀ k, x ∉ G.fp k) ∧ x ∉ G.ad ∧ G.P x = none) ∧ ∀ j j' x, x ∈ gs.getD j [] → x ∈ gs.getD j' [] → j = j'
  | [], ts, vs, g, e, ⟨h1, h2⟩, _, _ => by
    cases e
    subst h1
    exact ⟨[], rfl, rfl, rfl, fun j t h => by simp at h, fun j => ⟨by simp, fun x m => by simp at m⟩, fun j j' x m => by simp at m⟩
  | .tmp t :: as, ts, vs, g, e, ⟨v, r, ga, gb, e1, e2, h, hr, d⟩, ex, le => by
    obtain ⟨us, e3, e4⟩ := Option.bind_eq_some_iff.mp (show (resAll G.S as).bind (fun ts => some (t :: ts)) = some ts from e)
    cases e4
    have h : Tmp G v t ga := h
    obtain ⟨gs, l1, l2, l3, a1, a2, a3⟩ := args_in gd e3 hr (ex.mono fun x m => by rw [e2]; exact List.mem_append_right _ m) le
    subst e1 e2
    refine ⟨ga :: gs, by simp [l1], by simp [l2], by simp [l3], fun j u hj => ?_, fun j => ?_, fun j j' x m m' => ?_⟩
    · cases j with
      | zero =>
        simp at hj
        subst hj
        exact ⟨v, rfl, Rep.ex _ _ _ (ex.mono fun x m => List.mem_append_left _ m) h.rep⟩
      | succ j => simpa using a1 j u (by simpa using hj)
    · cases j with
      | zero => exact ⟨h.nd, fun x m => ⟨List.mem_append_left _ m, h.out x m⟩⟩
      | succ j =>
        obtain ⟨q1, q2⟩ := a2 j
        exact ⟨by simpa using q1, fun x m => let z := q2 x (by simpa using m); ⟨List.mem_append_right _ z.1, z.2⟩⟩
    · cases j with
      | zero => cases j' with
        | zero => rfl
        | succ j' => exact absurd ((a2 j').2 x (by simpa using m')).1 (d x m)
      | succ j => cases j' with
        | zero => exact absurd ((a2 j).2 x (by simpa using m)).1 (d x m')
        | succ j' => rw [a3 j j' x (by simpa using m) (by simpa using m')]
  | .bor i :: as, ts, vs, g, e, ⟨v, r, ga, gb, e1, e2, h, hr, d⟩, ex, le => by
    obtain ⟨t, e0, e⟩ := Option.bind_eq_some_iff.mp (show (slot G.S i).bind (fun t => (resAll G.S as).bind fun ts => some (t.brw :: ts)) = some ts from e)
    obtain ⟨us, e3, e4⟩ := Option.bind_eq_some_iff.mp e
    cases e4
    have h : σ[i]? = some (some v) ∧ ga = [] := h
    obtain ⟨gs, l1, l2, l3, a1, a2, a3⟩ := args_in gd e3 hr (ex.mono fun x m => by rw [e2]; exact List.mem_append_right _ m) (le.mono fun x m => List.mem_append_right _ m)
    obtain ⟨h1, h2⟩ := h
    subst e1 e2 h2
    obtain ⟨v', q1, q2⟩ := gd.sl i t (slot_some e0)
    rw [h1] at q1
    cases q1
    refine ⟨[] :: gs, by simp [l1], by simp [l2], by simp [l3], fun j u hj => ?_, fun j => ?_, fun j j' x m m' => ?_⟩
    · cases j with
      | zero =>
        simp at hj
        subst hj
        exact ⟨v, rfl, Rep.brw t v _ (le.mono fun x m => List.mem_append_left _ m) q2⟩
      | succ j => simpa using a1 j u (by simpa using hj)
    · cases j with
      | zero => exact ⟨List.nodup_nil, fun x m => absurd m (by simp)⟩
      | succ j =>
        obtain ⟨q1, q2⟩ := a2 j
        exact ⟨by simpa using q1, fun x m => let z := q2 x (by simpa using m); ⟨z.1, z.2⟩⟩
    · cases j with
      | zero => exact absurd m (by simp)
      | succ j => cases j' with
        | zero => exact absurd m' (by simp)
        | succ j' => rw [a3 j j' x (by simpa using m) (by simpa using m')]
theorem RepO.exF {c c' : Hc} {b : Ob} {p : Addr} {g : List Addr} (e : ExF c c' (p :: g)) (hc : c'.ca = c.ca) (r : RepO c b p g) : RepO c' b p g := by
  have e2 : ExF c c' g := e.mono fun _ m => List.mem_cons_of_mem _ m
  cases b with
  | lst xs => obtain ⟨vs, a, d, q⟩ := r; exact ⟨vs, e.h p (by simp) _ a, Reps.exF _ _ _ q e2 d, q⟩
  | ins C fs =>
    obtain ⟨dx, vs, a, d, q⟩ := r
    exact ⟨dx, vs, by rw [hc]; exact e.h p (by simp) _ a, RepK.exF _ _ _ q e2 d, q⟩
section
variable {X : Cx} {ca : Str → Addr} {ef : Bool} {pos p : Pos}
/-- the callee's run, from the caller's side -/
theorem call_of {K : PySem.W.Frag} {n : Nat} {d : DF} {da : DA} {E : XK} {σ : L2.St} {H : Hp} {Q : VK} (w : liftE K ca true (dCall d da) σ H Q) (hn : ∀ S as S', da S = some (as, S') → as.length = n) :
    liftA K ca ef da σ H fun vs H1 => spT K ca n d vs H1 Q E := by
  obtain ⟨G, rfl, g, z, S', e1, k⟩ := w
  obtain ⟨q0, h1, e1⟩ := Option.bind_eq_some_iff.mp e1
  obtain ⟨ts, h2, e1⟩ := Option.bind_eq_some_iff.mp e1
  obtain ⟨rr, h3, e1⟩ := Option.bind_eq_some_iff.mp e1
  split at e1
  case isFalse => cases e1
  rename_i hbr
  cases e1
  refine ⟨G, rfl, g, q0.1, q0.2, h1, fun G2 vs gv a1 a2 a3 a4 a5 => ?_⟩
  have h2 : resAll G2.S q0.1 = some ts := by rw [a1]; exact h2
  -- the callee's ghost
  let L := borOf G2 q0.1
  have hex : ∀ gg, Ex G2.toHc { G2.toHc with P := plus G2.P G2.H L } gg := fun gg => ⟨rfl, rfl, Same.refl _, plus_same a2.ph, fun _ _ _ e => e, ⟨[], by simp⟩⟩
  have hle : Lend G2.toHc { G2.toHc with P := plus G2.P G2.H L } L := ⟨rfl, Same.refl _, plus_same a2.ph, fun x m o e => by show plus G2.P G2.H L x = _; rw [plus_in m]; exact e, fun _ _ e => e⟩
  obtain ⟨gs, l1, l2, l3, b1, b2, b3⟩ := args_in (c' := { G2 with P := plus G2.P G2.H L }) a2 h2 a4 (hex gv) hle
  let Gc : Gh := { G2 with P := plus G2.P G2.H L, fp := fun kk => match kk with | .s j => gs.getD j [] | .o m => G2.fp (.o m), τ := ts.map some }
  have cs : ∀ j, Gc.fp (.s j) = gs.getD j [] := fun _ => rfl
  have co : ∀ m, Gc.fp (.o m) = G2.fp (.o m) := fun _ => rfl
  have nL : ∀ {x}, (∀ i, x ∉ G2.fp (.s i)) → x ∉ L := fun h m => by
    obtain ⟨i, m⟩ := borOf_mem m
    exact h i m
  have gc : Good K ca (vs.map some) Gc := by
    refine { k := a2.k, c := a2.c, len := (by show (ts.map some).length = (vs.map some).length; simp [l2, l3]), fp := a2.fp.trans (plus_same a2.ph), ph := plus_le a2.ph, nd := fun kk => ?_, dj := fun kk kk' x m m' => ?_, pn := fun kk x m => ?_, adn := a2.adn, adp := fun x m => ?_, ado := fun x m kk q => ?_, sl := fun j t e => ?_, sn := fun j e => ?_, ob := fun m b e => ?_, on := fun m e => a2.on m e, ln := a2.ln }
    · cases kk with
      | s j => exact (b2 j).1
      | o m => exact a2.nd _
    · cases kk with
      | s j => cases kk' with
        | s j' => rw [b3 j j' x m m']
        | o m2 => exact absurd m' (((b2 j).2 x m).2.1 _)
      | o m1 => cases kk' with
        | s j' => exact absurd m (((b2 j').2 x m').2.1 _)
        | o m2 => exact a2.dj _ _ x m m'
    · cases kk with
      | s j =>
        obtain ⟨_, q1, _, q3⟩ := (b2 j).2 x m
        show plus G2.P G2.H L x = none
        rw [plus_out (nL fun i => q1 _)]
        exact q3
      | o m1 =>
        have m : x ∈ G2.fp (.o m1) := m
        show plus G2.P G2.H L x = none
        rw [plus_out (nL fun i z => by cases a2.dj _ _ x m z)]
        exact a2.pn _ x m
    · show plus G2.P G2.H L x = none
      rw [plus_out (nL fun i => a2.ado x m _)]
      exact a2.adp x m
    · cases kk with
      | s j => exact ((b2 j).2 x q).2.2.1 m
      | o m1 => exact a2.ado x m _ q
    · have e : (ts.map some)[j]? = some (some t) := e
      rw [List.getElem?_map] at e
      cases q : ts[j]? with
      | none => rw [q] at e; cases e
      | some u =>
        rw [q] at e
        cases e
        obtain ⟨v, q1, q2⟩ := b1 j t q
        exact ⟨v, by rw [List.getElem?_map, q1]; rfl, q2⟩
    · show gs.getD j [] = []
      have hj : ts.length ≤ j := by
        by_cases h : j < ts.length
        · exact absurd (show (ts.map some)[j]? = some (some ts[j]) by rw [List.getElem?_map, List.getElem?_eq_getElem h]; rfl) (e _)
        · omega
      rw [List.getD_eq_getElem?_getD, List.getElem?_eq_none (by rw [l1, ← l2]; exact hj)]
      rfl
    · obtain ⟨p', q1, q2⟩ := a2.ob m b e
      exact ⟨p', q1, q2.ex (hex _)⟩
  have s1 : Step true G Gc := by
    have a3 := a3.loud
    refine { a3 with p := a3.p.trans (plus_same a2.ph), pnew := fun x o e => ?_, gnew := fun kk x m => ?_, q := fun e => by cases e }
    · by_cases m : x ∈ L
      · obtain ⟨i, m⟩ := borOf_mem m
        rcases a3.gnew _ x m with z | z
        · exact .inr (.inr z)
        · exact .inr (.inl z)
      · have e : plus G2.P G2.H L x = some o := e
        rw [plus_out m] at e
        exact a3.pnew x o e
    · cases kk with
      | s j => exact (a5 x ((b2 j).2 x m).1).symm
      | o m1 => exact a3.gnew _ x m
  refine ⟨by rw [l3]; exact hn _ _ _ h1, Gc, rfl, gc, ts, rr.1, rr.2, rfl, by show d ts G2.O = _; rw [show G2.O = q0.2.2 by rw [← a1]]; exact h3, hbr, fun G' σ' v gr g' st tm nw hO => ?_⟩
  -- back in the caller
  have sg : Step true G G' := s1.trans st
  have FP : Same G'.F G'.P := g'.fp
  have p2 : Same G2.P G'.P := (plus_same a2.ph).trans st.p
  let P3 : Hp := fun x => match G'.F x with | some o => some o | none => G2.P x
  have p3F : ∀ {x o}, G'.F x = some o → P3 x = some o := fun {x o} e => by show (match G'.F x with | some o => some o | none => G2.P x) = _; rw [e]
  have p3N : ∀ {x}, G'.F x = none → P3 x = G2.P x := fun {x} e => by show (match G'.F x with | some o => some o | none => G2.P x) = _; rw [e]
  have p3le : ∀ {x o}, P3 x = some o → G'.P x = some o := fun {x o} e => by
    cases q : G'.F x with
    | some u => rw [p3F q] at e; cases e; exact FP _ _ q
    | none => rw [p3N q] at e; exact p2 _ _ e
  have p3ge : Same G2.P P3 := fun x o e => by
    cases q : G'.F x with
    | some u =>
      rw [p3F q]
      have q1 := FP _ _ q
      rw [p2 _ _ e] at q1
      exact q1.symm
    | none => rw [p3N q]; exact e
  have p3none : ∀ {x}, G'.P x = none → P3 x = none := fun {x} e => by
    cases q : P3 x with
    | none => rfl
    | some o => rw [p3le q] at e; cases e
  -- the caller's own nodes are none of the callee's
  have mine : ∀ {i x}, x ∈ G2.fp (.s i) → (∀ kk, x ∉ Gc.fp kk) ∧ G2.H x ≠ none ∧ x ∉ G2.ad := fun {i x} m => by
    refine ⟨fun kk q => ?_, a2.fpH m, fun q => a2.ado x q _ m⟩
    cases kk with
    | s j => exact ((b2 j).2 x q).2.1 _ m
    | o m1 => cases a2.dj _ _ x m q
  let G3 : Gh := { G' with P := P3, fp := fun kk => match kk with | .s i => G2.fp (.s i) | .o m => G'.fp (.o m), τ := G2.τ, O := rr.2 }
  have hO' : G'.O = rr.2 := hO
  have exF3 : ∀ gg, ExF G'.toHc G3.toHc gg := fun gg => ⟨rfl, Same.refl _, fun _ _ _ e => e, fun _ _ e => e⟩
  have g3 : Good K ca σ G3 := by
    refine { k := g'.k, c := g'.c, len := a2.len, fp := fun x o e => p3F e, ph := fun x o e => g'.ph _ _ (p3le e), nd := fun kk => ?_, dj := fun kk kk' x m m' => ?_, pn := fun kk x m => ?_, adn := g'.adn, adp := fun x m => p3none (g'.adp x m), ado := fun x m kk q => ?_, sl := fun i t e => ?_, sn := fun i e => a2.sn i e, ob := fun m b e => ?_, on := fun m e => ?_, ln := by show G'.ad.length = rr.2.length; rw [← hO']; exact g'.ln }
    · cases kk with
      | s i => exact a2.nd _
      | o m => exact g'.nd _
    · have cross : ∀ {i m1}, x ∈ G2.fp (.s i) → x ∈ G'.fp (.o m1) → False := fun {i m1} h h' => by
        obtain ⟨z1, z2, _⟩ := mine h
        rcases st.gnew _ x h' with ⟨kk, q⟩ | q
        · exact z1 kk q
        · exact z2 q
      cases kk with
      | s i => cases kk' with
        | s i' => exact a2.dj _ _ x m m'
        | o m1 => exact (cross m m').elim
      | o m1 => cases kk' with
        | s i' => exact (cross m' m).elim
        | o m2 => exact g'.dj _ _ x m m'
    · cases kk with
      | s i =>
        have m : x ∈ G2.fp (.s i) := m
        obtain ⟨z1, z2, _⟩ := mine m
        have hp := a2.pn _ x m
        have hF : G'.F x = none := by
          cases q : G'.F x with
          | none => rfl
          | some o =>
            rcases st.fnew x o q with h | h | ⟨kk, h⟩
            · rw [a2.fp _ _ h] at hp; cases hp
            · exact absurd h z2
            · exact absurd h (z1 kk)
        show P3 x = none
        rw [p3N hF]; exact hp
      | o m1 => exact p3none (g'.pn (.o m1) x m)
    · cases kk with
      | s i =>
        have q : x ∈ G2.fp (.s i) := q
        obtain ⟨z1, z2, z3⟩ := mine q
        rcases st.anew x m with h | h | ⟨kk, h⟩
        · exact z3 h
        · exact z2 h
        · exact z1 kk h
      | o m1 => exact g'.ado x m _ q
    · obtain ⟨v', q1, q2⟩ := a2.sl i t e
      refine ⟨v', q1, Rep.ex (c := G2.toHc) _ _ _ ⟨st.k, st.c, st.f, p3ge, fun x m o e => ?_, st.ad⟩ q2⟩
      obtain ⟨z1, z2, z3⟩ := mine m
      exact st.fr x o e z1 z3
    · obtain ⟨p', q1, q2⟩ := g'.ob m b (by rw [hO']; exact e)
      exact ⟨p', q1, q2.exF (exF3 _) rfl⟩
    · exact g'.on m (by rw [hO']; exact e)
  have s3 : Step true G G3 := by
    refine { sg with p := a3.p.trans p3ge, pnew := fun x o e => ?_, gnew := fun kk x m => ?_, q := fun e => by cases e }
    · cases q : G'.F x with
      | some u => exact (sg.fnew x u q).imp (fun z => by
          have e : P3 x = some o := e
          rw [p3F q] at e; cases e; exact g.fp _ _ z) id
      | none =>
        have e : P3 x = some o := e
        rw [p3N q] at e
        exact a3.pnew x o e
    · cases kk with
      | s i => exact a3.gnew _ x m
      | o m1 => exact sg.gnew _ x m
  refine k G3 v gr ?_ g3 s3 ⟨Rep.exF _ _ _ hbr (exF3 _) tm.rep, tm.nd, fun x m => ?_⟩ (nw.step s1)
  · show (G2.τ, rr.2) = (q0.2.1, rr.2)
    rw [← a1]
  · obtain ⟨z1, z2, z3⟩ := tm.out x m
    refine ⟨fun kk q => ?_, z2, p3none z3⟩
    cases kk with
    | s i =>
      have q : x ∈ G2.fp (.s i) := q
      obtain ⟨y1, y2, _⟩ := mine q
      rcases nw x m with h | ⟨kk, h⟩
      · exact y2 h
      · exact y1 kk h
    | o m1 => exact z1 _ q
theorem aCons_len {a : DO} {r : DA} {n : Nat} (h : ∀ S as S', r S = some (as, S') → as.length = n) : ∀ S as S', aCons a r S = some (as, S') → as.length = n + 1 := fun S as S' e => by
  obtain ⟨p, h3, e⟩ := Option.bind_eq_some_iff.mp e
  obtain ⟨q, h4, e⟩ := Option.bind_eq_some_iff.mp e
  cases e
  rw [List.length_cons, h _ _ _ h4]
theorem aNil_len : ∀ S as S', aNil S = some (as, S') → as.length = 0 := fun S as S' e => by cases e; rfl
/-- a def of the module, found by its name -/
structure Callee (P : Program) (w : World) (K : PySem.W.Frag) (mg : Str → Option Value) (base : Heap) (ca : Str → Addr) (x : Str) (ps : List Str) (k : Nat) (d : DF) : Prop where
  ex : ∃ f fd, mg x = some (.ref f) ∧ PySem.W.keepIn K (.ref f) = true ∧ Binds K fd ps [] ∧ FnOk P w K mg base CX0 k f fd ps (spT K ca ps.length d)
theorem ex_call {x : Str} {ps : List Str} {kl : Nat} {d : DF} {e : Expr} {es : List Expr} {da : DA} (C : Callee X.prog X.w X.K X.mg X.base ca x ps kl d) (hr : Room kl X.A) (ha : AX ca X (e :: es) ef da) (hn : ∀ S as S', da S = some (as, S') → as.length = ps.length) (hg : Gl X x := by rfl)
    (hdb : (x == ("__debug__" : Str)) = false := by decide) (he : starEach (e :: es) X.env = (false, eval e X.env) :: starEach es X.env := by rfl) (hpl : (backTo pos (starEach es X.env)).any (·.1) = false := by rfl) :
    EX ca X (.Call (.Name x p) (e :: es) [] pos) true (dCall d da) := by
  obtain ⟨f, fd, hm, hk, hb, F⟩ := C.ex
  refine PE.imp (pe_call F hr hg hm hk hb .nil pass0 ha hdb he hpl) fun σ H Q w => ?_
  have z := call_of (ef := ef) (E := E0) w hn
  show liftA X.K ca ef da σ H fun vs H1 => spT X.K ca ps.length d (vs ++ []) H1 Q E0
  simpa only [List.append_nil] using z
end
end TL

set_option Elab.async false
set_option linter.all false
set_option maxRecDepth 100000
/-! TL10: lists that slots or handles hold, changed. -/
namespace TL
open PySem PySem.Spec L2

def getL (S : SS) (i : Nat) : Option (List T) := match slot S i with
  | some (.lst .ow xs) => some xs
  | some (.hnd n) => (match S.2[n]? with
    | some (.lst xs) => some xs
    | _ => none)
  | _ => none
def putL (S : SS) (i : Nat) (xs : List T) : Option SS := match slot S i with
  | some (.hnd n) => if noBrs xs then some (S.1, S.2.set n (.lst xs)) else none
  | _ => some (setS S i (some (.lst .ow xs)))
section
variable {K : PySem.W.Frag} {ca : Str → Addr} {σ : L2.St} {G : Gh}
theorem ex_upd {c : Gh} {p : Addr} {o : HO} {gg : List Addr} {fp : Own → List Addr} {τ : List (Option T)} {O : List Ob} (n : p ∉ gg) : Ex c.toHc { c with H := upd c.H p o, fp := fp, τ := τ, O := O : Gh }.toHc gg := ⟨rfl, rfl, Same.refl _, Same.refl _, fun a m u e => by
  show upd c.H p o a = _
  rw [upd_ne fun z => n (by rw [← z]; exact m)]; exact e, ⟨[], by simp⟩⟩
theorem Good.mutL (g : Good K ca σ G) {i : Nat} {xs : List T} (h : getL G.S i = some xs) : ∃ p vs gs, σ[i]? = some (some (.ref p)) ∧ G.H p = some (.lst vs) ∧ Reps G.toHc xs vs gs ∧ gs.Nodup ∧ (∀ a ∈ gs, ∃ k, a ∈ G.fp k) ∧ ((∃ k, p ∈ G.fp k) ∨ p ∈ G.ad) ∧
    ∀ xs' vs' gs' S', putL G.S i xs' = some S' → Reps G.toHc xs' vs' gs' → gs'.Nodup → (∀ a ∈ gs', a ∈ gs ∨ ((∀ k, a ∉ G.fp k) ∧ a ∉ G.ad ∧ G.P a = none)) →
      ∃ G', G'.H = upd G.H p (.lst vs') ∧ G'.S = S' ∧ Good K ca σ G' ∧ (∀ G0 ef, Step ef G0 G → New G0 gs' → Step true G0 G') ∧ ∀ v t g2, Tmp G v t g2 → (∀ a ∈ g2, a ∉ gs') → Tmp G' v t g2 := by
  unfold getL at h
  split at h
  · rename_i ys hs
    cases h
    have hs := slot_some hs
    obtain ⟨v, e1, p, vs, gs, rfl, e2, r, e3⟩ := g.sl i _ hs
    have li : i < G.τ.length := (List.getElem?_eq_some_iff.mp hs).1
    have nd := g.nd (.s i)
    rw [e3] at nd
    have nd2 := List.nodup_cons.mp nd
    have pin : p ∈ G.fp (.s i) := by rw [e3]; simp
    have gin : ∀ a ∈ gs, a ∈ G.fp (.s i) := fun a m => by rw [e3]; exact List.mem_cons_of_mem _ m
    refine ⟨p, vs, gs, e1, e2, r, nd2.2, fun a m => ⟨_, gin a m⟩, .inl ⟨_, pin⟩, fun xs' vs' gs' S' hp r' nd' out' => ?_⟩
    have pn' : p ∉ gs' := fun m => by
      rcases out' p m with z | z
      · exact nd2.1 z
      · exact z.1 _ pin
    have hp : some (setS G.S i (some (.lst .ow xs'))) = some S' := by
      unfold putL at hp
      rw [show slot G.S i = some (.lst .ow xs) by unfold slot; rw [show G.S.1[i]? = _ from hs]; rfl] at hp
      exact hp
    cases hp
    let G' : Gh := { G with H := upd G.H p (.lst vs'), fp := fun k => if k = .s i then p :: gs' else G.fp k, τ := G.τ.set i (some (.lst .ow xs')), O := G.O }
    have fs : G'.fp (.s i) = p :: gs' := if_pos rfl
    have fn : ∀ {k}, k ≠ .s i → G'.fp k = G.fp k := fun e => if_neg e
    have sub : ∀ k a, a ∈ G'.fp k → (a ∈ G.fp k) ∨ (k = .s i ∧ a ∈ gs' ∧ (∀ k, a ∉ G.fp k) ∧ a ∉ G.ad ∧ G.P a = none) := fun k a m => by
      by_cases e : k = .s i
      · subst e
        rw [fs] at m
        rcases List.mem_cons.mp m with z | m
        · rw [z]; exact .inl pin
        · rcases out' a m with z | z
          · exact .inl (gin a z)
          · exact .inr ⟨rfl, m, z⟩
      · rw [fn e] at m; exact .inl m
    have ne_p : ∀ {k}, k ≠ .s i → p ∉ G.fp k := fun e m => e (g.dj _ _ p m pin)
    have good : Good K ca σ G' := by
      refine { k := g.k, c := g.c, len := (List.length_set ..).trans g.len, fp := g.fp, ph := fun a u e => ?_, nd := fun k => ?_, dj := fun k k' a m m' => ?_, pn := fun k a m => ?_, adn := g.adn, adp := g.adp, ado := fun a m k q => ?_, sl := fun j u e => ?_, sn := fun j e => ?_, ob := fun n b e => ?_, on := fun n e => ?_, ln := g.ln }
      · show upd G.H p _ a = _
        have e : G.P a = some u := e
        rw [upd_ne fun z => by rw [z, g.pn _ p pin] at e; cases e]
        exact g.ph a u e
      · by_cases e : k = .s i
        · subst e; rw [fs]; exact List.nodup_cons.mpr ⟨pn', nd'⟩
        · rw [fn e]; exact g.nd k
      · rcases sub k a m with z | ⟨z, _, y, _⟩ <;> rcases sub k' a m' with z' | ⟨z', _, y', _⟩
        · exact g.dj _ _ a z z'
        · exact absurd z (y' _)
        · exact absurd z' (y _)
        · rw [z, z']
      · rcases sub k a m with z | ⟨_, _, _, _, y⟩
        · exact g.pn _ a z
        · exact y
      · rcases sub k a q with z | ⟨_, _, _, y, _⟩
        · exact g.ado a m _ z
        · exact y m
      · rcases setAt (show (G.τ.set i (some (.lst .ow xs')))[j]? = some (some u) from e) with ⟨ej, q, _⟩ | ⟨ne, q⟩
        · subst ej
          cases q
          refine ⟨.ref p, e1, ?_⟩
          rw [fs]
          exact ⟨p, vs', gs', rfl, upd_same, Reps.ex _ _ _ (ex_upd pn') r', rfl⟩
        · obtain ⟨v', a', r2⟩ := g.sl j u q
          have nej : Own.s j ≠ .s i := by intro z; cases z; exact ne rfl
          exact ⟨v', a', by rw [fn nej]; exact Rep.ex _ _ _ (ex_upd (ne_p nej)) r2⟩
      · by_cases ej : j = i
        · subst ej
          exact absurd (show (G.τ.set j (some (.lst .ow xs')))[j]? = some (some (.lst .ow xs')) by rw [List.getElem?_set_self li]) (e _)
        · rw [fn (by intro z; cases z; exact ej rfl)]
          refine g.sn j fun u q => e u ?_
          show (G.τ.set i _)[j]? = _
          rw [List.getElem?_set_ne (Ne.symm ej)]
          exact q
      · obtain ⟨q, a', r2⟩ := g.ob n b e
        rw [fn (by intro z; cases z)]
        refine ⟨q, a', r2.ex (ex_upd fun m => ?_)⟩
        rcases List.mem_cons.mp m with z | m
        · subst z; exact g.ado p (List.mem_of_getElem? a') _ pin
        · exact ne_p (by intro z; cases z) m
      · rw [fn (by intro z; cases z)]; exact g.on n e
    refine ⟨G', rfl, rfl, good, fun G0 ef s n => { s with fr := fun a u e h1 h2 => ?_, dom := fun a e => ?_, gnew := fun k a m => ?_, q := fun e => by cases e }, fun v t g2 m ap => ⟨Rep.ex _ _ _ (ex_upd fun z => (m.out p z).1 _ pin) m.rep, m.nd, fun a q => ?_⟩⟩
    · show upd G.H p _ a = _
      rw [upd_ne fun z => by
        subst z
        rcases s.gnew _ a pin with ⟨k', y⟩ | y
        · exact h1 _ y
        · rw [e] at y; cases y]
      exact s.fr a u e h1 h2
    · show upd G.H p _ a ≠ none
      by_cases z : a = p
      · rw [z, upd_same]; simp
      · rw [upd_ne z]; exact s.dom a e
    · rcases sub k a m with z | ⟨_, z, _⟩
      · exact s.gnew _ a z
      · exact (n a z).symm
    · obtain ⟨o1, o2, o3⟩ := m.out a q
      refine ⟨fun k z => ?_, o2, o3⟩
      rcases sub k a z with y | ⟨_, y, _⟩
      · exact o1 _ y
      · exact ap a q y
  · rename_i n hs
    split at h
    · rename_i ys hx
      cases h
      have hs' := slot_some hs
      obtain ⟨v, e1, p, rfl, e2, e3⟩ := g.sl i _ hs'
      obtain ⟨q, e4, vs, e5, r, nb⟩ := g.ob n (.lst xs) hx
      have e2 : G.ad[n]? = some p := e2
      rw [e2] at e4
      cases e4
      have ln : n < G.O.length := (List.getElem?_eq_some_iff.mp (show G.O[n]? = _ from hx)).1
      have pad : p ∈ G.ad := List.mem_of_getElem? e2
      refine ⟨p, vs, G.fp (.o n), e1, e5, r, g.nd _, fun a m => ⟨_, m⟩, .inr pad, fun xs' vs' gs' S' hp r' nd' out' => ?_⟩
      have pn' : p ∉ gs' := fun m => by
        rcases out' p m with z | z
        · exact g.ado p pad _ z
        · exact z.2.1 pad
      unfold putL at hp
      rw [hs] at hp
      have hp : (if noBrs xs' then some (G.τ, G.O.set n (.lst xs')) else none) = some S' := hp
      split at hp
      case isFalse => cases hp
      rename_i nb'
      cases hp
      let G' : Gh := { G with H := upd G.H p (.lst vs'), fp := fun k => if k = .o n then gs' else G.fp k, τ := G.τ, O := G.O.set n (.lst xs') }
      have fs : G'.fp (.o n) = gs' := if_pos rfl
      have fn : ∀ {k}, k ≠ .o n → G'.fp k = G.fp k := fun e => if_neg e
      have sub : ∀ k a, a ∈ G'.fp k → (a ∈ G.fp k) ∨ (k = .o n ∧ a ∈ gs' ∧ (∀ k, a ∉ G.fp k) ∧ a ∉ G.ad ∧ G.P a = none) := fun k a m => by
        by_cases e : k = .o n
        · subst e
          rw [fs] at m
          rcases out' a m with z | z
          · exact .inl z
          · exact .inr ⟨rfl, m, z⟩
        · rw [fn e] at m; exact .inl m
      have ne_p : ∀ {k}, p ∉ G.fp k := fun {k} m => g.ado p pad k m
      have good : Good K ca σ G' := by
        refine { k := g.k, c := g.c, len := g.len, fp := g.fp, ph := fun a u e => ?_, nd := fun k => ?_, dj := fun k k' a m m' => ?_, pn := fun k a m => ?_, adn := g.adn, adp := g.adp, ado := fun a m k q => ?_, sl := fun j u e => ?_, sn := fun j e => ?_, ob := fun m b e => ?_, on := fun m e => ?_, ln := by show G.ad.length = (G.O.set n _).length; rw [List.length_set]; exact g.ln }
        · show upd G.H p _ a = _
          have e : G.P a = some u := e
          rw [upd_ne fun z => by rw [z, g.adp p pad] at e; cases e]
          exact g.ph a u e
        · by_cases e : k = .o n
          · subst e; rw [fs]; exact nd'
          · rw [fn e]; exact g.nd k
        · rcases sub k a m with z | ⟨z, _, y, _⟩ <;> rcases sub k' a m' with z' | ⟨z', _, y', _⟩
          · exact g.dj _ _ a z z'
          · exact absurd z (y' _)
          · exact absurd z' (y _)
          · rw [z, z']
        · rcases sub k a m with z | ⟨_, _, _, _, y⟩
          · exact g.pn _ a z
          · exact y
        · rcases sub k a q with z | ⟨_, _, _, y, _⟩
          · exact g.ado a m _ z
          · exact y m
        · obtain ⟨v', a', r2⟩ := g.sl j u e
          exact ⟨v', a', by rw [fn (by intro z; cases z)]; exact Rep.ex _ _ _ (ex_upd ne_p) r2⟩
        · rw [fn (by intro z; cases z)]; exact g.sn j e
        · rcases setAt (show (G.O.set n (.lst xs'))[m]? = some b from e) with ⟨ej, q, _⟩ | ⟨ne, q⟩
          · subst ej
            cases q
            refine ⟨p, e2, ?_⟩
            rw [fs]
            exact ⟨vs', upd_same, Reps.ex _ _ _ (ex_upd pn') r', nb'⟩
          · obtain ⟨q', a', r2⟩ := g.ob m b q
            rw [fn (by intro z; cases z; exact ne rfl)]
            refine ⟨q', a', r2.ex (ex_upd fun mm => ?_)⟩
            rcases List.mem_cons.mp mm with z | mm
            · subst z
              obtain ⟨l1, h1⟩ := List.getElem?_eq_some_iff.mp a'
              obtain ⟨l2, h2⟩ := List.getElem?_eq_some_iff.mp e2
              exact ne ((List.getElem_inj g.adn).mp (h2.trans h1.symm))
            · exact ne_p mm
        · by_cases ej : m = n
          · subst ej
            have e : (G.O.set m (.lst xs'))[m]? = none := e
            rw [List.getElem?_set_self ln] at e
            cases e
          · rw [fn (by intro z; cases z; exact ej rfl)]
            refine g.on m ?_
            have e : (G.O.set n (.lst xs'))[m]? = none := e
            rw [List.getElem?_set_ne (Ne.symm ej)] at e
            exact e
      refine ⟨G', rfl, rfl, good, fun G0 ef s n => { s with fr := fun a u e h1 h2 => ?_, dom := fun a e => ?_, gnew := fun k a m => ?_, q := fun e => by cases e }, fun v t g2 m ap => ⟨Rep.ex _ _ _ (ex_upd fun z => (m.out p z).2.1 pad) m.rep, m.nd, fun a q => ?_⟩⟩
      · show upd G.H p _ a = _
        rw [upd_ne fun z => by
          subst z
          rcases s.anew _ pad with y | y | ⟨k', y⟩
          · exact h2 y
          · rw [e] at y; cases y
          · exact h1 _ y]
        exact s.fr a u e h1 h2
      · show upd G.H p _ a ≠ none
        by_cases z : a = p
        · rw [z, upd_same]; simp
        · rw [upd_ne z]; exact s.dom a e
      · rcases sub k a m with z | ⟨_, z, _⟩
        · exact s.gnew _ a z
        · exact (n a z).symm
      · obtain ⟨o1, o2, o3⟩ := m.out a q
        refine ⟨fun k z => ?_, o2, o3⟩
        rcases sub k a z with y | ⟨_, y, _⟩
        · exact o1 _ y
        · exact ap a q y
    · cases h
  · cases h
theorem getL_ty {i : Nat} {xs : List T} (g : Good K ca σ G) (h : getL G.S i = some xs) : ∃ p, σ[i]? = some (some (.ref p)) ∧ tyV K "list" (.ref p) G.H := by
  obtain ⟨p, vs, gs, e1, e2, _⟩ := g.mutL h
  exact ⟨p, e1, .inl ⟨rfl, vs, SqL.of e2⟩⟩
/-- a child put in another's place -/
theorem Reps.set {c : Hc} : ∀ {ts : List T} {vs : List V} {g : List Addr} {j : Nat} {t : T} {v : V} {gt : List Addr}, Reps c ts vs g → g.Nodup → Rep c t v gt → gt.Nodup → (∀ a ∈ gt, a ∉ g) → ∃ g', Reps c (ts.set j t) (vs.set j v) g' ∧ g'.Nodup ∧ ∀ a ∈ g', a ∈ g ∨ a ∈ gt
  | [], _, _, j, _, _, _, ⟨a, b⟩, _, _, _, _ => by
    subst a b
    exact ⟨[], ⟨rfl, rfl⟩, List.nodup_nil, fun _ m => absurd m (by simp)⟩
  | u :: ts, _, _, 0, t, v, gt, ⟨w, r, ga, gb, a, b, d, q⟩, nd, rt, ndt, ap => by
    subst a b
    have n2 := List.nodup_append.mp nd
    refine ⟨gt ++ gb, ⟨v, r, gt, gb, rfl, rfl, rt, q⟩, List.nodup_append.mpr ⟨ndt, n2.2.1, fun x m y m' e => ap x m (by rw [e]; exact List.mem_append_right _ m')⟩, fun x m => ?_⟩
    rcases List.mem_append.mp m with m | m
    · exact .inr m
    · exact .inl (List.mem_append_right _ m)
  | u :: ts, _, _, j + 1, t, v, gt, ⟨w, r, ga, gb, a, b, d, q⟩, nd, rt, ndt, ap => by
    subst a b
    have n2 := List.nodup_append.mp nd
    obtain ⟨g', r', nd', sub⟩ := Reps.set (j := j) q n2.2.1 rt ndt fun x m z => ap x m (List.mem_append_right _ z)
    refine ⟨ga ++ g', ⟨w, r.set j v, ga, g', rfl, rfl, d, r'⟩, List.nodup_append.mpr ⟨n2.1, nd', fun x m y m' e => ?_⟩, fun x m => ?_⟩
    · subst e
      rcases sub x m' with z | z
      · exact n2.2.2 x m x z rfl
      · exact ap x z (List.mem_append_left _ m)
    · rcases List.mem_append.mp m with m | m
      · exact .inl (List.mem_append_left _ m)
      · rcases sub x m with z | z
        · exact .inl (List.mem_append_right _ z)
        · exact .inr z
end
/-! ### mirrors -/
def dApp (i : Nat) (d : DE) : DE := fun S => (getL S i).bind fun _ => (d S).bind fun p => (getL p.2 i).bind fun xs => if xs.length < sizeLine then (putL p.2 i (xs ++ [p.1])).bind fun S' => some (.non, S') else none
/-- extend by a list whose items have no nodes -/
def dExt (i : Nat) (a : DO) : DE := fun S => (getL S i).bind fun _ => (a S).bind fun p => (p.1.res p.2).bind fun y => (getL p.2 i).bind fun xs => match y with
  | .lst m ys => if (m ≠ .sc ∧ noOws ys = true) ∧ xs.length + ys.length ≤ sizeLine then (putL p.2 i (xs ++ ys)).bind fun S' => some (.non, S') else none
  | _ => none
def dPopL (i : Nat) : DE := fun S => (getL S i).bind fun xs => (xs[xs.length - 1]?).bind fun t => if t.noOw then (putL S i xs.dropLast).bind fun S' => some (t, S') else none
def dRev (i : Nat) : DE := fun S => (getL S i).bind fun xs => if noOws xs then (putL S i xs.reverse).bind fun S' => some (.non, S') else none
/-- x[k] = .., the list in slot i -/
def gIx (i : Nat) (d : DE) : DG := fun t S => (getL S i).bind fun _ => (d S).bind fun p => (getL p.2 i).bind fun xs => match p.1 with
  | .int k => (ixN xs.length k).bind fun j => putL p.2 i (xs.set j t)
  | _ => none
section
variable {X : Cx} {ca : Str → Addr} {e o : Expr} {es : List Expr} {ef : Bool} {apos cpos pos : Pos}
theorem ex_app {i : Nat} {d : DE} (ho : PE X o (tVar i)) (h : EX ca X e ef d) (hbase : attributeBase o "append" X.env (eval o X.env) = eval o X.env := by rfl)
    (hfew : ((backTo cpos (starEach [e] X.env)).all (fun x => !x.1) && (backToKw cpos (keywordEach [] X.env)).all (fun x => x.1.isSome)
      && decide (([e] : List Expr).length + ([] : List Keyword).length + (if ([] : List Keyword).isEmpty then 0 else 1) < 30)) = true := by rfl)
    (hline : (apos.endLine == cpos.line) = true := by rfl) (hs : starEach [e] X.env = (false, eval e X.env) :: starEach [] X.env := by rfl) (hplain : (backTo cpos (starEach [] X.env)).any (·.1) = false := by rfl) : EX ca X (.Call (.Attribute o "append" apos) [e] [] cpos) true (dApp i d) :=
  PE.imp (pe_bm PySem.F.plainAttrs_list PySem.F.slot_list_append PySem.F.type_list_append mt_append ho (pa_cons h pa_nil hs) hbase hfew hline hs hplain) fun σ H Q w => by
    obtain ⟨G, rfl, g, r, S', e1, k⟩ := w
    obtain ⟨x0, h0, e1⟩ := Option.bind_eq_some_iff.mp e1
    obtain ⟨p, h1, e1⟩ := Option.bind_eq_some_iff.mp e1
    obtain ⟨xs, h2, e1⟩ := Option.bind_eq_some_iff.mp e1
    split at e1
    case isFalse => cases e1
    rename_i hl
    obtain ⟨S2, h3, e1⟩ := Option.bind_eq_some_iff.mp e1
    cases e1
    obtain ⟨q, hq, ty⟩ := getL_ty g h0
    refine ⟨_, hq, ty, G, rfl, g, p.1, p.2, h1, fun G1 v gv a1 a2 a3 a4 a5 => ?_⟩
    obtain ⟨q', vs, gs, e2, e3, rr, nd, ow, _, mk⟩ := a2.mutL (by rw [a1]; exact h2)
    rw [hq] at e2
    cases e2
    have apart : ∀ a ∈ gs, a ∉ gv := fun a m z => by
      obtain ⟨kk, y⟩ := ow a m
      exact (a4.out a z).1 kk y
    have rn : Reps G1.toHc (xs ++ [p.1]) (vs ++ [v]) (gs ++ gv) := rr.append ⟨v, [], gv, [], rfl, by simp, a4.rep, rfl, rfl⟩
    obtain ⟨G', b1, b2, b3, b4, _⟩ := mk (xs ++ [p.1]) (vs ++ [v]) (gs ++ gv) _ (by rw [a1]; exact h3) rn (List.nodup_append.mpr ⟨nd, a4.nd, fun a m b m' z => apart a m (by rw [z]; exact m')⟩) fun a m => (List.mem_append.mp m).imp id fun z => a4.out a z
    refine ⟨q, vs, v, rfl, rfl, e3, by rw [rr.len]; exact hl, ?_⟩
    rw [← b1]
    refine k G' .non [] b2 b3 (b4 G ef a3 fun a m => ?_) (.bare ⟨rfl, rfl⟩) New.nil
    rcases List.mem_append.mp m with m | m
    · obtain ⟨kk, y⟩ := ow a m
      exact (a3.gnew kk a y).symm
    · exact a5 a m
theorem ex_ext {i : Nat} {d : DO} (ho : PE X o (tVar i)) (h : OX ca X e ef d) (hbase : attributeBase o "extend" X.env (eval o X.env) = eval o X.env := by rfl)
    (hfew : ((backTo cpos (starEach [e] X.env)).all (fun x => !x.1) && (backToKw cpos (keywordEach [] X.env)).all (fun x => x.1.isSome)
      && decide (([e] : List Expr).length + ([] : List Keyword).length + (if ([] : List Keyword).isEmpty then 0 else 1) < 30)) = true := by rfl)
    (hline : (apos.endLine == cpos.line) = true := by rfl) (hs : starEach [e] X.env = (false, eval e X.env) :: starEach [] X.env := by rfl) (hplain : (backTo cpos (starEach [] X.env)).any (·.1) = false := by rfl) : EX ca X (.Call (.Attribute o "extend" apos) [e] [] cpos) true (dExt i d) :=
  PE.imp (pe_bm PySem.F.plainAttrs_list PySem.F.slot_list_extend PySem.F.type_list_extend mt_extend ho (pa_cons h pa_nil hs) hbase hfew hline hs hplain) fun σ H Q w => by
    obtain ⟨G, rfl, g, r, S', e1, k⟩ := w
    obtain ⟨x0, h0, e1⟩ := Option.bind_eq_some_iff.mp e1
    obtain ⟨p, h1, e1⟩ := Option.bind_eq_some_iff.mp e1
    obtain ⟨y, h2, e1⟩ := Option.bind_eq_some_iff.mp e1
    obtain ⟨xs, h3, e1⟩ := Option.bind_eq_some_iff.mp e1
    obtain ⟨q, hq, ty⟩ := getL_ty g h0
    refine ⟨_, hq, ty, G, rfl, g, p.1, p.2, h1, fun G1 v gv a1 a2 a3 a4 a5 => ?_⟩
    obtain ⟨gy, ry⟩ := a4.rep a2 (by rw [a1]; exact h2)
    obtain ⟨m, ys, rfl⟩ : ∃ m ys, y = .lst m ys := by
      cases y with
      | lst m ys => exact ⟨m, ys, rfl⟩
      | _ => cases e1
    have e1 : (if (m ≠ .sc ∧ noOws ys = true) ∧ xs.length + ys.length ≤ sizeLine then (putL p.2 i (xs ++ ys)).bind fun S' => some (T.non, S') else none) = some (r, S') := e1
    split at e1
    case isFalse => cases e1
    rename_i hl
    obtain ⟨S2, h4, e1⟩ := Option.bind_eq_some_iff.mp e1
    cases e1
    obtain ⟨b, ws, gw, rfl, _, rw', tr, _⟩ := Rep.lstL a2.fp a2.ph ry
    obtain ⟨q', vs, gs, e2, e3, rr, nd, ow, _, mk⟩ := a2.mutL (by rw [a1]; exact h3)
    rw [hq] at e2
    cases e2
    have rn : Reps G1.toHc (xs ++ ys) (vs ++ ws) (gs ++ []) := rr.append (rw'.bare hl.1.2)
    rw [List.append_nil] at rn
    obtain ⟨G', b1, b2, b3, b4, _⟩ := mk (xs ++ ys) (vs ++ ws) gs _ (by rw [a1]; exact h4) rn nd fun a m => .inl m
    refine ⟨q, b, vs, ws, rfl, rfl, e3, tr hl.1.1, by rw [rr.len, rw'.len]; exact hl.2, ?_⟩
    rw [← b1]
    refine k G' .non [] b2 b3 (b4 G ef a3 fun a m => ?_) (.bare ⟨rfl, rfl⟩) New.nil
    obtain ⟨kk, y⟩ := ow a m
    exact (a3.gnew kk a y).symm
theorem ex_popL {i : Nat} (ho : PE X o (tVar i)) (hbase : attributeBase o "pop" X.env (eval o X.env) = eval o X.env := by rfl) (hline : (apos.endLine == cpos.line) = true := by rfl) : EX ca X (.Call (.Attribute o "pop" apos) [] [] cpos) true (dPopL i) :=
  PE.imp (pe_bm0 PySem.F.plainAttrs_list PySem.F.slot_list_pop PySem.F.type_list_pop mt_pop ho hbase hline) fun σ H Q w => by
    obtain ⟨G, rfl, g, r, S', e1, k⟩ := w
    obtain ⟨xs, h0, e1⟩ := Option.bind_eq_some_iff.mp e1
    obtain ⟨t, h1, e1⟩ := Option.bind_eq_some_iff.mp e1
    split at e1
    case isFalse => cases e1
    rename_i no
    obtain ⟨S2, h3, e1⟩ := Option.bind_eq_some_iff.mp e1
    cases e1
    obtain ⟨q, hq, ty⟩ := getL_ty g h0
    obtain ⟨q', vs, gs, e2, e3, rr, nd, ow, _, mk⟩ := g.mutL h0
    rw [hq] at e2
    cases e2
    obtain ⟨v, gt, e4, e5, _⟩ := rr.get h1
    have e6 := Rep.noOw _ _ _ no e5
    subst e6
    -- what is left
    have cut : ∀ {ts : List T} {ws : List V} {gg : List Addr}, Reps G.toHc ts ws gg → gg.Nodup → ∃ g', Reps G.toHc ts.dropLast ws.dropLast g' ∧ g'.Nodup ∧ ∀ a ∈ g', a ∈ gg := by
      intro ts
      induction ts with
      | nil => intro ws gg r _; obtain ⟨rfl, rfl⟩ := r; exact ⟨[], ⟨rfl, rfl⟩, List.nodup_nil, fun _ m => m⟩
      | cons u ts ih =>
        intro ws gg r nd
        obtain ⟨w, r', ga, gb, rfl, rfl, ru, rs⟩ := r
        cases ts with
        | nil => obtain ⟨rfl, rfl⟩ := rs; exact ⟨[], ⟨rfl, rfl⟩, List.nodup_nil, fun _ m => absurd m (by simp)⟩
        | cons u2 ts =>
          have n2 := List.nodup_append.mp nd
          obtain ⟨g', h1, h2, h3⟩ := ih rs n2.2.1
          have e : (w :: r').dropLast = w :: r'.dropLast := by
            have := rs.len
            cases r' with
            | nil => simp at this
            | cons a b => rfl
          refine ⟨ga ++ g', ⟨w, r'.dropLast, ga, g', e, rfl, ru, h1⟩, List.nodup_append.mpr ⟨n2.1, h2, fun x m y m' z => n2.2.2 x m y (h3 y m') z⟩, fun a m => ?_⟩
          rcases List.mem_append.mp m with m | m
          · exact List.mem_append_left _ m
          · exact List.mem_append_right _ (h3 a m)
    obtain ⟨g', c1, c2, c3⟩ := cut rr nd
    obtain ⟨G', b1, b2, b3, b4, b5⟩ := mk xs.dropLast vs.dropLast g' _ h3 c1 c2 fun a m => .inl (c3 a m)
    refine ⟨_, hq, ty, q, vs, v, rfl, rfl, e3, by rw [rr.len]; exact e4, ?_⟩
    rw [← b1]
    exact k G' v [] b2 b3 (b4 G false (Step.refl _) fun a m => .inr (ow a (c3 a m))) (b5 v r [] (.bare e5) fun _ m => absurd m (by simp)) New.nil
theorem ex_revL {i : Nat} (ho : PE X o (tVar i)) (hbase : attributeBase o "reverse" X.env (eval o X.env) = eval o X.env := by rfl) (hline : (apos.endLine == cpos.line) = true := by rfl) : EX ca X (.Call (.Attribute o "reverse" apos) [] [] cpos) true (dRev i) :=
  PE.imp (pe_bm0 PySem.F.plainAttrs_list PySem.F.slot_list_reverse PySem.F.type_list_reverse mt_reverse ho hbase hline) fun σ H Q w => by
    obtain ⟨G, rfl, g, r, S', e1, k⟩ := w
    obtain ⟨xs, h0, e1⟩ := Option.bind_eq_some_iff.mp e1
    split at e1
    case isFalse => cases e1
    rename_i no
    obtain ⟨S2, h3, e1⟩ := Option.bind_eq_some_iff.mp e1
    cases e1
    obtain ⟨q, hq, ty⟩ := getL_ty g h0
    obtain ⟨q', vs, gs, e2, e3, rr, nd, ow, _, mk⟩ := g.mutL h0
    rw [hq] at e2
    cases e2
    have rb := rr.bare no
    have r2 : Reps G.toHc xs.reverse vs.reverse [] := rb.sub no (by rw [List.length_reverse, List.length_reverse, rb.len]) fun j u w a b => by
      have hj : j < xs.length := by simpa using (List.getElem?_eq_some_iff.mp a).1
      rw [List.getElem?_reverse hj] at a
      rw [List.getElem?_reverse (by rw [rb.len]; exact hj), rb.len] at b
      exact ⟨_, a, b⟩
    obtain ⟨G', b1, b2, b3, b4, b5⟩ := mk xs.reverse vs.reverse [] _ h3 r2 List.nodup_nil fun a m => absurd m (by simp)
    refine ⟨_, hq, ty, q, vs, rfl, rfl, e3, ?_⟩
    rw [← b1]
    exact k G' .non [] b2 b3 (b4 G false (Step.refl _) New.nil) (.bare ⟨rfl, rfl⟩) New.nil
theorem gx_ix {i : Nat} {ix : Expr} {d : DE} (ho : PE X o (tVar i)) (h : EX ca X ix ef d) (ha : ∀ v, assign (.Subscript o ix pos) X.env v = (do
      let ov ← holding [v] (eval o X.env)
      let iv ← holding [v, ov] (eval ix X.env)
      standAt pos
      holding [v, ov, iv] (setItem ov iv v)
      release [v, ov, iv] []) := by intro _; rfl) : GX ca X (.Subscript o ix pos) [] (gIx i d) :=
  PG.imp (pg_sub ho h set_list ha) fun v σ H Q w => by
    obtain ⟨G, t, gt, rfl, g, m, S', e1, k⟩ := w
    obtain ⟨x0, h0, e1⟩ := Option.bind_eq_some_iff.mp e1
    obtain ⟨p, h1, e1⟩ := Option.bind_eq_some_iff.mp e1
    obtain ⟨xs, h2, e1⟩ := Option.bind_eq_some_iff.mp e1
    split at e1
    case h_2 => cases e1
    rename_i kk hk
    obtain ⟨j, h3, h4⟩ := Option.bind_eq_some_iff.mp e1
    obtain ⟨q, hq, ty⟩ := getL_ty g h0
    refine ⟨_, hq, G, rfl, g, p.1, p.2, h1, fun G1 u gu a1 a2 a3 a4 a5 => ?_⟩
    have ru := a4.rep
    rw [hk] at ru
    obtain ⟨rfl, _⟩ := ru
    obtain ⟨q', vs, gs, e2, e3, rr, nd, ow, _, mk⟩ := a2.mutL (by rw [a1]; exact h2)
    rw [hq] at e2
    cases e2
    have m1 := m.step a3
    have ap : ∀ a ∈ gt, a ∉ gs := fun a z y => by
      obtain ⟨k2, y⟩ := ow a y
      exact (m1.out a z).1 k2 y
    obtain ⟨g', r', nd', sub⟩ := Reps.set (j := j) rr nd m1.rep m1.nd ap
    obtain ⟨G', b1, b2, b3, b4, b5⟩ := mk (xs.set j t) (vs.set j v) g' _ (by rw [a1]; exact h4) r' nd' fun a z => (sub a z).imp id fun y => m1.out a y
    refine ⟨q, vs, kk, j, rfl, rfl, e3, by rw [rr.len]; exact h3, ?_⟩
    rw [← b1]
    refine k G' σ b2 b3 (fun G0 ef' s n => b4 G0 true (s.trans a3).loud fun a z => ?_) (fun v2 t2 g2 m2 ap2 => b5 v2 t2 g2 (m2.step a3) fun a z y => ?_) fun _ _ => rfl
    · rcases sub a z with y | y
      · obtain ⟨k2, y⟩ := ow a y
        rcases a3.gnew k2 a y with ⟨k3, w⟩ | w
        · exact (s.gnew k3 a w).symm
        · left
          cases q2 : G0.H a with
          | none => rfl
          | some o => exact absurd w (s.dom a (by rw [q2]; simp))
      · exact n a y
    · rcases sub a y with w | w
      · obtain ⟨k2, w⟩ := ow a w
        exact ((m2.step a3).out a z).1 k2 w
      · exact ap2 a z w
end
end TL

set_option Elab.async false
set_option linter.all false
set_option maxRecDepth 100000
/-! TL11: built-in functions, isinstance, == and in. -/
namespace TL
open PySem PySem.Spec L2

/-- the arguments looked at -/
def lookAll (S : SS) : List Arg → Option (List T)
  | [] => some []
  | a :: as => (a.res S).bind fun t => (lookAll S as).bind fun ts => some (t :: ts)
def dB (f : List T → Option T) (a : DA) : DE := fun S => (a S).bind fun p => (lookAll p.2 p.1).bind fun ts => (f ts).bind fun z => some (z, p.2)
/-- values looked at as trees -/
inductive LookAt (c : Hc) : List T → List V → Prop
  | nil : LookAt c [] []
  | cons {t : T} {v : V} {g : List Addr} {ts : List T} {vs : List V} : Rep c t v g → LookAt c ts vs → LookAt c (t :: ts) (v :: vs)
section
variable {X : Cx} {ca : Str → Addr} {ef : Bool} {p pos : Pos}
theorem look_of {K : PySem.W.Frag} {σ : L2.St} {G : Gh} (gd : Good K ca σ G) : ∀ {as : List Arg} {ts : List T} {vs : List V} {g : List Addr}, lookAll G.S as = some ts → ArgsAt G σ as vs g → LookAt G.toHc ts vs
  | [], ts, vs, g, e, ⟨h1, h2⟩ => by cases e; rw [h1]; exact .nil
  | a :: as, ts, vs, g, e, ⟨v, r, ga, gb, e1, e2, h, hr, d⟩ => by
    obtain ⟨t, e3, e⟩ := Option.bind_eq_some_iff.mp (show (a.res G.S).bind (fun t => (lookAll G.S as).bind fun ts => some (t :: ts)) = some ts from e)
    obtain ⟨us, e4, e⟩ := Option.bind_eq_some_iff.mp e
    cases e
    obtain ⟨gt, rt⟩ := h.rep gd e3
    rw [e1]
    exact .cons rt (look_of gd e4 hr)
def OpN (X : Cx) (ca : Str → Addr) (r : List V → Hp → VK → Prop) (f : List T → Option T) : Prop := ∀ (σ : L2.St) (G : Gh) (ts : List T) (z : T) (vs : List V) (Q : VK), Good X.K ca σ G → LookAt G.toHc ts vs → f ts = some z →
  (∀ G' u g, G'.S = G.S → Good X.K ca σ G' → Step false G G' → Tmp G' u z g → New G g → Q u G'.H) → r vs G.H Q
theorem nary_of {r : List V → Hp → VK → Prop} {f : List T → Option T} {da : DA} (o : OpN X ca r f) {σ : L2.St} {H : Hp} {Q : VK} (w : liftE X.K ca ef (dB f da) σ H Q) : liftA X.K ca ef da σ H fun vs H1 => r vs H1 Q := by
  obtain ⟨G, rfl, g, z, S', e1, k⟩ := w
  obtain ⟨q, h1, e1⟩ := Option.bind_eq_some_iff.mp e1
  obtain ⟨ts, h2, e1⟩ := Option.bind_eq_some_iff.mp e1
  obtain ⟨z', h3, e1⟩ := Option.bind_eq_some_iff.mp e1
  cases e1
  refine ⟨G, rfl, g, q.1, q.2, h1, fun G1 vs gv a1 a2 a3 a4 a5 => ?_⟩
  exact o σ G1 ts z vs Q a2 (look_of a2 (by rw [a1]; exact h2) a4) h3 fun G' u gu c1 c2 c3 c4 c5 => k G' u gu (c1.trans a1) c2 ((a3.trans c3).weak fun e => by rw [e]; rfl) c4 (c5.step a3)
theorem ex_callB {id : String} {x : Str} {r : List V → Hp → VK → Prop} {f : List T → Option T} {e : Expr} {es : List Expr} {da : DA} (hc : CallR X (.builtin id) r) (o : OpN X ca r f) (hm : X.mg x = none) (ha : AX ca X (e :: es) ef da) (hg : Gl X x := by rfl) (hv : bootBuiltins x = some (.builtin id) := by decide +kernel)
    (hn : x ≠ "__name__" := by decide) (hdb : (x == ("__debug__" : Str)) = false := by decide)
    (he : starEach (e :: es) X.env = (false, eval e X.env) :: starEach es X.env := by rfl) (hpl : (backTo pos (starEach es X.env)).any (·.1) = false := by rfl) : EX ca X (.Call (.Name x p) (e :: es) [] pos) ef (dB f da) :=
  PE.imp (pe_callB hc hg hm hv ha hn hdb he hpl) fun σ H Q w => nary_of o w
theorem ex_callTy {Ty : String} {x : Str} {r : List V → Hp → VK → Prop} {f : List T → Option T} {e : Expr} {es : List Expr} {da : DA} (hc : CallR X (.type Ty) r) (o : OpN X ca r f) (hm : X.mg x = none) (ha : AX ca X (e :: es) ef da) (hg : Gl X x := by rfl) (hv : bootBuiltins x = some (.type Ty) := by decide +kernel)
    (hn : x ≠ "__name__" := by decide) (hdb : (x == ("__debug__" : Str)) = false := by decide)
    (he : starEach (e :: es) X.env = (false, eval e X.env) :: starEach es X.env := by rfl) (hpl : (backTo pos (starEach es X.env)).any (·.1) = false := by rfl) : EX ca X (.Call (.Name x p) (e :: es) [] pos) ef (dB f da) :=
  PE.imp (pe_callTy hc hg hm hv ha hn hdb he hpl) fun σ H Q w => nary_of o w
theorem CallR.or {f : Value} {r r' : List V → Hp → VK → Prop} (h : CallR X f r) (h' : CallR X f r') : CallR X f fun vs H Q => r vs H Q ∨ r' vs H Q := by
  intro pins s σ H xs us Q I rv w
  rcases w with w | w
  · exact h pins s σ H xs us Q I rv w
  · exact h' pins s σ H xs us Q I rv w
theorem look1 {c : Hc} {t : T} {vs : List V} (l : LookAt c [t] vs) : ∃ v g, vs = [v] ∧ Rep c t v g := by
  cases l with
  | cons r l => cases l; exact ⟨_, _, rfl, r⟩
theorem look2 {c : Hc} {t u : T} {vs : List V} (l : LookAt c [t, u] vs) : ∃ v w g g', vs = [v, w] ∧ Rep c t v g ∧ Rep c u w g' := by
  cases l with
  | cons r l => cases l with
    | cons r' l => cases l; exact ⟨_, _, _, _, rfl, r, r'⟩
/-! lists of ints, of bools, of texts -/
def intsT : List T → Option (List Int)
  | [] => some []
  | .int i :: ts => (intsT ts).bind fun is => some (i :: is)
  | _ :: _ => none
def blsT : List T → Option (List Bool)
  | [] => some []
  | .bl i :: ts => (blsT ts).bind fun is => some (i :: is)
  | _ :: _ => none
def strsT : List T → Option (List Str)
  | [] => some []
  | .str i :: ts => (strsT ts).bind fun is => some (i :: is)
  | _ :: _ => none
theorem ints_vs {c : Hc} : ∀ {ts : List T} {is : List Int} {vs : List V} {g : List Addr}, intsT ts = some is → Reps c ts vs g → vs = is.map V.int
  | [], _, _, _, e, ⟨a, _⟩ => by cases e; exact a
  | t :: ts, is, _, _, e, ⟨v, r, ga, gb, a, _, d, q⟩ => by
    cases t with
    | int i =>
      obtain ⟨js, h, e⟩ := Option.bind_eq_some_iff.mp (show (intsT ts).bind (fun is => some (i :: is)) = some is from e)
      cases e
      rw [a, ints_vs h q, d.1]
      rfl
    | _ => cases e
theorem bls_vs {c : Hc} : ∀ {ts : List T} {is : List Bool} {vs : List V} {g : List Addr}, blsT ts = some is → Reps c ts vs g → vs = is.map V.bl
  | [], _, _, _, e, ⟨a, _⟩ => by cases e; exact a
  | t :: ts, is, _, _, e, ⟨v, r, ga, gb, a, _, d, q⟩ => by
    cases t with
    | bl i =>
      obtain ⟨js, h, e⟩ := Option.bind_eq_some_iff.mp (show (blsT ts).bind (fun is => some (i :: is)) = some is from e)
      cases e
      rw [a, bls_vs h q, d.1]
      rfl
    | _ => cases e
theorem strs_vs {c : Hc} : ∀ {ts : List T} {is : List Str} {vs : List V} {g : List Addr}, strsT ts = some is → Reps c ts vs g → vs = is.map V.str
  | [], _, _, _, e, ⟨a, _⟩ => by cases e; exact a
  | t :: ts, is, _, _, e, ⟨v, r, ga, gb, a, _, d, q⟩ => by
    cases t with
    | str i =>
      obtain ⟨js, h, e⟩ := Option.bind_eq_some_iff.mp (show (strsT ts).bind (fun is => some (i :: is)) = some is from e)
      cases e
      rw [a, strs_vs h q, d.1]
      rfl
    | _ => cases e
/-! len -/
def fLen : List T → Option T
  | [.lst _ xs] => some (.int xs.length)
  | [.tup xs] => some (.int xs.length)
  | [.dic m xs] => (match m with | .sc => none | _ => some (.int xs.length))
  | [.str z] => if z.length ≤ sizeLine then some (.int z.length) else none
  | _ => none
theorem RepK.len {c : Hc} : ∀ {ts : List (Key × T)} {vs : List (Key × V)} {g : List Addr}, RepK c ts vs g → vs.length = ts.length
  | [], _, _, ⟨a, _⟩ => by rw [a]; rfl
  | (k, t) :: ts, _, _, ⟨v, r, ga, gb, a, _, _, q⟩ => by rw [a, List.length_cons, List.length_cons, RepK.len q]
theorem Rep.dicD {c : Hc} {m : Mk} {ts : List (Key × T)} {v : V} {g : List Addr} (fp : Same c.F c.P) (ph : Same c.P c.H) (r : Rep c (.dic m ts) v g) : ∃ p vs gs, v = .ref p ∧ c.H p = some (.dK vs) ∧ RepK c ts vs gs ∧ ∀ a ∈ gs, a ∈ g := by
  cases m with
  | sc => exact (show False from r).elim
  | fz => obtain ⟨p, vs, a, b, d, q⟩ := r; exact ⟨p, vs, [], a, ph _ _ (fp _ _ b), d, fun _ m => absurd m (by simp)⟩
  | br => obtain ⟨p, vs, a, b, d, q⟩ := r; exact ⟨p, vs, [], a, ph _ _ b, d, fun _ m => absurd m (by simp)⟩
  | ow => obtain ⟨p, vs, gs, a, b, d, q⟩ := r; exact ⟨p, vs, gs, a, b, d, fun _ m => by rw [q]; exact List.mem_cons_of_mem _ m⟩
theorem call_lenAny : CallR X (.builtin "len") fun vs H Q => (∃ x n, vs = [x] ∧ LenV X.K x H n ∧ Q (.int n) H) ∨ ∃ d kvs, vs = [.ref d] ∧ H d = some (.dK kvs) ∧ Q (.int kvs.length) H := CallR.or call_len fun pins s σ H vs us Q I r h => by
  obtain ⟨d, kvs, rfl, hd, q⟩ := h
  cases r with
  | cons r rr =>
    cases rr
    cases r
    exact d_len I (.inl hd) fun t s' I' => ⟨.int kvs.length, H, I', ⟨t, rfl⟩, q⟩
theorem on_len : OpN X ca (fun vs H Q => (∃ x n, vs = [x] ∧ LenV X.K x H n ∧ Q (.int n) H) ∨ ∃ d kvs, vs = [.ref d] ∧ H d = some (.dK kvs) ∧ Q (.int kvs.length) H) fLen := by
  intro σ G ts z vs Q g l e k
  have hK : G.K = X.K := g.k
  unfold fLen at e
  split at e
  · cases e
    obtain ⟨v, gg, rfl, r⟩ := look1 l
    obtain ⟨q, ws, gs, rfl, sq, rr, _, _⟩ := Rep.lstL g.fp g.ph r
    refine .inl ⟨_, _, rfl, .inl ⟨ws, hK ▸ sq, rfl⟩, ?_⟩
    rw [rr.len]
    exact fin0 g k ⟨rfl, rfl⟩
  · cases e
    obtain ⟨v, gg, rfl, r⟩ := look1 l
    obtain ⟨q, ws, rfl, sq, rr⟩ := Rep.tupT g.fp g.ph r
    refine .inl ⟨_, _, rfl, .inr ⟨ws, hK ▸ sq, rfl⟩, ?_⟩
    rw [rr.len]
    exact fin0 g k ⟨rfl, rfl⟩
  · split at e
    · cases e
    · cases e
      obtain ⟨v, gg, rfl, r⟩ := look1 l
      obtain ⟨q, ws, gs, rfl, hd, rr, _⟩ := Rep.dicD g.fp g.ph r
      refine .inr ⟨q, ws, rfl, hd, ?_⟩
      rw [rr.len]
      exact fin0 g k ⟨rfl, rfl⟩
  · split at e
    · rename_i hz
      cases e
      obtain ⟨v, gg, rfl, r⟩ := look1 l
      obtain ⟨rfl, _⟩ := r
      exact .inl ⟨_, _, rfl, ⟨hz, rfl⟩, fin0 g k ⟨rfl, rfl⟩⟩
    · cases e
  · cases e
/-! sum, any, all, max, min -/
def fSum : List T → Option T
  | [.lst _ xs] => (intsT xs).bind fun is => some (.int is.sum)
  | _ => none
theorem on_sum : OpN X ca (rSum X.K) fSum := by
  intro σ G ts z vs Q g l e k
  have hK : G.K = X.K := g.k
  unfold fSum at e
  split at e
  · obtain ⟨is, h, e⟩ := Option.bind_eq_some_iff.mp e
    cases e
    obtain ⟨v, gg, rfl, r⟩ := look1 l
    obtain ⟨q, ws, gs, rfl, sq, rr, _, _⟩ := Rep.lstL g.fp g.ph r
    rw [ints_vs h rr, hK] at sq
    exact ⟨q, is, rfl, sq, fin0 g k ⟨rfl, rfl⟩⟩
  · cases e
def fAny : List T → Option T
  | [.lst _ xs] => (blsT xs).bind fun is => some (.bl (is.any id))
  | _ => none
def fAll : List T → Option T
  | [.lst _ xs] => (blsT xs).bind fun is => some (.bl (is.all id))
  | _ => none
theorem on_any : OpN X ca (rAny X.K) fAny := by
  intro σ G ts z vs Q g l e k
  have hK : G.K = X.K := g.k
  unfold fAny at e
  split at e
  · obtain ⟨is, h, e⟩ := Option.bind_eq_some_iff.mp e
    cases e
    obtain ⟨v, gg, rfl, r⟩ := look1 l
    obtain ⟨q, ws, gs, rfl, sq, rr, _, _⟩ := Rep.lstL g.fp g.ph r
    rw [bls_vs h rr, hK] at sq
    exact ⟨q, is, rfl, sq, fin0 g k ⟨rfl, rfl⟩⟩
  · cases e
theorem on_all : OpN X ca (rAll X.K) fAll := by
  intro σ G ts z vs Q g l e k
  have hK : G.K = X.K := g.k
  unfold fAll at e
  split at e
  · obtain ⟨is, h, e⟩ := Option.bind_eq_some_iff.mp e
    cases e
    obtain ⟨v, gg, rfl, r⟩ := look1 l
    obtain ⟨q, ws, gs, rfl, sq, rr, _, _⟩ := Rep.lstL g.fp g.ph r
    rw [bls_vs h rr, hK] at sq
    exact ⟨q, is, rfl, sq, fin0 g k ⟨rfl, rfl⟩⟩
  · cases e
def maxL : List Int → Int
  | [] => 0
  | [i] => i
  | i :: is => max i (maxL is)
def minL : List Int → Int
  | [] => 0
  | [i] => i
  | i :: is => min i (minL is)
theorem maxL_ge : ∀ {is : List Int} {i : Int}, i ∈ is → i ≤ maxL is
  | [j], i, m => by simp at m; rw [m]; exact Int.le_refl _
  | j :: j2 :: is, i, m => by
    show i ≤ max j (maxL (j2 :: is))
    rcases List.mem_cons.mp m with e | m
    · rw [e]; omega
    · have := maxL_ge m; omega
theorem maxL_mem : ∀ {is : List Int}, is ≠ [] → maxL is ∈ is
  | [j], _ => by simp [maxL]
  | j :: j2 :: is, _ => by
    show max j (maxL (j2 :: is)) ∈ _
    have h := maxL_mem (is := j2 :: is) (by simp)
    by_cases q : maxL (j2 :: is) ≤ j
    · rw [Int.max_eq_left q]; simp
    · rw [Int.max_eq_right (by omega)]; exact List.mem_cons_of_mem _ h
theorem minL_le : ∀ {is : List Int} {i : Int}, i ∈ is → minL is ≤ i
  | [j], i, m => by simp at m; rw [m]; exact Int.le_refl _
  | j :: j2 :: is, i, m => by
    show min j (minL (j2 :: is)) ≤ i
    rcases List.mem_cons.mp m with e | m
    · rw [e]; omega
    · have := minL_le m; omega
theorem minL_mem : ∀ {is : List Int}, is ≠ [] → minL is ∈ is
  | [j], _ => by simp [minL]
  | j :: j2 :: is, _ => by
    show min j (minL (j2 :: is)) ∈ _
    have h := minL_mem (is := j2 :: is) (by simp)
    by_cases q : j ≤ minL (j2 :: is)
    · rw [Int.min_eq_left q]; simp
    · rw [Int.min_eq_right (by omega)]; exact List.mem_cons_of_mem _ h
def fMax : List T → Option T
  | [.lst _ xs] => (intsT xs).bind fun is => if is.isEmpty then none else some (.int (maxL is))
  | [.int i, .int j] => some (.int (max i j))
  | _ => none
def fMin : List T → Option T
  | [.lst _ xs] => (intsT xs).bind fun is => if is.isEmpty then none else some (.int (minL is))
  | [.int i, .int j] => some (.int (min i j))
  | _ => none
theorem on_max : OpN X ca (fun vs H Q => rMax X.K vs H Q ∨ ∃ i j, vs = [.int i, .int j] ∧ Q (.int (if j > i then j else i)) H) fMax := by
  intro σ G ts z vs Q g l e k
  have hK : G.K = X.K := g.k
  unfold fMax at e
  split at e
  · obtain ⟨is, h, e⟩ := Option.bind_eq_some_iff.mp e
    split at e
    · cases e
    · rename_i hne
      cases e
      obtain ⟨v, gg, rfl, r⟩ := look1 l
      obtain ⟨q, ws, gs, rfl, sq, rr, _, _⟩ := Rep.lstL g.fp g.ph r
      rw [ints_vs h rr, hK] at sq
      have hn : is ≠ [] := by intro q; rw [q] at hne; exact hne rfl
      refine .inl ⟨q, is, rfl, sq, List.length_pos_iff.mpr hn, fun m hm hy => ?_⟩
      have : m = maxL is := Int.le_antisymm (maxL_ge hm) (hy _ (maxL_mem hn))
      rw [this]
      exact fin0 g k ⟨rfl, rfl⟩
  · rename_i i j
    cases e
    obtain ⟨v, w, gg, g', rfl, r, r'⟩ := look2 l
    obtain ⟨rfl, _⟩ := r
    obtain ⟨rfl, _⟩ := r'
    refine .inr ⟨i, j, rfl, ?_⟩
    have : (if j > i then j else i) = max i j := by split <;> omega
    rw [this]
    exact fin0 g k ⟨rfl, rfl⟩
  · cases e
theorem on_min : OpN X ca (fun vs H Q => rMin X.K vs H Q ∨ ∃ i j, vs = [.int i, .int j] ∧ Q (.int (if j < i then j else i)) H) fMin := by
  intro σ G ts z vs Q g l e k
  have hK : G.K = X.K := g.k
  unfold fMin at e
  split at e
  · obtain ⟨is, h, e⟩ := Option.bind_eq_some_iff.mp e
    split at e
    · cases e
    · rename_i hne
      cases e
      obtain ⟨v, gg, rfl, r⟩ := look1 l
      obtain ⟨q, ws, gs, rfl, sq, rr, _, _⟩ := Rep.lstL g.fp g.ph r
      rw [ints_vs h rr, hK] at sq
      have hn : is ≠ [] := by intro q; rw [q] at hne; exact hne rfl
      refine .inl ⟨q, is, rfl, sq, List.length_pos_iff.mpr hn, fun m hm hy => ?_⟩
      have : m = minL is := Int.le_antisymm (hy _ (minL_mem hn)) (minL_le hm)
      rw [this]
      exact fin0 g k ⟨rfl, rfl⟩
  · rename_i i j
    cases e
    obtain ⟨v, w, gg, g', rfl, r, r'⟩ := look2 l
    obtain ⟨rfl, _⟩ := r
    obtain ⟨rfl, _⟩ := r'
    refine .inr ⟨i, j, rfl, ?_⟩
    have : (if j < i then j else i) = min i j := by split <;> omega
    rw [this]
    exact fin0 g k ⟨rfl, rfl⟩
  · cases e
/-! list, tuple -/
def fList : List T → Option T
  | [.lst _ xs] => if noOws xs then some (.lst .ow xs) else none
  | [.tup xs] => if noOws xs then some (.lst .ow xs) else none
  | _ => none
theorem on_list : OpN X ca (fun xs H Q => ∃ p ys, xs = [.ref p] ∧ (SqL X.K H p ys ∨ SqT X.K H p ys) ∧ ∀ l, H l = none → Q (.ref l) (upd H l (.lst ys))) fList := by
  intro σ G ts z vs Q g l e k
  have hK : G.K = X.K := g.k
  unfold fList at e
  split at e
  · split at e
    · rename_i n
      cases e
      obtain ⟨v, gg, rfl, r⟩ := look1 l
      obtain ⟨q, ws, gs, rfl, sq, rr, _, _⟩ := Rep.lstL g.fp g.ph r
      exact ⟨q, ws, rfl, .inl (hK ▸ sq), finL g k (rr.bare n)⟩
    · cases e
  · split at e
    · rename_i n
      cases e
      obtain ⟨v, gg, rfl, r⟩ := look1 l
      obtain ⟨q, ws, rfl, sq, rr⟩ := Rep.tupT g.fp g.ph r
      exact ⟨q, ws, rfl, .inr (hK ▸ sq), finL g k (rr.bare n)⟩
    · cases e
  · cases e
def fTuple : List T → Option T
  | [.lst _ xs] => if noOws xs then some (.tup xs) else none
  | _ => none
theorem on_tuple : OpN X ca (fun xs H Q => ∃ p ys, xs = [.ref p] ∧ ((SqL X.K H p ys ∧ ∀ l, H l = none → Q (.ref l) (upd H l (.tup ys))) ∨ (SqT X.K H p ys ∧ Q (.ref p) H))) fTuple := by
  intro σ G ts z vs Q g l e k
  have hK : G.K = X.K := g.k
  unfold fTuple at e
  split at e
  · split at e
    · rename_i n
      cases e
      obtain ⟨v, gg, rfl, r⟩ := look1 l
      obtain ⟨q, ws, gs, rfl, sq, rr, _, _⟩ := Rep.lstL g.fp g.ph r
      exact ⟨q, ws, rfl, .inl ⟨hK ▸ sq, finT g k (rr.bare n)⟩⟩
    · cases e
  · cases e
/-! abs, int, str -/
def fAbs : List T → Option T
  | [.int i] => some (.int i.natAbs)
  | _ => none
theorem on_abs : OpN X ca (fun xs H Q => ∃ i, xs = [.int i] ∧ Q (.int (if i < 0 then -i else i)) H) fAbs := by
  intro σ G ts z vs Q g l e k
  unfold fAbs at e
  split at e
  · rename_i i
    cases e
    obtain ⟨v, gg, rfl, r⟩ := look1 l
    obtain ⟨rfl, _⟩ := r
    refine ⟨i, rfl, ?_⟩
    have : (if i < 0 then -i else i) = i.natAbs := by split <;> omega
    rw [this]
    exact fin0 g k ⟨rfl, rfl⟩
  · cases e
def fInt : List T → Option T
  | [.int i] => some (.int i)
  | [.bl b] => some (.int (if b then 1 else 0))
  | [.str a] => if a.length ≤ 640 then (PySem.intText? a).bind fun n => some (.int n) else none
  | _ => none
theorem on_int : OpN X ca (fun xs H Q => ((∃ i, xs = [.int i] ∧ Q (.int i) H) ∨ ∃ k, xs = [.bl k] ∧ Q (.int (if k then 1 else 0)) H) ∨ ∃ a n, xs = [.str a] ∧ PySem.intText? a = some n ∧ a.length ≤ 640 ∧ Q (.int n) H) fInt := by
  intro σ G ts z vs Q g l e k
  unfold fInt at e
  split at e
  · cases e
    obtain ⟨v, gg, rfl, r⟩ := look1 l
    obtain ⟨rfl, _⟩ := r
    exact .inl (.inl ⟨_, rfl, fin0 g k ⟨rfl, rfl⟩⟩)
  · cases e
    obtain ⟨v, gg, rfl, r⟩ := look1 l
    obtain ⟨rfl, _⟩ := r
    exact .inl (.inr ⟨_, rfl, fin0 g k ⟨rfl, rfl⟩⟩)
  · split at e
    · rename_i hl
      obtain ⟨n, hn, e⟩ := Option.bind_eq_some_iff.mp e
      cases e
      obtain ⟨v, gg, rfl, r⟩ := look1 l
      obtain ⟨rfl, _⟩ := r
      exact .inr ⟨_, n, rfl, hn, hl, fin0 g k ⟨rfl, rfl⟩⟩
    · cases e
  · cases e
def fStr : List T → Option T
  | [.int i] => if i.natAbs.log2 < 1920 then some (.str (toString i)) else none
  | _ => none
theorem on_str : OpN X ca (fun xs H Q => ∃ i, xs = [.int i] ∧ i.natAbs.log2 < 1920 ∧ Q (.str (toString i)) H) fStr := by
  intro σ G ts z vs Q g l e k
  unfold fStr at e
  split at e
  · split at e
    · rename_i hl
      cases e
      obtain ⟨v, gg, rfl, r⟩ := look1 l
      obtain ⟨rfl, _⟩ := r
      exact ⟨_, rfl, hl, fin0 g k ⟨rfl, rfl⟩⟩
    · cases e
  · cases e
/-! isinstance -/
def tyName : T → Option String
  | .non => some "NoneType"
  | .bl _ => some "bool"
  | .int _ => some "int"
  | .str _ => some "str"
  | .tup _ => some "tuple"
  | .lst _ _ => some "list"
  | .dic _ _ => some "dict"
  | .hnd _ => none
theorem Rep.ty {c : Hc} {t : T} {v : V} {g : List Addr} {n : String} (fp : Same c.F c.P) (ph : Same c.P c.H) (r : Rep c t v g) (h : tyName t = some n) : TyX c.K c.H v (.type n) := by
  cases t with
  | non => cases h; obtain ⟨rfl, _⟩ := r; exact .base .non
  | bl b => cases h; obtain ⟨rfl, _⟩ := r; exact .base (.bl _)
  | int i => cases h; obtain ⟨rfl, _⟩ := r; exact .base (.int _)
  | str x => cases h; obtain ⟨rfl, _⟩ := r; exact .base (.str _)
  | hnd n => cases h
  | tup xs =>
    cases h
    obtain ⟨p, vs, rfl, sq, _⟩ := Rep.tupT fp ph r
    rcases sq with (sq | ⟨o, sq⟩) | ⟨o, its, k, e, hc, _⟩
    · exact .base (.tup sq)
    · exact .fTuple sq
    · exact .kTuple e hc
  | lst m xs =>
    cases h
    obtain ⟨p, vs, gs, rfl, sq, _⟩ := Rep.lstL fp ph r
    rcases sq with (sq | ⟨o, sq⟩) | ⟨o, its, k, e, hc, _⟩
    · exact .base (.lst sq)
    · exact .base (.frz sq)
    · exact .kList e hc
  | dic m xs =>
    cases h
    obtain ⟨p, vs, gs, rfl, hd, _⟩ := Rep.dicD fp ph r
    exact .base (.dK hd)
def tyIs (n b : String) : Bool := (n == b) || (n == "bool" && b == "int")
def fIsi (b : String) (t : T) : Option T := (tyName t).bind fun n => some (.bl (tyIs n b))
def fIsi2 (b c : String) (t : T) : Option T := (tyName t).bind fun n => some (.bl (tyIs n b || tyIs n c))
def isiOk (b : String) : Bool := (["NoneType", "bool", "int", "str", "tuple", "list", "dict"] : List String).all fun n => kitB n b == some (tyIs n b)
theorem kit_of' {K : PySem.W.Frag} {t : T} {n b : String} (h : tyName t = some n) (ok : isiOk b = true) : PySem.W.kitOne K (.type n) (.type b) = some (tyIs n b) := by
  refine kit_ty ?_
  have m : n ∈ (["NoneType", "bool", "int", "str", "tuple", "list", "dict"] : List String) := by
    cases t <;> cases h <;> simp
  exact eq_of_beq (List.all_eq_true.mp ok n m)
theorem ex_isi {e : Expr} {b : String} {x : Str} {p2 : Pos} {d : DO} (hm : X.mg "isinstance" = none) (hmx : X.mg x = none) (h : OX ca X e ef d) (ok : isiOk b = true := by decide +kernel) (hg : Gl X "isinstance" := by rfl) (hgx : Gl X x := by rfl)
    (hv : bootBuiltins x = some (.type b) := by decide +kernel) (hn : x ≠ "__name__" := by decide) (hd : (x == ("__debug__" : Str)) = false := by decide)
    (hs : starEach [e, .Name x p2] X.env = (false, eval e X.env) :: starEach [.Name x p2] X.env := by rfl) (hs2 : starEach [.Name x p2] X.env = (false, eval (.Name x p2) X.env) :: starEach [] X.env := by rfl) (hpl : (backTo pos (starEach [.Name x p2] X.env)).any (·.1) = false := by rfl) :
    EX ca X (.Call (.Name "isinstance" p) [e, .Name x p2] [] pos) ef (d1 (fIsi b) d) := by
  have hx : PE X (.Name x p2) (tC (.ty b)) := pe_bltn (v := .ty b) (u := .type b) hgx hmx hv rfl hn hd
  refine PE.imp (pe_callB call_isi hg hm (by decide +kernel) (pa_cons h (pa_cons hx pa_nil hs2) hs) (by decide) (by decide) hs hpl) fun σ H Q w => ?_
  refine un_of (r := fun v H Q => rIsi X.K [v, .ty b] H Q) (fun σ G y z v gx Q g ry e k => ?_) w
  obtain ⟨n, h1, e⟩ := Option.bind_eq_some_iff.mp e
  cases e
  have hK : G.K = X.K := g.k
  exact ⟨v, .ty b, .type n, .type b, tyIs n b, rfl, .ty b, hK ▸ ry.ty g.fp g.ph h1, kit_of' h1 ok, fin0 g k ⟨rfl, rfl⟩⟩
theorem ex_isi2 {e : Expr} {b c : String} {x y : Str} {p2 p3 p4 : Pos} {kk : Nat} {d : DO} (hm : X.mg "isinstance" = none) (hmx : X.mg x = none) (hmy : X.mg y = none) (h : OX ca X e ef d) (okb : isiOk b = true := by decide +kernel) (okc : isiOk c = true := by decide +kernel) (hg : Gl X "isinstance" := by rfl) (hgx : Gl X x := by rfl) (hgy : Gl X y := by rfl)
    (hv : bootBuiltins x = some (.type b) := by decide +kernel) (hvy : bootBuiltins y = some (.type c) := by decide +kernel) (hn : x ≠ "__name__" := by decide) (hd : (x == ("__debug__" : Str)) = false := by decide) (hn2 : y ≠ "__name__" := by decide) (hd2 : (y == ("__debug__" : Str)) = false := by decide)
    (hs : starEach [e, .Tuple [.Name x p2, .Name y p3] kk p4] X.env = (false, eval e X.env) :: starEach [.Tuple [.Name x p2, .Name y p3] kk p4] X.env := by rfl) (hs2 : starEach [.Tuple [.Name x p2, .Name y p3] kk p4] X.env = (false, eval (.Tuple [.Name x p2, .Name y p3] kk p4) X.env) :: starEach [] X.env := by rfl)
    (hs3 : starEach [.Name x p2, .Name y p3] X.env = (false, eval (.Name x p2) X.env) :: starEach [.Name y p3] X.env := by rfl) (hs4 : starEach [.Name y p3] X.env = (false, eval (.Name y p3) X.env) :: starEach [] X.env := by rfl) (hpl : (backTo pos (starEach [.Tuple [.Name x p2, .Name y p3] kk p4] X.env)).any (·.1) = false := by rfl) :
    EX ca X (.Call (.Name "isinstance" p) [e, .Tuple [.Name x p2, .Name y p3] kk p4] [] pos) ef (d1 (fIsi2 b c) d) := by
  have hx : PE X (.Name x p2) (tC (.ty b)) := pe_bltn (v := .ty b) (u := .type b) hgx hmx hv rfl hn hd
  have hy : PE X (.Name y p3) (tC (.ty c)) := pe_bltn (v := .ty c) (u := .type c) hgy hmy hvy rfl hn2 hd2
  have ht : PE X (.Tuple [.Name x p2, .Name y p3] kk p4) (tTup (tCons (tC (.ty b)) (tCons (tC (.ty c)) tNil))) := pe_tup (pa_cons hx (pa_cons hy pa_nil hs4) hs3)
  refine PE.imp (pe_callB call_isiT hg hm (by decide +kernel) (pa_cons h (pa_cons ht pa_nil hs2) hs) (by decide) (by decide) hs hpl) fun σ H Q w => ?_
  refine un_of (r := fun v H Q => 2 ≤ sizeLine ∧ ∀ q, H q = none → rIsiT X.K [v, .ref q] (upd H q (.tup [.ty b, .ty c])) Q) (fun σ G y z v gx Q g ry e k => ?_) w
  obtain ⟨n, h1, e⟩ := Option.bind_eq_some_iff.mp e
  cases e
  refine ⟨by decide, fun q hq => ?_⟩
  obtain ⟨g2, s2⟩ := g.newF (o := .tup [.ty b, .ty c]) hq
  have hK : (G.newF q (.tup [.ty b, .ty c])).K = X.K := g2.k
  have ry2 : Rep (G.newF q (.tup [.ty b, .ty c])).toHc y v gx := Rep.ex (c := G.toHc) _ _ _ ⟨s2.k, s2.c, s2.f, s2.p, fun a _ o e => (s2.q rfl).2.2.1 a o e, s2.ad⟩ ry
  have ty := ry2.ty g2.fp g2.ph h1
  rw [hK] at ty
  refine ⟨v, q, [.ty b, .ty c], .type n, [.type b, .type c], tyIs n b || tyIs n c, rfl, upd_same, .cons (.ty b) (.cons (.ty c) .nil), ty, ?_, ?_⟩
  · refine kitAny_cons (kit_of' h1 okb) (fun hb => ?_) fun hb => by rw [hb]; rfl
    rw [hb, Bool.false_or]
    exact kitAny_cons (kit_of' h1 okc) (fun hc => by rw [hc]; exact kitAny_nil) fun hc => hc
  · exact k (G.newF q (.tup [.ty b, .ty c])) (.bl _) [] rfl g2 s2 (.bare ⟨rfl, rfl⟩) New.nil
/-! == of data -/
mutual
def T.toP : T → Option PyData
  | .non => some .none
  | .bl b => some (.bool b)
  | .int i => some (.int i)
  | .str x => some (.str x)
  | .tup xs => (toPs xs).bind fun ds => some (.tuple ds)
  | .lst _ xs => (toPs xs).bind fun ds => some (.list ds)
  | .dic _ _ => none
  | .hnd _ => none
def toPs : List T → Option (List PyData)
  | [] => some []
  | t :: ts => t.toP.bind fun d => (toPs ts).bind fun ds => some (d :: ds)
end
mutual
theorem Rep.dp {c : Hc} (fp : Same c.F c.P) (ph : Same c.P c.H) : ∀ (t : T) (v : V) (g : List Addr) (d : PyData), t.toP = some d → Rep c t v g → Dp c.K c.H v d
  | .non, _, _, _, e, ⟨a, _⟩ => by cases e; rw [a]; exact .non
  | .bl _, _, _, _, e, ⟨a, _⟩ => by cases e; rw [a]; exact .bl _
  | .int _, _, _, _, e, ⟨a, _⟩ => by cases e; rw [a]; exact .int _
  | .str _, _, _, _, e, ⟨a, _⟩ => by cases e; rw [a]; exact .str _
  | .tup xs, v, g, d, e, r => by
    obtain ⟨ds, h, e⟩ := Option.bind_eq_some_iff.mp (show (toPs xs).bind (fun ds => some (.tuple ds)) = some d from e)
    cases e
    obtain ⟨p, vs, rfl, sq, rr⟩ := Rep.tupT fp ph r
    exact .tup sq (Reps.dp fp ph xs vs g ds h rr)
  | .lst m xs, v, g, d, e, r => by
    obtain ⟨ds, h, e⟩ := Option.bind_eq_some_iff.mp (show (toPs xs).bind (fun ds => some (.list ds)) = some d from e)
    cases e
    obtain ⟨p, vs, gs, rfl, sq, rr, _⟩ := Rep.lstL fp ph r
    exact .lst sq (Reps.dp fp ph xs vs gs ds h rr)
  | .dic _ _, _, _, _, e, _ => by cases e
  | .hnd _, _, _, _, e, _ => by cases e
theorem Reps.dp {c : Hc} (fp : Same c.F c.P) (ph : Same c.P c.H) : ∀ (ts : List T) (vs : List V) (g : List Addr) (ds : List PyData), toPs ts = some ds → Reps c ts vs g → DpAll c.K c.H vs ds
  | [], _, _, _, e, ⟨a, _⟩ => by cases e; rw [a]; exact .nil
  | t :: ts, _, _, ds, e, ⟨v, r, ga, gb, a, _, d, q⟩ => by
    obtain ⟨d1, h1, e⟩ := Option.bind_eq_some_iff.mp (show t.toP.bind (fun d => (toPs ts).bind fun ds => some (d :: ds)) = some ds from e)
    obtain ⟨ds1, h2, e⟩ := Option.bind_eq_some_iff.mp e
    cases e
    rw [a]
    exact .cons (Rep.dp fp ph t v ga d1 h1 d) (Reps.dp fp ph ts r gb ds1 h2 q)
end
/-- ==: texts, ints, None at once; else data of any depth -/
def eqT (x y : T) : Option Bool := match x, y with
  | .int i, .int j => some (decide (i = j))
  | .str a, .str b => some (decide (a = b))
  | .bl a, .bl b => some (decide (a = b))
  | x, y => x.toP.bind fun d => y.toP.bind fun e => if SeqAt.shaped d && SeqAt.shaped e then some (PyData.eqv d e) else none
def fEq (x y : T) : Option T := (eqT x y).bind fun b => some (.bl b)
def fNe (x y : T) : Option T := (eqT x y).bind fun b => some (.bl (!b))
def rEqA (K : PySem.W.Frag) : R2 := fun x y H Q => rEq x y H Q ∨ rEqD K x y H Q
def rNeA (K : PySem.W.Frag) : R2 := fun x y H Q => rNe x y H Q ∨ rNeD K x y H Q
theorem op_eqA (hu : X.A.units + 64 < cLine) : OpR X (compareOp .Eq) (rEqA X.K) := by
  intro pins s σ H x y v u Q I rx ry h
  rcases h with h | h
  · exact op_eq pins s σ H x y v u Q I rx ry h
  · exact op_eqD hu pins s σ H x y v u Q I rx ry h
theorem op_neA (hu : X.A.units + 64 < cLine) : OpR X (compareOp .NotEq) (rNeA X.K) := by
  intro pins s σ H x y v u Q I rx ry h
  rcases h with h | h
  · exact op_ne pins s σ H x y v u Q I rx ry h
  · exact op_neD hu pins s σ H x y v u Q I rx ry h
theorem eqT_cases {x y : T} {b : Bool} (e : eqT x y = some b) : (∃ i j, x = .int i ∧ y = .int j ∧ b = decide (i = j)) ∨ (∃ i j, x = .str i ∧ y = .str j ∧ b = decide (i = j)) ∨ (∃ i j, x = .bl i ∧ y = .bl j ∧ b = decide (i = j)) ∨
    ∃ d e', x.toP = some d ∧ y.toP = some e' ∧ SeqAt.shaped d = true ∧ SeqAt.shaped e' = true ∧ b = PyData.eqv d e' := by
  unfold eqT at e
  split at e
  · cases e; exact .inl ⟨_, _, rfl, rfl, rfl⟩
  · cases e; exact .inr (.inl ⟨_, _, rfl, rfl, rfl⟩)
  · cases e; exact .inr (.inr (.inl ⟨_, _, rfl, rfl, rfl⟩))
  · obtain ⟨d, h1, e⟩ := Option.bind_eq_some_iff.mp e
    obtain ⟨e', h2, e⟩ := Option.bind_eq_some_iff.mp e
    split at e
    · rename_i hs
      cases e
      have hs := Bool.and_eq_true_iff.mp hs
      exact .inr (.inr (.inr ⟨d, e', h1, h2, hs.1, hs.2, rfl⟩))
    · cases e
theorem dec_V {α : Type} [DecidableEq α] {f : α → V} (inj : ∀ a b, f a = f b → a = b) (a b : α) : decide (f a = f b) = decide (a = b) := by
  by_cases h : a = b
  · rw [h]; simp
  · rw [decide_eq_false h, decide_eq_false fun q => h (inj _ _ q)]
theorem o2_eq : Op2 X ca (rEqA X.K) fEq := by
  intro σ G x y z v w gx gy Q g rx ry e k
  have hK : G.K = X.K := g.k
  obtain ⟨b, h, e⟩ := Option.bind_eq_some_iff.mp e
  cases e
  rcases eqT_cases h with ⟨i, j, rfl, rfl, rfl⟩ | ⟨i, j, rfl, rfl, rfl⟩ | ⟨i, j, rfl, rfl, rfl⟩ | ⟨d, e', h1, h2, h3, h4, rfl⟩
  · obtain ⟨rfl, _⟩ := rx
    obtain ⟨rfl, _⟩ := ry
    refine .inl ⟨rfl, ?_⟩
    rw [dec_V fun a b e => by cases e; rfl]
    exact fin0 g k ⟨rfl, rfl⟩
  · obtain ⟨rfl, _⟩ := rx
    obtain ⟨rfl, _⟩ := ry
    refine .inl ⟨rfl, ?_⟩
    rw [dec_V fun a b e => by cases e; rfl]
    exact fin0 g k ⟨rfl, rfl⟩
  · obtain ⟨rfl, _⟩ := rx
    obtain ⟨rfl, _⟩ := ry
    refine .inl ⟨rfl, ?_⟩
    rw [dec_V fun a b e => by cases e; rfl]
    exact fin0 g k ⟨rfl, rfl⟩
  · exact .inr ⟨d, e', hK ▸ Rep.dp g.fp g.ph _ _ _ _ h1 rx, hK ▸ Rep.dp g.fp g.ph _ _ _ _ h2 ry, h3, h4, fin0 g k ⟨rfl, rfl⟩⟩
theorem o2_ne : Op2 X ca (rNeA X.K) fNe := by
  intro σ G x y z v w gx gy Q g rx ry e k
  have hK : G.K = X.K := g.k
  obtain ⟨b, h, e⟩ := Option.bind_eq_some_iff.mp e
  cases e
  rcases eqT_cases h with ⟨i, j, rfl, rfl, rfl⟩ | ⟨i, j, rfl, rfl, rfl⟩ | ⟨i, j, rfl, rfl, rfl⟩ | ⟨d, e', h1, h2, h3, h4, rfl⟩
  · obtain ⟨rfl, _⟩ := rx
    obtain ⟨rfl, _⟩ := ry
    refine .inl ⟨rfl, ?_⟩
    rw [dec_V fun a b e => by cases e; rfl]
    exact fin0 g k ⟨rfl, rfl⟩
  · obtain ⟨rfl, _⟩ := rx
    obtain ⟨rfl, _⟩ := ry
    refine .inl ⟨rfl, ?_⟩
    rw [dec_V fun a b e => by cases e; rfl]
    exact fin0 g k ⟨rfl, rfl⟩
  · obtain ⟨rfl, _⟩ := rx
    obtain ⟨rfl, _⟩ := ry
    refine .inl ⟨rfl, ?_⟩
    rw [dec_V fun a b e => by cases e; rfl]
    exact fin0 g k ⟨rfl, rfl⟩
  · exact .inr ⟨d, e', hK ▸ Rep.dp g.fp g.ph _ _ _ _ h1 rx, hK ▸ Rep.dp g.fp g.ph _ _ _ _ h2 ry, h3, h4, fin0 g k ⟨rfl, rfl⟩⟩
/-! x in a list, a tuple of flat things; a sign in a text -/
def flatT : T → Bool
  | .non => true
  | .bl _ => true
  | .int _ => true
  | .str _ => true
  | _ => false
def eqF : T → T → Bool
  | .non, .non => true
  | .bl a, .bl b => a == b
  | .bl a, .int b => (if a then 1 else 0) == b
  | .int a, .bl b => a == (if b then 1 else 0)
  | .int a, .int b => a == b
  | .str a, .str b => a == b
  | _, _ => false
def inF (x : T) (xs : List T) : Bool := xs.any fun y => eqF y x
def fIn (neg : Bool) (x y : T) : Option T := match y with
  | .lst _ xs => if flatT x && xs.all flatT then some (.bl (if neg then !inF x xs else inF x xs)) else none
  | .tup xs => if flatT x && xs.all flatT then some (.bl (if neg then !inF x xs else inF x xs)) else none
  | .str z => (match x with
    | .str ⟨⟨[c]⟩⟩ => some (.bl (if neg then !decide (c ∈ z.cps.toList) else decide (c ∈ z.cps.toList)))
    | _ => none)
  | _ => none
theorem flat_V {c : Hc} {t : T} {v : V} {g : List Addr} (r : Rep c t v g) (h : flatT t = true) : flatV v = true := by
  cases t with
  | non => obtain ⟨rfl, _⟩ := r; rfl
  | bl b => obtain ⟨rfl, _⟩ := r; rfl
  | int i => obtain ⟨rfl, _⟩ := r; rfl
  | str x => obtain ⟨rfl, _⟩ := r; rfl
  | _ => cases h
theorem eqF_V {c : Hc} {t u : T} {v w : V} {g g' : List Addr} (r : Rep c t v g) (r' : Rep c u w g') (h : flatT t = true) (h' : flatT u = true) : eqV v w = eqF t u := by
  cases t with
  | non => obtain ⟨rfl, _⟩ := r; cases u with
    | non => obtain ⟨rfl, _⟩ := r'; rfl
    | bl b => obtain ⟨rfl, _⟩ := r'; rfl
    | int i => obtain ⟨rfl, _⟩ := r'; rfl
    | str x => obtain ⟨rfl, _⟩ := r'; rfl
    | _ => cases h'
  | bl b => obtain ⟨rfl, _⟩ := r; cases u with
    | non => obtain ⟨rfl, _⟩ := r'; rfl
    | bl b => obtain ⟨rfl, _⟩ := r'; rfl
    | int i => obtain ⟨rfl, _⟩ := r'; rfl
    | str x => obtain ⟨rfl, _⟩ := r'; rfl
    | _ => cases h'
  | int i => obtain ⟨rfl, _⟩ := r; cases u with
    | non => obtain ⟨rfl, _⟩ := r'; rfl
    | bl b => obtain ⟨rfl, _⟩ := r'; rfl
    | int i => obtain ⟨rfl, _⟩ := r'; rfl
    | str x => obtain ⟨rfl, _⟩ := r'; rfl
    | _ => cases h'
  | str x => obtain ⟨rfl, _⟩ := r; cases u with
    | non => obtain ⟨rfl, _⟩ := r'; rfl
    | bl b => obtain ⟨rfl, _⟩ := r'; rfl
    | int i => obtain ⟨rfl, _⟩ := r'; rfl
    | str x => obtain ⟨rfl, _⟩ := r'; rfl
    | _ => cases h'
  | _ => cases h
theorem in_V {c : Hc} {x : T} {v : V} {gx : List Addr} (r : Rep c x v gx) (h : flatT x = true) : ∀ {ts : List T} {vs : List V} {g : List Addr}, Reps c ts vs g → ts.all flatT = true → vs.all flatV = true ∧ inV v vs = inF x ts
  | [], _, _, ⟨a, _⟩, _ => by rw [a]; exact ⟨rfl, rfl⟩
  | t :: ts, _, _, ⟨w, rr, ga, gb, a, _, d, q⟩, hf => by
    have hf := Bool.and_eq_true_iff.mp (show (flatT t && ts.all flatT) = true by simpa using hf)
    obtain ⟨h1, h2⟩ := in_V r h q hf.2
    rw [a]
    refine ⟨by simp only [List.all_cons, flat_V d hf.1, h1, Bool.and_self], ?_⟩
    unfold inV inF at h2 ⊢
    rw [List.any_cons, List.any_cons, eqF_V d r hf.1 h, h2]
def rInA (K : PySem.W.Frag) (neg : Bool) : R2 := fun x y H Q => rIn K neg x y H Q ∨ ∃ (c : Nat) (z : Str), x = .str ⟨#[c]⟩ ∧ y = .str z ∧ Q (.bl (if neg then !decide (c ∈ z.cps.toList) else decide (c ∈ z.cps.toList))) H
theorem op_inA : OpR X (compareOp .In) (rInA X.K false) := by
  intro pins s σ H x y v u Q I rx ry h
  rcases h with h | h
  · exact op_in_seq pins s σ H x y v u Q I rx ry h
  · exact op_in_sign pins s σ H x y v u Q I rx ry h
theorem op_notInA : OpR X (compareOp .NotIn) (rInA X.K true) := by
  intro pins s σ H x y v u Q I rx ry h
  rcases h with h | h
  · exact op_notIn_seq pins s σ H x y v u Q I rx ry h
  · exact op_notIn_sign pins s σ H x y v u Q I rx ry h
theorem o2_in {neg : Bool} : Op2 X ca (rInA X.K neg) (fIn neg) := by
  intro σ G x y z v w gx gy Q g rx ry e k
  have hK : G.K = X.K := g.k
  unfold fIn at e
  split at e
  · split at e
    · rename_i hf
      have hf := Bool.and_eq_true_iff.mp hf
      cases e
      obtain ⟨q, ws, gs, rfl, sq, rr, _, _⟩ := Rep.lstL g.fp g.ph ry
      obtain ⟨h1, h2⟩ := in_V rx hf.1 rr hf.2
      refine .inl ⟨q, ws, rfl, .inl (hK ▸ sq), flat_V rx hf.1, h1, ?_⟩
      rw [h2]
      exact fin0 g k ⟨rfl, rfl⟩
    · cases e
  · split at e
    · rename_i hf
      have hf := Bool.and_eq_true_iff.mp hf
      cases e
      obtain ⟨q, ws, rfl, sq, rr⟩ := Rep.tupT g.fp g.ph ry
      obtain ⟨h1, h2⟩ := in_V rx hf.1 rr hf.2
      refine .inl ⟨q, ws, rfl, .inr (hK ▸ sq), flat_V rx hf.1, h1, ?_⟩
      rw [h2]
      exact fin0 g k ⟨rfl, rfl⟩
    · cases e
  · split at e
    · cases e
      obtain ⟨rfl, _⟩ := rx
      obtain ⟨rfl, _⟩ := ry
      exact .inr ⟨_, _, rfl, rfl, fin0 g k ⟨rfl, rfl⟩⟩
    · cases e
  · cases e
end
end TL

set_option Elab.async false
set_option linter.all false
set_option maxRecDepth 100000
/-! TL12: constants of the module; methods of texts; x += e. -/
namespace TL
open PySem PySem.Spec L2

/-! ### constants -/
/-- the module's name x stands for the tree t -/
def GC (K : PySem.W.Frag) (mg : Str → Option Value) (x : Str) (t : T) : Prop := ∃ u v, mg x = some u ∧ RelV v u ∧ ∀ c : Hc, c.K = K → Rep c t v []
/-- in the written part the value u is the tree t -/
def repK (K : PySem.W.Frag) : Nat → T → Value → Bool
  | _, .non, .none => true
  | _, .bl b, .bool c => b == c
  | _, .int i, .int j _ => decide (i = j)
  | _, .str x, .str y _ => decide (x = y)
  | n + 1, .tup xs, .ref a => (match K.lookup a with
    | some ⟨.type c, _, .seq its _, _⟩ => decide (c = "tuple") && (decide (its.size ≤ sizeLine) && go n xs its.toList)
    | _ => false)
  | _, _, _ => false
where go (n : Nat) : List T → List Value → Bool
  | [], [] => true
  | t :: ts, u :: us => repK K n t u && go n ts us
  | _, _ => false
theorem repK_ok {K : PySem.W.Frag} : ∀ (n : Nat) (t : T) (u : Value), repK K n t u = true → ∃ v, RelV v u ∧ ∀ c : Hc, c.K = K → Rep c t v [] := by
  intro n
  induction n with
  | zero =>
    intro t u h
    cases t with
    | non => cases u with
      | none => exact ⟨.non, rfl, fun _ _ => ⟨rfl, rfl⟩⟩
      | _ => cases h
    | bl b => cases u with
      | bool c => exact ⟨.bl b, by rw [show b = c from eq_of_beq h]; rfl, fun _ _ => ⟨rfl, rfl⟩⟩
      | _ => cases h
    | int i => cases u with
      | int j t => exact ⟨.int i, ⟨t, by rw [show i = j from of_decide_eq_true h]⟩, fun _ _ => ⟨rfl, rfl⟩⟩
      | _ => cases h
    | str i => cases u with
      | str j t => exact ⟨.str i, ⟨t, by rw [show i = j from of_decide_eq_true h]⟩, fun _ _ => ⟨rfl, rfl⟩⟩
      | _ => cases h
    | tup xs => cases u <;> cases h
    | lst m xs => cases u <;> cases h
    | dic m xs => cases u <;> cases h
    | hnd m => cases u <;> cases h
  | succ n ih =>
    intro t u h
    cases t with
    | non => cases u with
      | none => exact ⟨.non, rfl, fun _ _ => ⟨rfl, rfl⟩⟩
      | _ => cases h
    | bl b => cases u with
      | bool c => exact ⟨.bl b, by rw [show b = c from eq_of_beq h]; rfl, fun _ _ => ⟨rfl, rfl⟩⟩
      | _ => cases h
    | int i => cases u with
      | int j t => exact ⟨.int i, ⟨t, by rw [show i = j from of_decide_eq_true h]⟩, fun _ _ => ⟨rfl, rfl⟩⟩
      | _ => cases h
    | str i => cases u with
      | str j t => exact ⟨.str i, ⟨t, by rw [show i = j from of_decide_eq_true h]⟩, fun _ _ => ⟨rfl, rfl⟩⟩
      | _ => cases h
    | lst m xs => cases u <;> cases h
    | dic m xs => cases u <;> cases h
    | hnd m => cases u <;> cases h
    | tup xs => cases u with
      | ref a =>
        have h : (match K.lookup a with
          | some ⟨.type c, _, .seq its _, _⟩ => decide (c = "tuple") && (decide (its.size ≤ sizeLine) && repK.go K n xs its.toList)
          | _ => false) = true := h
        split at h
        · rename_i c od its k sl hl
          obtain ⟨h1, h2⟩ := Bool.and_eq_true_iff.mp h
          obtain ⟨h3, h4⟩ := Bool.and_eq_true_iff.mp h2
          have all : ∀ (ts : List T) (us : List Value), repK.go K n ts us = true → ∃ vs, Vals vs us ∧ ∀ c : Hc, c.K = K → Reps c ts vs [] := by
            intro ts
            induction ts with
            | nil => intro us h; cases us with
              | nil => exact ⟨[], .nil, fun _ _ => ⟨rfl, rfl⟩⟩
              | cons _ _ => cases h
            | cons t ts ih2 => intro us h; cases us with
              | nil => cases h
              | cons u us =>
                obtain ⟨q1, q2⟩ := Bool.and_eq_true_iff.mp (show (repK K n t u && repK.go K n ts us) = true from h)
                obtain ⟨v, r1, r2⟩ := ih t u q1
                obtain ⟨vs, r3, r4⟩ := ih2 us q2
                exact ⟨v :: vs, .cons r1 r3, fun c hc => ⟨v, vs, [], [], rfl, rfl, r2 c hc, r4 c hc⟩⟩
          obtain ⟨vs, r1, r2⟩ := all xs its.toList h4
          refine ⟨.ref a, rfl, fun cc hc => ⟨a, vs, rfl, .inr ⟨_, its, k, by rw [hc]; exact hl, congrArg Value.type (of_decide_eq_true h1), rfl, of_decide_eq_true h3, r1⟩, r2 cc hc⟩⟩
        · cases h
      | _ => cases h
def gcB (K : PySem.W.Frag) (x : Str) (t : T) : Bool := match PySem.W.nsIn K mainGlobals x with
  | some (some u) => repK K 4 t u
  | _ => false
theorem gcB_ok {K : PySem.W.Frag} {h : Heap} {mg : Str → Option Value} {x : Str} {t : T} (X : K.In h) (G : h.Ns mainGlobals mg) (c : gcB K x t = true) : GC K mg x t := by
  unfold gcB at c
  split at c
  · rename_i u hu
    obtain ⟨v, r1, r2⟩ := repK_ok 4 t u c
    exact ⟨u, v, PySem.W.mg_of X G hu, r1, r2⟩
  · cases c
section
variable {X : Cx} {ca : Str → Addr} {e o : Expr} {ef eo : Bool} {pos apos : Pos}
theorem ex_gc {x : Str} {t : T} (h : GC X.K X.mg x t) (hg : Gl X x := by rfl) (hd : (x == ("__debug__" : Str)) = false := by decide) : EX ca X (.Name x pos) false (dC t) := by
  obtain ⟨u, v, hm, r, rp⟩ := h
  refine PE.imp (pe_glob hg hm r hd) fun σ H Q w => ?_
  obtain ⟨G, rfl, g, r', S', e1, k⟩ := w
  cases e1
  exact k G v [] rfl g (Step.refl _) (.bare (rp _ g.k)) New.nil
/-! ### methods of texts -/
def isS : T → Bool
  | .str _ => true
  | _ => false
def dM1 (f : T → T → Option T) (a b : DE) : DE := fun S => (a S).bind fun p => if isS p.1 then (b p.2).bind fun q => (f p.1 q.1).bind fun z => some (z, q.2) else none
def fPart : T → T → Option T
  | .str a, .str b => if (b.length == 0) = false ∧ a.length ≤ sizeLine then some (.tup [.str (Txt.partition a b).1, .str (Txt.partition a b).2.1, .str (Txt.partition a b).2.2]) else none
  | _, _ => none
def fJoin : T → T → Option T
  | .str a, .lst _ xs => (strsT xs).bind fun ys => if (ys.map (·.length)).sum + ys.length * a.length ≤ 16777216 then some (.str (Txt.join a ys)) else none
  | _, _ => none
def fSplit : T → T → Option T
  | .str a, .str b => if (b.length == 0) = false ∧ a.length + 2 ≤ sizeLine then some (.lst .ow ((Txt.split a b).map T.str)) else none
  | _, _ => none
theorem m1_of {r : V → List V → Hp → VK → Prop} {f : T → T → Option T} {da db : DE} (op : Op2 X ca (fun x y H Q => r x [y] H Q) f) {σ : L2.St} {H : Hp} {Q : VK} (w : liftE X.K ca (eo || ef) (dM1 f da db) σ H Q) : tM1 r (liftE X.K ca eo da) (liftE X.K ca ef db) σ H Q := by
  obtain ⟨G, rfl, g, z, S', e1, k⟩ := w
  obtain ⟨p, h1, e1⟩ := Option.bind_eq_some_iff.mp e1
  split at e1
  case isFalse => cases e1
  rename_i hs
  obtain ⟨q, h2, e1⟩ := Option.bind_eq_some_iff.mp e1
  obtain ⟨z', h3, e1⟩ := Option.bind_eq_some_iff.mp e1
  cases e1
  refine ⟨G, rfl, g, p.1, p.2, h1, fun G1 v gv a1 a2 a3 a4 a5 => ⟨?_, G1, rfl, a2, q.1, q.2, by rw [a1]; exact h2, fun G2 w gw b1 b2 b3 b4 b5 => ?_⟩⟩
  · cases hp : p.1 with
    | str x => rw [hp] at a4; exact ⟨x, a4.rep.1⟩
    | _ => rw [hp] at hs; cases hs
  · exact op σ G2 p.1 q.1 z v w gv gw Q b2 (a4.step b3).rep b4.rep h3 fun G' u gu c1 c2 c3 c4 c5 => k G' u gu (c1.trans b1) c2 (((a3.trans b3).trans c3).weak fun e => by rw [e]; rfl) c4 (c5.step (a3.trans b3))
theorem reps_strs {c : Hc} : ∀ ys : List Str, Reps c (ys.map T.str) (ys.map V.str) []
  | [] => ⟨rfl, rfl⟩
  | y :: ys => ⟨.str y, ys.map V.str, [], [], rfl, rfl, ⟨rfl, rfl⟩, reps_strs ys⟩
theorem ex_part {d1 d2 : DE} (ho : EX ca X o eo d1) (he : EX ca X e ef d2) (hs : starEach [e] X.env = [(false, eval e X.env)] := by rfl) (hbase : attributeBase o "partition" X.env (eval o X.env) = eval o X.env := by rfl) (hline : (apos.endLine == pos.line) = true := by rfl) : EX ca X (.Call (.Attribute o "partition" apos) [e] [] pos) (eo || ef) (dM1 fPart d1 d2) :=
  PE.imp (pe_partition ho he hs hbase hline) fun σ H Q w => m1_of (fun σ G x y z v w gx gy Q g rx ry e k => by
    unfold fPart at e
    split at e
    · split at e
      · rename_i a b hl
        cases e
        obtain ⟨rfl, _⟩ := rx
        obtain ⟨rfl, _⟩ := ry
        refine ⟨a, b, rfl, rfl, hl.1, hl.2, finT g k (reps_strs [_, _, _])⟩
      · cases e
    · cases e) w
theorem ex_join {d1 d2 : DE} (ho : EX ca X o eo d1) (he : EX ca X e ef d2) (hs : starEach [e] X.env = [(false, eval e X.env)] := by rfl) (hbase : attributeBase o "join" X.env (eval o X.env) = eval o X.env := by rfl) (hline : (apos.endLine == pos.line) = true := by rfl) : EX ca X (.Call (.Attribute o "join" apos) [e] [] pos) (eo || ef) (dM1 fJoin d1 d2) :=
  PE.imp (pe_join ho he hs hbase hline) fun σ H Q w => m1_of (fun σ G x y z v w gx gy Q g rx ry e k => by
    have hK : G.K = X.K := g.k
    unfold fJoin at e
    split at e
    · obtain ⟨ys, h, e⟩ := Option.bind_eq_some_iff.mp e
      split at e
      · rename_i hl
        cases e
        obtain ⟨rfl, _⟩ := rx
        obtain ⟨q, ws, gs, rfl, sq, rr, _, _⟩ := Rep.lstL g.fp g.ph ry
        rw [strs_vs h rr, hK] at sq
        exact ⟨_, q, ys, rfl, rfl, .inl sq, hl, fin0 g k ⟨rfl, rfl⟩⟩
      · cases e
    · cases e) w
theorem ex_split {d1 d2 : DE} (ho : EX ca X o eo d1) (he : EX ca X e ef d2) (hs : starEach [e] X.env = [(false, eval e X.env)] := by rfl) (hbase : attributeBase o "split" X.env (eval o X.env) = eval o X.env := by rfl) (hline : (apos.endLine == pos.line) = true := by rfl) : EX ca X (.Call (.Attribute o "split" apos) [e] [] pos) (eo || ef) (dM1 fSplit d1 d2) :=
  PE.imp (pe_split ho he hs hbase hline) fun σ H Q w => m1_of (fun σ G x y z v w gx gy Q g rx ry e k => by
    unfold fSplit at e
    split at e
    · split at e
      · rename_i a b hl
        cases e
        obtain ⟨rfl, _⟩ := rx
        obtain ⟨rfl, _⟩ := ry
        exact ⟨a, b, rfl, rfl, hl.1, hl.2, finL g k (reps_strs _)⟩
      · cases e
    · cases e) w
/-! ### x += e, a name's -/
def sAug (f : T → T → Option T) (i : Nat) (d : DE) : DS := fun S => (slot S i).bind fun t => (d S).bind fun p => if t.noOw then (f t p.1).bind fun z => some (.nx, setS p.2 i (some z)) else none
def rAugAdd : R2 := fun x y H Q => (∃ i j, x = .int i ∧ y = .int j ∧ Q (.int (i + j)) H) ∨ ∃ i j, x = .str i ∧ y = .str j ∧ i.length + j.length ≤ sizeLine ∧ Q (.str (i ++ j)) H
theorem ip_addA : PIp X .Add rAugAdd := by
  intro pins s σ H x y v u Q I rx ry h
  rcases h with h | h
  · exact ip_add pins s σ H x y v u Q I rx ry h
  · exact iop_add_str pins s σ H x y v u Q I rx ry h
def fAugAdd : T → T → Option T
  | .int i, .int j => some (.int (i + j))
  | .str x, .str y => if x.length + y.length ≤ sizeLine then some (.str (x ++ y)) else none
  | _, _ => none
theorem o2_augAdd : Op2 X ca rAugAdd fAugAdd := by
  intro σ G x y z v w gx gy Q g rx ry e k
  unfold fAugAdd at e
  split at e
  · cases e
    obtain ⟨rfl, _⟩ := rx
    obtain ⟨rfl, _⟩ := ry
    exact .inl ⟨_, _, rfl, rfl, fin0 g k ⟨rfl, rfl⟩⟩
  · split at e
    · rename_i hl
      cases e
      obtain ⟨rfl, _⟩ := rx
      obtain ⟨rfl, _⟩ := ry
      exact .inr ⟨_, _, rfl, rfl, hl, fin0 g k ⟨rfl, rfl⟩⟩
    · cases e
  · cases e
theorem o2_augSub : Op2 X ca (ipI fun i j => i - j) fSub := fun σ G x y z v w gx gy Q g rx ry e k => o2_sub σ G x y z v w gx gy Q g rx ry e k
theorem sx_aug {i : Nat} {x : Str} {op : Operator} {ti : TIp} {f : T → T → Option T} {d : DE} {pos' : Pos} (hN : X.N.Nodup) (hi : X.N[i]? = some x) (hx : Loc X.env.scope x) (h : EX ca X e ef d) (ho : PIp X op ti) (o2 : Op2 X ca ti f)
    (hf : X.fn x = true ∨ X.env.scope.names.lookup x = some .local := by first | exact .inl rfl | exact .inr rfl | assumption) : SX ca X (.AugAssign (.Name x pos') op e pos) (sAug f i d) := PS.imp (ps_aug hN hi hx h ho hf) fun D σ H w => by
  obtain ⟨G, rfl, g, fl, S', e1, k⟩ := w
  obtain ⟨t, h0, e1⟩ := Option.bind_eq_some_iff.mp e1
  obtain ⟨p, h1, e1⟩ := Option.bind_eq_some_iff.mp e1
  split at e1
  case isFalse => cases e1
  rename_i no
  obtain ⟨z, h2, e1⟩ := Option.bind_eq_some_iff.mp e1
  cases e1
  obtain ⟨v, hv, tm⟩ := g.copy (slot_some h0) no
  refine ⟨v, hv, G, rfl, g, p.1, p.2, h1, fun G1 w gw a1 a2 a3 a4 a5 => ?_⟩
  refine o2 σ G1 t p.1 z v w [] gw _ a2 (tm.step a3).rep a4.rep h2 fun G2 u gu b1 b2 b3 b4 b5 => ?_
  have hl : i < σ.length := (List.getElem?_eq_some_iff.mp hv).1
  obtain ⟨g3, s3⟩ := b2.store hl b4
  refine k (G2.put i (some z) gu) _ ?_ g3 (s3 G _ (a3.trans b3) (b5.step a3))
  show (G2.τ.set i (some z), G2.O) = setS p.2 i (some z)
  rw [← a1, ← b1] <;> rfl
end
end TL

set_option Elab.async false
set_option linter.all false
set_option maxRecDepth 100000
/-! TL13: values held for good on the way; new handles; defs by their data; defs that call themselves. -/
namespace TL
open PySem PySem.Spec L2

section
variable {K : PySem.W.Frag} {ca : Str → Addr} {σ : L2.St} {G : Gh}
def Gh.iceT (G : Gh) (gt : List Addr) : Gh := { G with F := plus G.F G.H gt, P := plus G.P G.H gt }
/-- a temporary held for good from now on -/
theorem Good.iceT (g : Good K ca σ G) {v : V} {t : T} {gt : List Addr} (m : Tmp G v t gt) :
    Good K ca σ (G.iceT gt) ∧ (∀ G0 ef, Step ef G0 G → New G0 gt → Step true G0 (G.iceT gt)) ∧ Tmp (G.iceT gt) v t.frz [] := by
  have FH : Same G.F G.H := g.fp.trans g.ph
  have ex : ∀ gg : List Addr, Ex G.toHc (G.iceT gt).toHc gg := fun gg => ⟨rfl, rfl, plus_same FH, plus_same g.ph, fun _ _ _ e => e, ⟨[], by show G.ad = _; simp⟩⟩
  have rf : Rep (G.iceT gt).toHc t.frz v [] := Rep.frz (c := G.toHc) (c' := (G.iceT gt).toHc) t v gt ⟨rfl, plus_same FH, plus_same g.ph, fun x mm o e => by show plus G.F G.H _ x = _; rw [plus_in mm]; exact e, fun _ _ e => e⟩ m.rep
  refine ⟨{ k := g.k, c := g.c, len := g.len, fp := fun x o e => ?_, ph := plus_le g.ph, nd := g.nd, dj := g.dj, pn := fun k x mm => ?_, adn := g.adn, adp := fun x mm => ?_, ado := g.ado, sl := fun j u e => ?_, sn := g.sn, ob := fun n b e => ?_, on := g.on, ln := g.ln },
    fun G0 ef s n => { k := s.k, c := s.c, f := s.f.trans (plus_same FH), p := s.p.trans (plus_same g.ph), fnew := fun x o e => ?_, pnew := fun x o e => ?_, fr := s.fr, dom := s.dom, ad := s.ad, anew := s.anew, gnew := s.gnew, q := fun e => by cases e }, .bare rf⟩
  · show plus G.P G.H _ x = _
    by_cases mm : x ∈ gt
    · rw [plus_in mm]
      have e2 : plus G.F G.H gt x = some o := e
      rw [plus_in mm] at e2; exact e2
    · rw [plus_out mm]
      have e2 : plus G.F G.H gt x = some o := e
      rw [plus_out mm] at e2; exact g.fp x o e2
  · show plus G.P G.H _ x = none
    rw [plus_out fun z => (m.out x z).1 k mm]
    exact g.pn k x mm
  · show plus G.P G.H _ x = none
    rw [plus_out fun z => (m.out x z).2.1 mm]
    exact g.adp x mm
  · obtain ⟨v', a', r'⟩ := g.sl j u e
    exact ⟨v', a', Rep.ex _ _ _ (ex _) r'⟩
  · obtain ⟨p, a', r'⟩ := g.ob n b e
    exact ⟨p, a', r'.ex (ex _)⟩
  · have e2 : plus G.F G.H gt x = some o := e
    by_cases mm : x ∈ gt
    · exact .inr (n x mm)
    · rw [plus_out mm] at e2; exact s.fnew x o e2
  · have e2 : plus G.P G.H gt x = some o := e
    by_cases mm : x ∈ gt
    · exact .inr (n x mm)
    · rw [plus_out mm] at e2; exact s.pnew x o e2
/-- a new list gets a handle -/
theorem Good.hndT (g : Good K ca σ G) {v : V} {xs : List T} {gt : List Addr} (m : Tmp G v (.lst .ow xs) gt) (hb : noBrs xs = true) :
    ∃ G', G'.H = G.H ∧ G'.S = (G.τ, G.O ++ [.lst xs]) ∧ Good K ca σ G' ∧ (∀ G0 ef, Step ef G0 G → New G0 gt → Step true G0 G') ∧ Tmp G' v (.hnd G.O.length) [] := by
  obtain ⟨p, vs, gs, rfl, e1, r, rfl⟩ := m.rep
  have nd := List.nodup_cons.mp m.nd
  have gn : G.fp (.o G.O.length) = [] := g.on _ (by simp)
  let n := G.O.length
  let G' : Gh := { G with ad := G.ad ++ [p], O := G.O ++ [.lst xs], fp := fun k => if k = .o n then gs else G.fp k }
  have fo : G'.fp (.o n) = gs := if_pos rfl
  have fn : ∀ {k}, k ≠ .o n → G'.fp k = G.fp k := fun e => if_neg e
  have sub : ∀ k a, a ∈ G'.fp k → (k = .o n ∧ a ∈ gs) ∨ (k ≠ .o n ∧ a ∈ G.fp k) := fun k a q => by
    by_cases e : k = .o n
    · subst e; rw [fo] at q; exact .inl ⟨rfl, q⟩
    · rw [fn e] at q; exact .inr ⟨e, q⟩
  have out : ∀ a ∈ gs, (∀ k, a ∉ G.fp k) ∧ a ∉ G.ad ∧ G.P a = none := fun a h => m.out a (List.mem_cons_of_mem _ h)
  have outp := m.out p (by simp)
  have ex : ∀ gg : List Addr, Ex G.toHc G'.toHc gg := fun gg => ⟨rfl, rfl, Same.refl _, Same.refl _, fun _ _ _ e => e, ⟨[p], rfl⟩⟩
  have adl : ∀ {a}, a ∈ G'.ad → a ∈ G.ad ∨ a = p := fun {a} h => by
    have h : a ∈ G.ad ++ [p] := h
    simpa using h
  refine ⟨G', rfl, rfl, { k := g.k, c := g.c, len := g.len, fp := g.fp, ph := g.ph, nd := fun k => ?_, dj := fun k k' a q q' => ?_, pn := fun k a q => ?_, adn := ?_, adp := fun a h => ?_, ado := fun a h k q => ?_, sl := fun i t e => ?_, sn := fun i e => ?_, ob := fun j b e => ?_, on := fun j e => ?_, ln := ?_ },
    fun G0 ef s nw => { s with ad := ?_, anew := fun a h => ?_, gnew := fun k a q => ?_, q := fun e => by cases e }, .bare ⟨p, rfl, ?_, rfl⟩⟩
  · by_cases e : k = .o n
    · subst e; rw [fo]; exact nd.2
    · rw [fn e]; exact g.nd k
  · rcases sub k a q with ⟨e1, a1⟩ | ⟨e1, a1⟩ <;> rcases sub k' a q' with ⟨e2, a2⟩ | ⟨e2, a2⟩
    · rw [e1, e2]
    · exact absurd a2 ((out a a1).1 k')
    · exact absurd a1 ((out a a2).1 k)
    · exact g.dj k k' a a1 a2
  · rcases sub k a q with ⟨_, a1⟩ | ⟨_, a1⟩
    · exact (out a a1).2.2
    · exact g.pn k a a1
  · show (G.ad ++ [p]).Nodup
    exact List.nodup_append.mpr ⟨g.adn, by simp, fun a h b h' e => outp.2.1 (by
      have : b = p := by simpa using h'
      rw [← this, ← e]; exact h)⟩
  · rcases adl h with h | h
    · exact g.adp a h
    · rw [h]; exact outp.2.2
  · rcases adl h with h | h <;> rcases sub k a q with ⟨_, a1⟩ | ⟨_, a1⟩
    · exact (out a a1).2.1 h
    · exact g.ado a h k a1
    · rw [h] at a1; exact nd.1 a1
    · rw [h] at a1; exact outp.1 k a1
  · obtain ⟨v', a, r'⟩ := g.sl i t e
    refine ⟨v', a, ?_⟩
    rw [fn (by intro z; cases z)]
    exact Rep.ex _ _ _ (ex _) r'
  · rw [fn (by intro z; cases z)]; exact g.sn i e
  · have e : (G.O ++ [Ob.lst xs])[j]? = some b := e
    by_cases hj : j < G.O.length
    · rw [List.getElem?_append_left hj] at e
      obtain ⟨q, a, r'⟩ := g.ob j b e
      refine ⟨q, (ex []).adAt a, ?_⟩
      rw [fn (by intro z; cases z; exact absurd hj (Nat.lt_irrefl _))]
      exact r'.ex (ex _)
    · have hj2 : j = G.O.length := by
        have := (List.getElem?_eq_some_iff.mp e).1
        simp at this
        omega
      subst hj2
      rw [List.getElem?_append_right (Nat.le_refl _), Nat.sub_self] at e
      cases e
      refine ⟨p, ?_, ?_⟩
      · show (G.ad ++ [p])[G.O.length]? = _
        rw [← g.ln, List.getElem?_append_right (Nat.le_refl _), Nat.sub_self]; rfl
      · rw [show G'.fp (.o G.O.length) = gs from fo]
        exact ⟨vs, e1, Reps.ex _ _ _ (ex _) r, hb⟩
  · have e : (G.O ++ [Ob.lst xs])[j]? = none := e
    have hj := List.getElem?_eq_none_iff.mp e
    simp at hj
    rw [fn (by intro z; cases z; show False; have : n + 1 ≤ n := hj; omega)]
    exact g.on j (List.getElem?_eq_none_iff.mpr (by omega))
  · show (G.ad ++ [p]).length = (G.O ++ [Ob.lst xs]).length
    simp [g.ln]
  · obtain ⟨more, h⟩ := s.ad
    exact ⟨more ++ [p], by show G.ad ++ [p] = _; rw [h, List.append_assoc]⟩
  · rcases adl h with h | h
    · exact s.anew a h
    · rw [h]; exact .inr (nw p (by simp))
  · rcases sub k a q with ⟨_, a1⟩ | ⟨_, a1⟩
    · exact (nw a (List.mem_cons_of_mem _ a1)).symm
    · exact s.gnew k a a1
  · show (G.ad ++ [p])[G.O.length]? = _
    rw [← g.ln, List.getElem?_append_right (Nat.le_refl _), Nat.sub_self]; rfl
end
/-! ### mirrors -/
/-- a value held for good -/
def dIce (d : DE) : DE := fun S => (d S).bind fun p => some (p.1.frz, p.2)
def dHnd (d : DE) : DE := fun S => (d S).bind fun p => match p.1 with
  | .lst .ow xs => if noBrs xs then some (.hnd p.2.2.length, (p.2.1, p.2.2 ++ [.lst xs])) else none
  | _ => none
/-- a name's value: as it is where it owns nothing, else held for good -/
def dUse (i : Nat) : DE := fun S => (slot S i).bind fun t => if t.noOw then some (t, S) else some (t.frz, setS S i (some t.frz))
def oBorS (i : Nat) : DO := fun S => (slot S i).bind fun _ => some (.bor i, S)
/-- nothing owned below the top -/
def T.kids : T → Bool
  | .lst _ xs => noOws xs
  | .dic _ xs => noOwK xs
  | .tup xs => noOws xs
  | _ => true
/-- a name to be looked into: lent where its parts own nothing, else held for good -/
def oAuto (i : Nat) : DO := fun S => (slot S i).bind fun t => if t.kids then some (.bor i, S) else some (.tmp t.frz, setS S i (some t.frz))
section
variable {X : Cx} {ca : Str → Addr} {e : Expr} {ef : Bool}
theorem ex_ice {d : DE} (h : EX ca X e ef d) : EX ca X e true (dIce d) := PE.imp h fun σ H Q w => by
  obtain ⟨G, rfl, g, r, S', e1, k⟩ := w
  obtain ⟨p, h1, e1⟩ := Option.bind_eq_some_iff.mp e1
  cases e1
  refine ⟨G, rfl, g, p.1, p.2, h1, fun G1 v gv a1 a2 a3 a4 a5 => ?_⟩
  obtain ⟨g2, s2, t2⟩ := a2.iceT a4
  exact k (G1.iceT gv) v [] a1 g2 (s2 G ef a3 a5) t2 New.nil
theorem ex_hnd {d : DE} (h : EX ca X e ef d) : EX ca X e true (dHnd d) := PE.imp h fun σ H Q w => by
  obtain ⟨G, rfl, g, r, S', e1, k⟩ := w
  obtain ⟨p, h1, e1⟩ := Option.bind_eq_some_iff.mp e1
  refine ⟨G, rfl, g, p.1, p.2, h1, fun G1 v gv a1 a2 a3 a4 a5 => ?_⟩
  split at e1
  · rename_i xs hx
    split at e1
    · rename_i hb
      cases e1
      rw [hx] at a4
      obtain ⟨G', b1, b2, b3, b4, b5⟩ := a2.hndT a4 hb
      rw [← b1]
      refine k G' v [] ?_ b3 (b4 G ef a3 a5) ?_ New.nil
      · rw [b2, ← a1]
      · rw [← a1]; exact b5
    · cases e1
  · cases e1
theorem ex_use {i : Nat} (h : PE X e (tVar i)) : EX ca X e true (dUse i) := PE.imp h fun σ H Q w => by
  obtain ⟨G, rfl, g, r, S', e1, k⟩ := w
  obtain ⟨t, h1, h2⟩ := Option.bind_eq_some_iff.mp e1
  split at h2
  · rename_i n
    cases h2
    obtain ⟨v, e2, m⟩ := g.copy (slot_some h1) n
    exact ⟨v, e2, k G v [] rfl g (Step.refl _) m New.nil⟩
  · cases h2
    obtain ⟨v, e2, g2, s2, m⟩ := g.ice (slot_some h1)
    exact ⟨v, e2, k (G.ice i t) v [] rfl g2 s2 m New.nil⟩
theorem ox_borS {i : Nat} (h : PE X e (tVar i)) : OX ca X e false (oBorS i) := ox_bor h
theorem ox_auto {i : Nat} (h : PE X e (tVar i)) : OX ca X e true (oAuto i) := PE.imp h fun σ H Q w => by
  obtain ⟨G, rfl, g, r, S', e1, k⟩ := w
  obtain ⟨t, h1, h2⟩ := Option.bind_eq_some_iff.mp e1
  split at h2
  · cases h2
    obtain ⟨v, e2, _⟩ := g.sl i t (slot_some h1)
    exact ⟨v, e2, k G v [] rfl g (Step.refl _) ⟨e2, rfl⟩ New.nil⟩
  · cases h2
    obtain ⟨v, e2, g2, s2, m⟩ := g.ice (slot_some h1)
    exact ⟨v, e2, k (G.ice i t) v [] rfl g2 s2 m New.nil⟩
end
/-! ### a, b = x, y -/
def sPar (i j : Nat) (a : DA) : DS := fun S => (a S).bind fun p => match p.1 with
  | [.tmp t, .tmp u] => if i < p.2.1.length ∧ j < p.2.1.length ∧ i ≠ j then some (.nx, setS (setS p.2 i (some t)) j (some u)) else none
  | _ => none
def sPar3 (i j l : Nat) (a : DA) : DS := fun S => (a S).bind fun p => match p.1 with
  | [.tmp t, .tmp u, .tmp z] => if i < p.2.1.length ∧ j < p.2.1.length ∧ l < p.2.1.length then some (.nx, setS (setS (setS p.2 i (some t)) j (some u)) l (some z)) else none
  | _ => none
section
variable {X : Cx} {ca : Str → Addr} {a b c : Expr} {ef : Bool} {pos : Pos}
theorem sx_par {i j : Nat} {x y : Str} {px py pt pt2 : Pos} {kt k2 : Nat} {da : DA} (hc : X.calm = true) (hN : X.N.Nodup) (hi : X.N[i]? = some x) (hj : X.N[j]? = some y) (hij : i ≠ j) (hx : X.env.scope.names.lookup x = some .local) (hy : X.env.scope.names.lookup y = some .local) (h : AX ca X [a, b] ef da)
    (hw : swappedStores [.Tuple [.Name x px, .Name y py] kt pt] (.Tuple [a, b] k2 pt2) X.env = pure (some [x, y])) (hs : swapsWithSole [.Tuple [.Name x px, .Name y py] kt pt] (.Tuple [a, b] k2 pt2) pos.line X.env = pure false := by rfl) :
    SX ca X (.Assign [.Tuple [.Name x px, .Name y py] kt pt] (.Tuple [a, b] k2 pt2) pos) (sPar i j da) := PS.imp (ps_par hc hN hi hj hij hx hy h hw hs) fun D σ H w => by
  obtain ⟨G, rfl, g, f, S', e1, k⟩ := w
  obtain ⟨p, h3, e1⟩ := Option.bind_eq_some_iff.mp e1
  refine ⟨G, rfl, g, p.1, p.2, h3, fun G1 vs gs a1 a2 a3 a4 a5 => ?_⟩
  split at e1
  case h_2 => cases e1
  rename_i t u hp
  split at e1
  case isFalse => cases e1
  rename_i hl
  cases e1
  rw [hp] at a4
  obtain ⟨v, r, ga, gb, rfl, rfl, h1, ⟨v2, r2, gc, gd, rfl, rfl, h2, ⟨rfl, rfl⟩, _⟩, ap⟩ := a4
  have h1 : Tmp G1 v t ga := h1
  have h2 : Tmp G1 v2 u gc := h2
  have ln : p.2.1.length = σ.length := by rw [← a2.len, ← a1]
  obtain ⟨g2, s2⟩ := a2.store (by rw [← ln]; exact hl.1) h1
  have h2' : Tmp (G1.put i (some t) ga) v2 u gc := h2.put fun x m z => ap x z (List.mem_append_left _ m)
  obtain ⟨g3, s3⟩ := g2.store (i := j) (by rw [List.length_set, ← ln]; exact hl.2.1) h2'
  refine ⟨v, v2, rfl, k ((G1.put i (some t) ga).put j (some u) gc) _ ?_ g3 (s3 G true (s2 G ef a3 fun x m => a5 x (List.mem_append_left _ m)) fun x m => a5 x (List.mem_append_right _ (List.mem_append_left _ m)))⟩
  show (_, _) = setS (setS p.2 i (some t)) j (some u)
  rw [← a1] <;> rfl
theorem sx_par3 {i j l : Nat} {x y z : Str} {px py pz pt pt2 : Pos} {kt k2 : Nat} {da : DA} (hc : X.calm = true) (hN : X.N.Nodup) (hi : X.N[i]? = some x) (hj : X.N[j]? = some y) (hl : X.N[l]? = some z) (hij : i ≠ j) (hil : i ≠ l) (hjl : j ≠ l) (hx : X.env.scope.names.lookup x = some .local) (hy : X.env.scope.names.lookup y = some .local) (hz : X.env.scope.names.lookup z = some .local) (h : AX ca X [a, b, c] ef da)
    (hw : swappedStores [.Tuple [.Name x px, .Name y py, .Name z pz] kt pt] (.Tuple [a, b, c] k2 pt2) X.env = pure (some [x, y, z])) (hs : swapsWithSole [.Tuple [.Name x px, .Name y py, .Name z pz] kt pt] (.Tuple [a, b, c] k2 pt2) pos.line X.env = pure false := by rfl) :
    SX ca X (.Assign [.Tuple [.Name x px, .Name y py, .Name z pz] kt pt] (.Tuple [a, b, c] k2 pt2) pos) (sPar3 i j l da) := PS.imp (ps_par3 hc hN hi hj hl hij hil hjl hx hy hz h hw hs) fun D σ H w => by
  obtain ⟨G, rfl, g, f, S', e1, k⟩ := w
  obtain ⟨p, h3, e1⟩ := Option.bind_eq_some_iff.mp e1
  refine ⟨G, rfl, g, p.1, p.2, h3, fun G1 vs gs a1 a2 a3 a4 a5 => ?_⟩
  split at e1
  case h_2 => cases e1
  rename_i t u q hp
  split at e1
  case isFalse => cases e1
  rename_i hl
  cases e1
  rw [hp] at a4
  obtain ⟨v, r, ga, gb, rfl, rfl, h1, ⟨v2, r2, gc, gd, rfl, rfl, h2, ⟨v3, r3, ge, gf, rfl, rfl, h4, ⟨rfl, rfl⟩, _⟩, ap2⟩, ap⟩ := a4
  have h1 : Tmp G1 v t ga := h1
  have h2 : Tmp G1 v2 u gc := h2
  have h4 : Tmp G1 v3 q ge := h4
  have ln : p.2.1.length = σ.length := by rw [← a2.len, ← a1]
  obtain ⟨g2, s2⟩ := a2.store (by rw [← ln]; exact hl.1) h1
  have h2' : Tmp (G1.put i (some t) ga) v2 u gc := h2.put fun x m z => ap x z (List.mem_append_left _ m)
  have h4' : Tmp (G1.put i (some t) ga) v3 q ge := h4.put fun x m z => ap x z (List.mem_append_right _ (List.mem_append_left _ m))
  obtain ⟨g3, s3⟩ := g2.store (i := j) (by rw [List.length_set, ← ln]; exact hl.2.1) h2'
  have h4'' : Tmp ((G1.put i (some t) ga).put j (some u) gc) v3 q ge := h4'.put fun x m z => ap2 x z (List.mem_append_left _ m)
  obtain ⟨g4, s4⟩ := g3.store (i := l) (by rw [List.length_set, List.length_set, ← ln]; exact hl.2.2) h4''
  refine ⟨v, v2, v3, rfl, k (((G1.put i (some t) ga).put j (some u) gc).put l (some q) ge) _ ?_ g4 (s4 G true (s3 G true (s2 G ef a3 fun x m => a5 x (List.mem_append_left _ m)) fun x m => a5 x (List.mem_append_right _ (List.mem_append_left _ m))) fun x m => a5 x (List.mem_append_right _ (List.mem_append_right _ (List.mem_append_left _ m))))⟩
  show (_, _) = setS (setS (setS p.2 i (some t)) j (some u)) l (some q)
  rw [← a1] <;> rfl
end
/-! ### defs by their data -/
section
variable {P : Program} {w : World} {K : PySem.W.Frag} {mg : Str → Option Value} {base : Heap} {ca : Str → Addr}
/-- a def without defaults, that stands at the top -/
abbrev FnP (K : PySem.W.Frag) (x : Str) (st : Stmt) (f : Addr) (fd : FuncData) : Prop := FunD K x x (defArgs st) (defBody st) (defScope st) [] [] f fd
theorem fn_okD {x : Str} {st : Stmt} {f : Addr} {fd : FuncData} {N ps : List Str} {k : Nat} {b : DS} (F : FnP K x st f fd) (S : FnScope N ps (defScope st)) (hN : ps.length ≤ N.length)
    (hb : ∀ (cdv : Value) (A : Around) (outer : List Env) (s : Shared) (H : Hp) (E : XK), Room k (A.deeper (PyProof.Rows.envOfC x (defScope st) s.heap.objs.size f cdv)) → BX ca (cxOf CX0 P w K mg base N x (defScope st) f cdv A outer s H E).nox (defBody st) b) :
    FnOk P w K mg base CX0 (k + 1) f fd ps (spT K ca ps.length (dFn N.length b)) := by
  refine F.ok S (fun vs H Q E h => h.1) (fun cdv A outer s H vs Q E hr h => ⟨liftS K ca b, PSs.nox (hb cdv A outer s H E hr), ?_⟩)
  obtain ⟨hl, G, rfl, g, ts, r, O', hτ, hd, hbr, kk⟩ := h
  have ht : ts.length = ps.length := by
    have := g.len
    rw [hτ, List.length_map, List.length_map] at this
    omega
  unfold dFn at hd
  obtain ⟨q, e1, hd⟩ := Option.bind_eq_some_iff.mp hd
  refine ⟨{ G with τ := G.τ ++ List.replicate (N.length - ps.length) none }, rfl, ?_, q.1, q.2, ?_, fun G' σ' a1 a2 a3 => ?_⟩
  · have e : L2.start N vs = vs.map some ++ List.replicate (N.length - ps.length) none := by unfold L2.start; rw [hl]
    rw [e]
    exact g.ext _
  · show b (G.τ ++ _, G.O) = _
    rw [hτ, ← ht]
    exact e1
  · have st : Step true G G' := { a3 with q := fun e => by cases e }
    have hO : G'.O = q.2.2 := by rw [← a1]
    cases hq : q.1 with
    | nx =>
      rw [hq] at hd
      cases hd
      exact kk G' σ' .non [] a2 st (.bare ⟨rfl, rfl⟩) New.nil hO
    | rt t =>
      rw [hq] at hd
      intro v gv m n
      have hd : (if t.noBr then some (t, q.2.2) else none) = some (r, O') := hd
      split at hd
      · cases hd
        exact kk G' σ' v gv a2 st m n hO
      · cases hd
    | bk => rw [hq] at hd; cases hd
    | ct => rw [hq] at hd; cases hd
/-- a promise of nothing -/
theorem fn_none {f : Addr} {fd : FuncData} {ps : List Str} {n k : Nat} : FnOk P w K mg base CX0 k f fd ps (spT K ca n fun _ _ => none) :=
  by
  have no : ∀ {vs : List V} {H : Hp} {Q : VK} {E : XK}, ¬ spT K ca n (fun _ _ => none) vs H Q E := fun h => by
    obtain ⟨_, G, _, _, ts, r, O', _, h, _⟩ := h
    cases h
  exact ⟨fun vs H Q E h => absurd h no, fun A outer s H args us vs Q E _ _ _ _ h => absurd h no⟩
/-- a def's mirror, of itself as it stands after one call more -/
def dRec (b : DF → DF) : Nat → DF
  | 0 => fun _ _ => none
  | n + 1 => b (dRec b n)
theorem fn_rec {f : Addr} {fd : FuncData} {ps : List Str} {c : Nat} {b : DF → DF} (h : ∀ (d : DF) (k : Nat), c ≤ k → FnOk P w K mg base CX0 k f fd ps (spT K ca ps.length d) → FnOk P w K mg base CX0 (k + 1) f fd ps (spT K ca ps.length (b d))) : ∀ n, FnOk P w K mg base CX0 (c + n) f fd ps (spT K ca ps.length (dRec b n))
  | 0 => fn_none
  | n + 1 => h (dRec b n) (c + n) (by omega) (fn_rec h n)
theorem callee_of {x : Str} {st : Stmt} {f : Addr} {fd : FuncData} {ps : List Str} {k : Nat} {d : DF} (F : FnP K x st f fd) (hm : mg x = some (.ref f)) (hb : Binds K fd ps []) (h : FnOk P w K mg base CX0 k f fd ps (spT K ca ps.length d)) : Callee P w K mg base ca x ps k d := ⟨f, fd, hm, F.kp, hb, h⟩
end
end TL

set_option Elab.async false
set_option linter.all false
set_option maxRecDepth 100000
/-! TL14: the head: defs and constants; the law's end. -/
namespace TL
open PySem PySem.Spec L2

def frag (n : Nat) (g : Addr → Option Obj) : PySem.W.Frag := He.frG g (He.asD g n)
theorem frag_in (n : Nat) (h : Heap) : (frag n h.get?).In h := by
  unfold frag He.frG
  intro a o m
  generalize He.asD h.get? n = l at m
  induction l with
  | nil => cases m
  | cons b l ih =>
    rw [List.filterMap_cons] at m
    cases q : h.get? b with
    | none => rw [q] at m; exact ih m
    | some u =>
      rw [q] at m
      have m : List.lookup a ((b, u) :: _) = some o := m
      rw [List.lookup_cons] at m
      split at m
      · rename_i e
        cases m
        rw [eq_of_beq e]
        exact q
      · exact ih m
def obsC (n : Nat) (fa : List He.Fa) (fn : List He.DefD) (cs : List (Str × T)) (g : Addr → Option Obj) : Bool × He.AlD := (cs.all fun c => gcB (frag n g) c.1 c.2, He.obsD fa fn (frag n g))
def saysC (fa : List He.Fa) (fn : List He.DefD) (cs : List (Str × T)) (h : Heap) : Prop := ∃ K : PySem.W.Frag, K.In h ∧ He.SaysD fa fn K ∧ ∀ c ∈ cs, gcB K c.1 c.2 = true
def hookC (n : Nat) (fa : List He.Fa) (fn : List He.DefD) (cs : List (Str × T)) : PySem.W.Hook where
  α := Bool × He.AlD
  obs := fun s => obsC n fa fn cs s.heap.get?
  val := fun _ => (true, He.valD fn)
  says := fun _ h => saysC fa fn cs h
  of := fun w s e => by
    have e1 := congrArg Prod.fst e
    have e2 := congrArg Prod.snd e
    exact ⟨frag n s.heap.get?, frag_in n s.heap, e2, fun c m => List.all_eq_true.mp e1 c m⟩
  keeps := fun w h h' ⟨K, a, b, c⟩ k => ⟨K, fun x o m => k x o (a x o m), b, c⟩
theorem obsC_eq {n : Nat} {fa : List He.Fa} {fn : List He.DefD} {cs : List (Str × T)} {g : Addr → Option Obj} {s : Shared} (h : ∀ a, g a = s.heap.get? a) : obsC n fa fn cs g = (hookC n fa fn cs).obs s := by
  have e : g = s.heap.get? := funext h
  rw [e]
  rfl
/-- the law's own promise: the script's numbers, everything else held for good -/
theorem law_end {K : PySem.W.Frag} {ca : Str → Addr} {d : DF} {H : Hp} {a : Addr} {ns : List Int} {E : XK} (hS : SqL K H a (ns.map V.int)) {O' : List Ob} (h : d [.lst .sc (ns.map T.int)] [] = some (.bl true, O')) : spT K ca 1 d [.ref a] H (fun v _ => v = .bl true) E := by
  let G : Gh := { K := K, F := H, P := H, H := H, ad := [], ca := ca, fp := fun _ => [], τ := [some (.lst .sc (ns.map T.int))], O := [] }
  have all : ∀ is : List Int, Reps G.toHc (is.map T.int) (is.map V.int) [] := by
    intro is
    induction is with
    | nil => exact ⟨rfl, rfl⟩
    | cons i is ih => exact ⟨.int i, _, [], [], rfl, rfl, ⟨rfl, rfl⟩, ih⟩
  refine ⟨rfl, G, rfl, ?_, [.lst .sc (ns.map T.int)], .bl true, O', rfl, h, rfl, fun G' σ' v g _ _ tm _ _ => tm.rep.1⟩
  have sl : ∀ (i : Nat) (t : T), G.τ[i]? = some (some t) → ∃ v, ([V.ref a].map some)[i]? = some (some v) ∧ Rep G.toHc t v (G.fp (.s i)) := by
    intro i t e
    cases i with
    | zero =>
      cases e
      exact ⟨.ref a, rfl, a, ns.map V.int, rfl, hS, all ns, rfl⟩
    | succ i => cases e
  have no : ∀ {p : Prop} {x : Addr}, x ∈ ([] : List Addr) → p := fun m => absurd m (by simp)
  exact { k := rfl, c := rfl, len := rfl, fp := Same.refl _, ph := Same.refl _, nd := fun _ => List.nodup_nil, dj := fun k k' a m _ => no m, pn := fun k a m => no m, adn := List.nodup_nil, adp := fun a m => no m, ado := fun a m => no m, sl := sl, sn := fun _ _ => rfl, ob := fun n b e => (by cases e), on := fun _ _ => rfl, ln := rfl }
end TL

set_option Elab.async false
set_option linter.all false
set_option maxRecDepth 100000
/-! TL15: mirrors read out. -/
namespace TL
open PySem PySem.Spec L2

/-! ### trees -/
@[simp] theorem noOw_non : T.noOw .non = true := rfl
@[simp] theorem noOw_bl (b : Bool) : T.noOw (.bl b) = true := rfl
@[simp] theorem noOw_int (i : Int) : T.noOw (.int i) = true := rfl
@[simp] theorem noOw_str (x : Str) : T.noOw (.str x) = true := rfl
@[simp] theorem noOw_hnd (n : Nat) : T.noOw (.hnd n) = true := rfl
@[simp] theorem noOw_tup (xs : List T) : T.noOw (.tup xs) = noOws xs := rfl
@[simp] theorem noOw_ow (xs : List T) : T.noOw (.lst .ow xs) = false := rfl
@[simp] theorem noOw_fz (xs : List T) : T.noOw (.lst .fz xs) = noOws xs := rfl
@[simp] theorem noOw_br (xs : List T) : T.noOw (.lst .br xs) = noOws xs := rfl
@[simp] theorem noOw_sc (xs : List T) : T.noOw (.lst .sc xs) = noOws xs := rfl
@[simp] theorem noOws_nil : noOws [] = true := rfl
@[simp] theorem noOws_cons (t : T) (ts : List T) : noOws (t :: ts) = (t.noOw && noOws ts) := rfl
@[simp] theorem noBr_non : T.noBr .non = true := rfl
@[simp] theorem noBr_bl (b : Bool) : T.noBr (.bl b) = true := rfl
@[simp] theorem noBr_int (i : Int) : T.noBr (.int i) = true := rfl
@[simp] theorem noBr_str (x : Str) : T.noBr (.str x) = true := rfl
@[simp] theorem noBr_hnd (n : Nat) : T.noBr (.hnd n) = true := rfl
@[simp] theorem noBr_tup (xs : List T) : T.noBr (.tup xs) = noBrs xs := rfl
@[simp] theorem noBr_ow (xs : List T) : T.noBr (.lst .ow xs) = noBrs xs := rfl
@[simp] theorem noBr_fz (xs : List T) : T.noBr (.lst .fz xs) = noBrs xs := rfl
@[simp] theorem noBr_br (xs : List T) : T.noBr (.lst .br xs) = false := rfl
@[simp] theorem noBr_sc (xs : List T) : T.noBr (.lst .sc xs) = noBrs xs := rfl
@[simp] theorem noBrs_nil : noBrs [] = true := rfl
@[simp] theorem noBrs_cons (t : T) (ts : List T) : noBrs (t :: ts) = (t.noBr && noBrs ts) := rfl
@[simp] theorem brw_non : T.brw .non = .non := rfl
@[simp] theorem brw_bl (b : Bool) : T.brw (.bl b) = .bl b := rfl
@[simp] theorem brw_int (i : Int) : T.brw (.int i) = .int i := rfl
@[simp] theorem brw_str (x : Str) : T.brw (.str x) = .str x := rfl
@[simp] theorem brw_hnd (n : Nat) : T.brw (.hnd n) = .hnd n := rfl
@[simp] theorem brw_tup (xs : List T) : T.brw (.tup xs) = .tup (brws xs) := rfl
@[simp] theorem brw_lst (m : Mk) (xs : List T) : T.brw (.lst m xs) = .lst m.brw (brws xs) := rfl
@[simp] theorem mbrw_ow : Mk.brw .ow = .br := rfl
@[simp] theorem mbrw_br : Mk.brw .br = .br := rfl
@[simp] theorem mbrw_fz : Mk.brw .fz = .fz := rfl
@[simp] theorem mbrw_sc : Mk.brw .sc = .sc := rfl
@[simp] theorem brws_nil : brws [] = [] := rfl
@[simp] theorem brws_cons (t : T) (ts : List T) : brws (t :: ts) = t.brw :: brws ts := rfl
@[simp] theorem frz_non : T.frz .non = .non := rfl
@[simp] theorem frz_bl (b : Bool) : T.frz (.bl b) = .bl b := rfl
@[simp] theorem frz_int (i : Int) : T.frz (.int i) = .int i := rfl
@[simp] theorem frz_str (x : Str) : T.frz (.str x) = .str x := rfl
@[simp] theorem frz_hnd (n : Nat) : T.frz (.hnd n) = .hnd n := rfl
@[simp] theorem frz_tup (xs : List T) : T.frz (.tup xs) = .tup (frzs xs) := rfl
@[simp] theorem frz_lst (m : Mk) (xs : List T) : T.frz (.lst m xs) = .lst m.frz (frzs xs) := rfl
@[simp] theorem mfrz_ow : Mk.frz .ow = .fz := rfl
@[simp] theorem mfrz_br : Mk.frz .br = .br := rfl
@[simp] theorem mfrz_fz : Mk.frz .fz = .fz := rfl
@[simp] theorem mfrz_sc : Mk.frz .sc = .sc := rfl
@[simp] theorem frzs_nil : frzs [] = [] := rfl
@[simp] theorem frzs_cons (t : T) (ts : List T) : frzs (t :: ts) = t.frz :: frzs ts := rfl
@[simp] theorem noOws_map_int (l : List Int) : noOws (l.map T.int) = true := noOws_of fun t m => by
  obtain ⟨i, _, rfl⟩ := List.mem_map.mp m; rfl
@[simp] theorem noBrs_map_int : ∀ l : List Int, noBrs (l.map T.int) = true
  | [] => rfl
  | _ :: l => noBrs_map_int l
@[simp] theorem brws_map_int : ∀ l : List Int, brws (l.map T.int) = l.map T.int
  | [] => rfl
  | i :: l => congrArg (T.int i :: ·) (brws_map_int l)
@[simp] theorem frzs_map_int : ∀ l : List Int, frzs (l.map T.int) = l.map T.int
  | [] => rfl
  | i :: l => congrArg (T.int i :: ·) (frzs_map_int l)
@[simp] theorem intsT_map : ∀ l : List Int, intsT (l.map T.int) = some l
  | [] => rfl
  | i :: l => by
    show (intsT (l.map T.int)).bind _ = _
    rw [intsT_map l]
    rfl
@[simp] theorem blsT_map : ∀ l : List Bool, blsT (l.map T.bl) = some l
  | [] => rfl
  | i :: l => by
    show (blsT (l.map T.bl)).bind _ = _
    rw [blsT_map l]
    rfl
@[simp] theorem strsT_map : ∀ l : List Str, strsT (l.map T.str) = some l
  | [] => rfl
  | i :: l => by
    show (strsT (l.map T.str)).bind _ = _
    rw [strsT_map l]
    rfl
@[simp] theorem kids_lst (m : Mk) (xs : List T) : T.kids (.lst m xs) = noOws xs := rfl
@[simp] theorem kids_tup (xs : List T) : T.kids (.tup xs) = noOws xs := rfl
@[simp] theorem kids_hnd (n : Nat) : T.kids (.hnd n) = true := rfl
@[simp] theorem kids_str (x : Str) : T.kids (.str x) = true := rfl
/-! ### slots -/
@[simp] theorem slot_mk (τ : List (Option T)) (O : List Ob) (i : Nat) : slot (τ, O) i = (τ[i]?).join := rfl
@[simp] theorem setS_mk (τ : List (Option T)) (O : List Ob) (i : Nat) (o : Option T) : setS (τ, O) i o = (τ.set i o, O) := rfl
/-! ### expressions -/
section
variable (S : SS)
@[simp] theorem r_dC (t : T) : dC t S = some (t, S) := rfl
@[simp] theorem r_dGet (i : Nat) : dGet i S = (slot S i).bind fun t => if t.noOw then some (t, S) else none := rfl
@[simp] theorem r_dUse (i : Nat) : dUse i S = (slot S i).bind fun t => if t.noOw then some (t, S) else some (t.frz, setS S i (some t.frz)) := rfl
@[simp] theorem r_dMov (i : Nat) : dMov i S = (slot S i).bind fun t => some (t, setS S i none) := rfl
@[simp] theorem r_dIce (d : DE) : dIce d S = (d S).bind fun p => some (p.1.frz, p.2) := rfl
@[simp] theorem r_oTmp (d : DE) : oTmp d S = (d S).bind fun p => some (.tmp p.1, p.2) := rfl
@[simp] theorem r_oBorS (i : Nat) : oBorS i S = (slot S i).bind fun _ => some (.bor i, S) := rfl
@[simp] theorem r_oAuto (i : Nat) : oAuto i S = (slot S i).bind fun t => if t.kids then some (.bor i, S) else some (.tmp t.frz, setS S i (some t.frz)) := rfl
@[simp] theorem r_res_tmp (t : T) : Arg.res S (.tmp t) = some (view S t) := rfl
@[simp] theorem r_res_bor (i : Nat) : Arg.res S (.bor i) = (slot S i).bind fun t => some (view S t) := rfl
@[simp] theorem view_int (i : Int) : view S (.int i) = .int i := rfl
@[simp] theorem view_str (i : Str) : view S (.str i) = .str i := rfl
@[simp] theorem view_bl (i : Bool) : view S (.bl i) = .bl i := rfl
@[simp] theorem view_non : view S .non = .non := rfl
@[simp] theorem view_lst (m : Mk) (xs : List T) : view S (.lst m xs) = .lst m xs := rfl
@[simp] theorem view_tup (xs : List T) : view S (.tup xs) = .tup xs := rfl
@[simp] theorem r_d1 (f : T → Option T) (a : DO) : d1 f a S = (a S).bind fun p => (p.1.res p.2).bind fun x => (f x).bind fun z => some (z, p.2) := rfl
@[simp] theorem r_d2 (f : T → T → Option T) (a b : DO) : d2 f a b S = (a S).bind fun p => (b p.2).bind fun q => (p.1.res q.2).bind fun x => (q.1.res q.2).bind fun y => (f x y).bind fun z => some (z, q.2) := rfl
@[simp] theorem r_tOf (d : DE) : tOf d S = (d S).bind fun p => match p.1 with
  | .bl b => some (b, p.2)
  | _ => none := rfl
@[simp] theorem r_dB (f : List T → Option T) (a : DA) : dB f a S = (a S).bind fun p => (lookAll p.2 p.1).bind fun ts => (f ts).bind fun z => some (z, p.2) := rfl
@[simp] theorem r_aNil : aNil S = some ([], S) := rfl
@[simp] theorem r_aCons (a : DO) (r : DA) : aCons a r S = (a S).bind fun p => (r p.2).bind fun q => some (p.1 :: q.1, q.2) := rfl
@[simp] theorem r_temps_nil : temps [] = some [] := rfl
@[simp] theorem r_temps_cons (t : T) (as : List Arg) : temps (.tmp t :: as) = (temps as).bind fun ts => some (t :: ts) := rfl
@[simp] theorem r_lookAll_nil : lookAll S [] = some [] := rfl
@[simp] theorem r_lookAll_cons (a : Arg) (as : List Arg) : lookAll S (a :: as) = (a.res S).bind fun t => (lookAll S as).bind fun ts => some (t :: ts) := rfl
@[simp] theorem r_resAll_nil : resAll S [] = some [] := rfl
@[simp] theorem r_resAll_tmp (t : T) (as : List Arg) : resAll S (.tmp t :: as) = (resAll S as).bind fun ts => some (t :: ts) := rfl
@[simp] theorem r_resAll_bor (i : Nat) (as : List Arg) : resAll S (.bor i :: as) = (slot S i).bind fun t => (resAll S as).bind fun ts => some (t.brw :: ts) := rfl
@[simp] theorem r_dCall (d : DF) (a : DA) : dCall d a S = (a S).bind fun p => (resAll p.2 p.1).bind fun ts => (d ts p.2.2).bind fun q => if q.1.noBr then some (q.1, (p.2.1, q.2)) else none := rfl
@[simp] theorem r_dTup (a : DA) : dTup a S = (a S).bind fun p => (temps p.1).bind fun ts => if ts.length ≤ sizeLine then some (.tup ts, p.2) else none := rfl
@[simp] theorem r_dLst (a : DA) : dLst a S = (a S).bind fun p => (temps p.1).bind fun ts => if ts.length ≤ sizeLine then some (.lst .ow ts, p.2) else none := rfl
@[simp] theorem r_tAndD (a b : DT) : tAndD a b S = (a S).bind fun p => if p.1 = true then b p.2 else some (false, p.2) := rfl
@[simp] theorem r_tOrD (a b : DT) : tOrD a b S = (a S).bind fun p => if p.1 = true then some (true, p.2) else b p.2 := rfl
@[simp] theorem r_tNotD (a : DT) : tNotD a S = (a S).bind fun p => some (!p.1, p.2) := rfl
@[simp] theorem r_dAndD (a b : DE) : dAndD a b S = (a S).bind fun p => match p.1 with
  | .bl c => if c = true then b p.2 else some (.bl false, p.2)
  | _ => none := rfl
@[simp] theorem r_dOrD (a b : DE) : dOrD a b S = (a S).bind fun p => match p.1 with
  | .bl c => if c = true then some (.bl true, p.2) else b p.2
  | _ => none := rfl
@[simp] theorem r_dNotD (a : DE) : dNotD a S = (a S).bind fun p => match p.1 with
  | .bl c => some (.bl (!c), p.2)
  | _ => none := rfl
@[simp] theorem r_dIfD (c : DT) (a b : DE) : dIfD c a b S = (c S).bind fun p => if p.1 = true then a p.2 else b p.2 := rfl
@[simp] theorem r_dChain (f f' : T → T → Option T) (a b c : DE) : dChain f f' a b c S = (a S).bind fun p => (b p.2).bind fun q => (f p.1 q.1).bind fun z => match z with
  | .bl k => if k = true then (c q.2).bind fun r => (f' q.1 r.1).bind fun y => some (y, r.2) else some (.bl false, q.2)
  | _ => none := rfl
@[simp] theorem r_pNone : pNone S = some (none, S) := rfl
@[simp] theorem r_pSome (d : DE) : pSome d S = (d S).bind fun p => match p.1 with
  | .int i => some (some i, p.2)
  | _ => none := rfl
@[simp] theorem r_d3 (f : T → Option Int → Option Int → Option T) (a : DO) (lo hi : DP) : d3 f a lo hi S = (a S).bind fun p => (lo p.2).bind fun q => (hi q.2).bind fun r => (p.1.res r.2).bind fun x => (f x q.1 r.1).bind fun z => some (z, r.2) := rfl
/-! ### statements -/
@[simp] theorem r_sNil : sNil S = some (.nx, S) := rfl
@[simp] theorem r_sBrk : sBrk S = some (.bk, S) := rfl
@[simp] theorem r_sCnt : sCnt S = some (.ct, S) := rfl
@[simp] theorem r_sSeq (a b : DS) : sSeq a b S = (a S).bind fun p => match p.1 with
  | .nx => b p.2
  | f => some (f, p.2) := rfl
@[simp] theorem r_sDrop (d : DE) : sDrop d S = (d S).bind fun p => some (.nx, p.2) := rfl
@[simp] theorem r_sRet (d : DE) : sRet d S = (d S).bind fun p => some (.rt p.1, p.2) := rfl
@[simp] theorem r_sRetN : sRetN S = some (.rt .non, S) := rfl
@[simp] theorem r_sIf (c : DT) (a b : DS) : sIf c a b S = (c S).bind fun p => if p.1 = true then a p.2 else b p.2 := rfl
@[simp] theorem r_sNev : sNev S = none := rfl
@[simp] theorem r_gNm (i : Nat) (t : T) : gNm i t S = if i < S.1.length then some (setS S i (some t)) else none := rfl
@[simp] theorem r_gTp (gs : List DG) (ts : List T) : gTp gs (.tup ts) S = gTp.gAll gs ts S := rfl
@[simp] theorem r_gAll_nil : gTp.gAll [] [] S = some S := rfl
@[simp] theorem r_gAll_cons (g : DG) (gs : List DG) (t : T) (ts : List T) : gTp.gAll (g :: gs) (t :: ts) S = (g t S).bind fun S' => gTp.gAll gs ts S' := rfl
@[simp] theorem r_sAsg (d : DE) (g : DG) : sAsg d g S = (d S).bind fun p => (g p.1 p.2).bind fun S' => some (.nx, S') := rfl
@[simp] theorem r_sAug (f : T → T → Option T) (i : Nat) (d : DE) : sAug f i d S = (slot S i).bind fun t => (d S).bind fun p => if t.noOw then (f t p.1).bind fun z => some (.nx, setS p.2 i (some z)) else none := rfl
@[simp] theorem r_sFor (d : DI) (g : DG) (b : DS) : sFor d g b S = (d S).bind fun p => forGo g b p.1 p.2 := rfl
@[simp] theorem r_tYesD : tYesD S = some (true, S) := rfl
@[simp] theorem r_dLc (own : List Nat) (d : DI) (g : DG) (tt : DT) (te : DE) : dLc own d g tt te S = (d S).bind fun p => (lcGo own g tt te p.1 [] (wipeS p.2 own)).bind fun q => some (.lst .ow q.1, q.2) := rfl
@[simp] theorem r_wipe (τ : List (Option T)) (O : List Ob) (own : List Nat) : wipeS (τ, O) own = (own.foldl (fun τ i => τ.set i none) τ, O) := rfl
@[simp] theorem r_iSeq (d : DE) : iSeq d S = (d S).bind fun p => (itemsOf p.1).bind fun ts => some (ts, p.2) := rfl
@[simp] theorem itemsOf_lst (m : Mk) (xs : List T) : itemsOf (.lst m xs) = if noOws xs then some xs else none := rfl
@[simp] theorem itemsOf_tup (xs : List T) : itemsOf (.tup xs) = if noOws xs then some xs else none := rfl
@[simp] theorem itemsOf_str (z : Str) : itemsOf (.str z) = some (signsOf z) := rfl
@[simp] theorem r_iRv (a : DA) : iRv a S = (a S).bind fun p => (temps p.1).bind fun ts => match ts with
  | [.lst _ xs] => if noOws xs then some (xs.reverse, p.2) else none
  | _ => none := rfl
@[simp] theorem r_iEn (a : DA) : iEn a S = (a S).bind fun p => (temps p.1).bind fun ts => match ts with
  | [.lst _ xs] => if noOws xs then some (enumT 0 xs, p.2) else none
  | _ => none := rfl
@[simp] theorem r_iZp (a : DA) : iZp a S = (a S).bind fun p => (temps p.1).bind fun ts => match ts with
  | [x, y] => (zipOf x y).bind fun us => some (us, p.2)
  | _ => none := rfl
@[simp] theorem r_iR1 (a : DA) : iR1 a S = (a S).bind fun p => (temps p.1).bind fun ts => match ts with
  | [.int j] => if okR j then some (rangeT 0 1 j.toNat, p.2) else none
  | _ => none := rfl
@[simp] theorem r_iR2 (a : DA) : iR2 a S = (a S).bind fun p => (temps p.1).bind fun ts => match ts with
  | [.int i, .int j] => if okR i && okR j then some (rangeT i 1 (j - i).toNat, p.2) else none
  | _ => none := rfl
@[simp] theorem r_iR3 (a : DA) : iR3 a S = (a S).bind fun p => (temps p.1).bind fun ts => match ts with
  | [.int i, .int j, .int (-1)] => if okR i && okR j then some (rangeT i (-1) (i - j).toNat, p.2) else none
  | _ => none := rfl
@[simp] theorem r_sPar (i j : Nat) (a : DA) : sPar i j a S = (a S).bind fun p => match p.1 with
  | [.tmp t, .tmp u] => if i < p.2.1.length ∧ j < p.2.1.length ∧ i ≠ j then some (.nx, setS (setS p.2 i (some t)) j (some u)) else none
  | _ => none := rfl
@[simp] theorem r_dM1 (f : T → T → Option T) (a b : DE) : dM1 f a b S = (a S).bind fun p => if isS p.1 then (b p.2).bind fun q => (f p.1 q.1).bind fun z => some (z, q.2) else none := rfl
@[simp] theorem isS_str (x : Str) : isS (.str x) = true := rfl
@[simp] theorem r_dApp (i : Nat) (d : DE) : dApp i d S = (getL S i).bind fun _ => (d S).bind fun p => (getL p.2 i).bind fun xs => if xs.length < sizeLine then (putL p.2 i (xs ++ [p.1])).bind fun S' => some (.non, S') else none := rfl
@[simp] theorem r_dExt (i : Nat) (a : DO) : dExt i a S = (getL S i).bind fun _ => (a S).bind fun p => (p.1.res p.2).bind fun y => (getL p.2 i).bind fun xs => match y with
  | .lst m ys => if (m ≠ .sc ∧ noOws ys = true) ∧ xs.length + ys.length ≤ sizeLine then (putL p.2 i (xs ++ ys)).bind fun S' => some (.non, S') else none
  | _ => none := rfl
@[simp] theorem r_dPopL (i : Nat) : dPopL i S = (getL S i).bind fun xs => (xs[xs.length - 1]?).bind fun t => if t.noOw then (putL S i xs.dropLast).bind fun S' => some (t, S') else none := rfl
@[simp] theorem r_gIx (i : Nat) (d : DE) (t : T) : gIx i d t S = (getL S i).bind fun _ => (d S).bind fun p => (getL p.2 i).bind fun xs => match p.1 with
  | .int k => (ixN xs.length k).bind fun j => putL p.2 i (xs.set j t)
  | _ => none := rfl
@[simp] theorem r_dHnd (d : DE) : dHnd d S = (d S).bind fun p => match p.1 with
  | .lst .ow xs => if noBrs xs then some (.hnd p.2.2.length, (p.2.1, p.2.2 ++ [.lst xs])) else none
  | _ => none := rfl
end
theorem getL_ow {τ : List (Option T)} {O : List Ob} {i : Nat} {xs : List T} (h : τ[i]? = some (some (.lst .ow xs))) : getL (τ, O) i = some xs := by
  unfold getL slot
  show (match (τ[i]?).join with | some (.lst .ow xs) => some xs | some (.hnd n) => _ | _ => none) = _
  rw [h]; rfl
theorem putL_ow {τ : List (Option T)} {O : List Ob} {i : Nat} {xs ys : List T} (h : τ[i]? = some (some (.lst .ow xs))) : putL (τ, O) i ys = some (τ.set i (some (.lst .ow ys)), O) := by
  unfold putL slot
  show (match (τ[i]?).join with | some (.hnd n) => _ | _ => some (setS (τ, O) i (some (.lst .ow ys)))) = _
  rw [h]; rfl
theorem getL_hnd {τ : List (Option T)} {O : List Ob} {i n : Nat} {xs : List T} (h : τ[i]? = some (some (.hnd n))) (h2 : O[n]? = some (.lst xs)) : getL (τ, O) i = some xs := by
  unfold getL slot
  show (match (τ[i]?).join with | some (.lst .ow xs) => some xs | some (.hnd n) => (match O[n]? with | some (.lst xs) => some xs | _ => none) | _ => none) = _
  rw [h]
  show (match O[n]? with | some (.lst xs) => some xs | _ => none) = _
  rw [h2]
theorem putL_hnd {τ : List (Option T)} {O : List Ob} {i n : Nat} {ys : List T} (h : τ[i]? = some (some (.hnd n))) (hb : noBrs ys = true) : putL (τ, O) i ys = some (τ, O.set n (.lst ys)) := by
  unfold putL slot
  show (match (τ[i]?).join with | some (.hnd n) => (if noBrs ys then some (τ, O.set n (.lst ys)) else none) | _ => some (setS (τ, O) i (some (.lst .ow ys)))) = _
  rw [h]
  show (if noBrs ys then some (τ, O.set n (.lst ys)) else none) = _
  rw [hb]; rfl
theorem view_hnd {τ : List (Option T)} {O : List Ob} {n : Nat} {xs : List T} (h : O[n]? = some (.lst xs)) : view (τ, O) (.hnd n) = .lst .ow xs := by
  unfold view
  show (match O[n]? with | some (.lst xs) => T.lst .ow xs | _ => .hnd n) = _
  rw [h]
/-! ### operations -/
@[simp] theorem fAdd_int (i j : Int) : fAdd (.int i) (.int j) = some (.int (i + j)) := rfl
@[simp] theorem fAdd_str (x y : Str) : fAdd (.str x) (.str y) = if x.length + y.length ≤ sizeLine then some (.str (x ++ y)) else none := rfl
@[simp] theorem fSub_int (i j : Int) : fSub (.int i) (.int j) = some (.int (i - j)) := rfl
@[simp] theorem fMul_int (i j : Int) : fMul (.int i) (.int j) = if smallI i || smallI j then some (.int (i * j)) else none := rfl
@[simp] theorem fDiv_int (i j : Int) : fDiv (.int i) (.int j) = if okDiv i j then some (.int (i / j)) else none := rfl
@[simp] theorem fMod_int (i j : Int) : fMod (.int i) (.int j) = if decide (0 < j) then some (.int (i % j)) else none := rfl
@[simp] theorem fPow_int (i j : Int) : fPow (.int i) (.int j) = if decide (0 ≤ j ∧ j ≤ 1000000 ∧ i.natAbs < 2 ^ 64) then some (.int (i ^ j.toNat)) else none := rfl
@[simp] theorem fNeg_int (i : Int) : fNeg (.int i) = some (.int (-i)) := rfl
@[simp] theorem fLt_int (i j : Int) : fLt (.int i) (.int j) = some (.bl (decide (i < j))) := rfl
@[simp] theorem fLe_int (i j : Int) : fLe (.int i) (.int j) = some (.bl (decide (i ≤ j))) := rfl
@[simp] theorem fGt_int (i j : Int) : fGt (.int i) (.int j) = some (.bl (decide (j < i))) := rfl
@[simp] theorem fGe_int (i j : Int) : fGe (.int i) (.int j) = some (.bl (decide (j ≤ i))) := rfl
@[simp] theorem fIsN_non (x : T) : fIsN x .non = some (.bl x.isN) := rfl
@[simp] theorem fNotN_non (x : T) : fNotN x .non = some (.bl (!x.isN)) := rfl
@[simp] theorem isN_non : T.isN .non = true := rfl
@[simp] theorem isN_int (i : Int) : T.isN (.int i) = false := rfl
@[simp] theorem isN_str (i : Str) : T.isN (.str i) = false := rfl
@[simp] theorem isN_bl (i : Bool) : T.isN (.bl i) = false := rfl
@[simp] theorem isN_lst (m : Mk) (xs : List T) : T.isN (.lst m xs) = false := rfl
@[simp] theorem isN_tup (xs : List T) : T.isN (.tup xs) = false := rfl
@[simp] theorem fEq_int (i j : Int) : fEq (.int i) (.int j) = some (.bl (decide (i = j))) := rfl
@[simp] theorem fEq_str (i j : Str) : fEq (.str i) (.str j) = some (.bl (decide (i = j))) := rfl
@[simp] theorem fEq_bl (i j : Bool) : fEq (.bl i) (.bl j) = some (.bl (decide (i = j))) := rfl
@[simp] theorem fNe_int (i j : Int) : fNe (.int i) (.int j) = some (.bl (!decide (i = j))) := rfl
@[simp] theorem fNe_str (i j : Str) : fNe (.str i) (.str j) = some (.bl (!decide (i = j))) := rfl
@[simp] theorem fNe_bl (i j : Bool) : fNe (.bl i) (.bl j) = some (.bl (!decide (i = j))) := rfl
@[simp] theorem fLen_lst (m : Mk) (xs : List T) : fLen [.lst m xs] = some (.int xs.length) := rfl
@[simp] theorem fLen_tup (xs : List T) : fLen [.tup xs] = some (.int xs.length) := rfl
@[simp] theorem fLen_str (z : Str) : fLen [.str z] = if z.length ≤ sizeLine then some (.int z.length) else none := rfl
@[simp] theorem fIx_lst (m : Mk) (xs : List T) (i : Int) : fIx (.lst m xs) (.int i) = (atI xs i).bind fun t => if t.noOw then some t else none := rfl
@[simp] theorem fIx_tup (xs : List T) (i : Int) : fIx (.tup xs) (.int i) = (atI xs i).bind fun t => if t.noOw then some t else none := rfl
@[simp] theorem fIx_str (z : Str) (i : Int) : fIx (.str z) (.int i) = if z.length ≤ sizeLine then (atI z.cps.toList i).bind fun c => some (.str ⟨#[c]⟩) else none := rfl
@[simp] theorem fSl_lst (m : Mk) (xs : List T) (lo hi : Option Int) : fSl (.lst m xs) lo hi = if noOws xs then some (.lst .ow (cutT xs lo hi)) else none := rfl
@[simp] theorem tyName_int (i : Int) : tyName (.int i) = some "int" := rfl
@[simp] theorem tyName_bl (i : Bool) : tyName (.bl i) = some "bool" := rfl
@[simp] theorem tyName_str (i : Str) : tyName (.str i) = some "str" := rfl
@[simp] theorem tyName_non : tyName .non = some "NoneType" := rfl
@[simp] theorem tyName_lst (m : Mk) (xs : List T) : tyName (.lst m xs) = some "list" := rfl
@[simp] theorem tyName_tup (xs : List T) : tyName (.tup xs) = some "tuple" := rfl
@[simp] theorem fIsi_eq (b : String) (t : T) : fIsi b t = (tyName t).bind fun n => some (.bl (tyIs n b)) := rfl
@[simp] theorem fIsi2_eq (b c : String) (t : T) : fIsi2 b c t = (tyName t).bind fun n => some (.bl (tyIs n b || tyIs n c)) := rfl
theorem atI_map {α β : Type} (f : α → β) (l : List α) (i : Int) : atI (l.map f) i = (atI l i).map f := by
  unfold atI
  rw [List.length_map]
  cases ixN l.length i with
  | none => rfl
  | some j => exact List.getElem?_map
@[simp] theorem atI_map_int (l : List Int) (i : Int) : atI (l.map T.int) i = (atI l i).map T.int := atI_map _ _ _
@[simp] theorem atI_zero {α : Type} (x : α) (l : List α) : atI (x :: l) 0 = some x := by
  unfold atI ixN
  rw [if_pos (Int.le_refl 0), if_pos (by simp only [List.length_cons]; omega)]
  rfl
theorem atI_nat {α : Type} {l : List α} {i : Int} {j : Nat} (h : i = j) (hj : j < l.length) : atI l i = l[j]? := by
  unfold atI ixN
  rw [h, if_pos (by omega), if_pos (by omega)]
  rfl
theorem atI_last {α : Type} {l : List α} (h : l ≠ []) : atI l (-1) = some (l.getLast h) := by
  have hl : 0 < l.length := List.length_pos_iff.mpr h
  unfold atI ixN
  rw [if_neg (by omega), if_pos (by omega)]
  show l[(-1 + (l.length : Int)).toNat]? = _
  rw [show (-1 + (l.length : Int)).toNat = l.length - 1 by omega, ← List.getLast?_eq_getElem?, List.getLast?_eq_some_getLast h]
/-! ### cuts -/
theorem cutT_to (xs : List T) (k : Nat) : cutT xs none (some (k : Int)) = xs.take k := by
  unfold cutT HT.sIx
  show List.take ((if (k : Int) < 0 then ((k : Int) + (xs.length : Int)).toNat else min (k : Int).toNat xs.length) - 0) (List.drop 0 xs) = _
  rw [if_neg (by omega), Nat.sub_zero, List.drop_zero, Int.toNat_natCast, List.take_eq_take_iff]
  omega
theorem cutT_from (xs : List T) (k : Nat) : cutT xs (some (k : Int)) none = xs.drop k := by
  unfold cutT HT.sIx
  show List.take (xs.length - (if (k : Int) < 0 then ((k : Int) + (xs.length : Int)).toNat else min (k : Int).toNat xs.length)) (List.drop (if (k : Int) < 0 then ((k : Int) + (xs.length : Int)).toNat else min (k : Int).toNat xs.length) xs) = _
  rw [if_neg (by omega), Int.toNat_natCast]
  by_cases h : k ≤ xs.length
  · rw [Nat.min_eq_left h, List.take_of_length_le (by rw [List.length_drop]; exact Nat.le_refl _)]
  · rw [Nat.min_eq_right (by omega), List.drop_of_length_le (Nat.le_refl _), List.drop_of_length_le (by omega)]
    simp
theorem cutT_mid (xs : List T) (i j : Nat) : cutT xs (some (i : Int)) (some (j : Int)) = (xs.take j).drop i := by
  unfold cutT HT.sIx
  show List.take ((if (j : Int) < 0 then ((j : Int) + (xs.length : Int)).toNat else min (j : Int).toNat xs.length) - (if (i : Int) < 0 then ((i : Int) + (xs.length : Int)).toNat else min (i : Int).toNat xs.length)) (List.drop (if (i : Int) < 0 then ((i : Int) + (xs.length : Int)).toNat else min (i : Int).toNat xs.length) xs) = _
  rw [if_neg (by omega), if_neg (by omega), Int.toNat_natCast, Int.toNat_natCast, List.drop_take]
  by_cases h : i ≤ xs.length
  · rw [Nat.min_eq_left h, List.take_eq_take_iff, List.length_drop]
    omega
  · rw [Nat.min_eq_right (show xs.length ≤ i by omega), List.drop_of_length_le (Nat.le_refl _), List.drop_of_length_le (show xs.length ≤ i by omega)]
    simp
theorem cutT_last {xs : List T} (h : xs ≠ []) : cutT xs (some (-1)) none = [xs.getLast h] := by
  have hl : 0 < xs.length := List.length_pos_iff.mpr h
  unfold cutT HT.sIx
  show List.take (xs.length - (if (-1 : Int) < 0 then ((-1 : Int) + (xs.length : Int)).toNat else _)) (List.drop (if (-1 : Int) < 0 then ((-1 : Int) + (xs.length : Int)).toNat else _) xs) = _
  rw [if_pos (by omega), show (-1 + (xs.length : Int)).toNat = xs.length - 1 by omega, List.drop_eq_getElem_cons (show xs.length - 1 < xs.length by omega), List.getLast_eq_getElem, show xs.length - (xs.length - 1) = 1 by omega]
  rfl
/-! ### loops -/
@[simp] theorem forGo_nil (g : DG) (b : DS) (S : SS) : forGo g b [] S = some (.nx, S) := rfl
theorem forGo_cons (g : DG) (b : DS) (t : T) (ts : List T) (S : SS) : forGo g b (t :: ts) S = (g t S).bind fun S1 => (b S1).bind fun q => match q.1 with
    | .nx => forGo g b ts q.2
    | .ct => forGo g b ts q.2
    | .bk => some (.nx, q.2)
    | .rt r => some (.rt r, q.2) := rfl
/-- a turn that goes on -/
theorem forGo_step {g : DG} {b : DS} {t : T} {ts : List T} {S S' : SS} {r : Option (Fl × SS)} (h : (g t S).bind b = some (.nx, S')) (hr : forGo g b ts S' = r) : forGo g b (t :: ts) S = r := by
  rw [forGo_cons]
  obtain ⟨S1, h1, h2⟩ := Option.bind_eq_some_iff.mp h
  rw [h1, Option.bind_some, h2, Option.bind_some]
  exact hr
/-- an invariant of what is still to come -/
theorem forGo_ind {g : DG} {b : DS} (I : List T → SS → Prop) (hs : ∀ t ts S, I (t :: ts) S → ∃ S', (g t S).bind b = some (.nx, S') ∧ I ts S') : ∀ ts S, I ts S → ∃ S', forGo g b ts S = some (.nx, S') ∧ I [] S'
  | [], S, h => ⟨S, rfl, h⟩
  | t :: ts, S, h => by
    obtain ⟨S1, h1, h2⟩ := hs t ts S h
    obtain ⟨S2, h3, h4⟩ := forGo_ind I hs ts S1 h2
    exact ⟨S2, forGo_step h1 h3, h4⟩
@[simp] theorem lcGo_nil (own : List Nat) (g : DG) (tt : DT) (te : DE) (acc : List T) (S : SS) : lcGo own g tt te [] acc S = some (acc, S) := rfl
theorem lcGo_cons (own : List Nat) (g : DG) (tt : DT) (te : DE) (t : T) (ts acc : List T) (S : SS) : lcGo own g tt te (t :: ts) acc S = (g t S).bind fun S1 => (tt S1).bind fun p => if p.1 = true then (te p.2).bind fun q => if acc.length < sizeLine then lcGo own g tt te ts (acc ++ [q.1]) (wipeS q.2 own) else none
      else lcGo own g tt te ts acc (wipeS p.2 own) := rfl
/-- a comprehension that leaves the slots as they are: what stands for each item, or nothing -/
theorem lcGo_map {own : List Nat} {g : DG} {tt : DT} {te : DE} {S : SS} {f : T → Option T} : ∀ {ts acc : List T}, (∀ t ∈ ts, ∃ S1, g t S = some S1 ∧ match f t with
      | some u => ∃ S2 S3, tt S1 = some (true, S2) ∧ te S2 = some (u, S3) ∧ wipeS S3 own = S
      | none => ∃ S2, tt S1 = some (false, S2) ∧ wipeS S2 own = S) → acc.length + ts.length ≤ sizeLine → lcGo own g tt te ts acc S = some (acc ++ ts.filterMap f, S)
  | [], acc, _, _ => by simp
  | t :: ts, acc, h, hl => by
    obtain ⟨S1, h1, h2⟩ := h t (by simp)
    rw [lcGo_cons, h1, Option.bind_some]
    rw [List.length_cons] at hl
    cases hf : f t with
    | some u =>
      rw [hf] at h2
      obtain ⟨S2, S3, h3, h4, h5⟩ := h2
      rw [h3, Option.bind_some, if_pos rfl, h4, Option.bind_some, if_pos (by omega), h5, lcGo_map (fun t m => h t (List.mem_cons_of_mem _ m)) (by simp; omega), List.filterMap_cons, hf, List.append_assoc]
      rfl
    | none =>
      rw [hf] at h2
      obtain ⟨S2, h3, h5⟩ := h2
      rw [h3, Option.bind_some, if_neg (by simp), h5, lcGo_map (fun t m => h t (List.mem_cons_of_mem _ m)) (by omega), List.filterMap_cons, hf]
/-- .. every item has its tree -/
theorem lcGo_all {own : List Nat} {g : DG} {te : DE} {S : SS} {α : Type} (f : α → T) (inj : α → T) {ts : List α} (h : ∀ a ∈ ts, ∃ S1 S3, g (inj a) S = some S1 ∧ te S1 = some (f a, S3) ∧ wipeS S3 own = S) (hl : ts.length ≤ sizeLine) : lcGo own g tYesD te (ts.map inj) [] S = some (ts.map f, S) := by
  have go : ∀ (ts : List α) (acc : List T), (∀ a ∈ ts, ∃ S1 S3, g (inj a) S = some S1 ∧ te S1 = some (f a, S3) ∧ wipeS S3 own = S) → acc.length + ts.length ≤ sizeLine → lcGo own g tYesD te (ts.map inj) acc S = some (acc ++ ts.map f, S) := by
    intro ts
    induction ts with
    | nil => intro acc _ _; simp
    | cons a ts ih =>
      intro acc h hl
      obtain ⟨S1, S3, h1, h2, h3⟩ := h a (by simp)
      rw [List.length_cons] at hl
      rw [List.map_cons, lcGo_cons, h1, Option.bind_some, r_tYesD, Option.bind_some, if_pos rfl, h2, Option.bind_some, if_pos (by omega), h3, ih _ (fun a m => h a (List.mem_cons_of_mem _ m)) (by simp; omega)]
      simp
  rw [go ts [] h (by simpa using hl)]
  simp
/-- .. filtered -/
theorem lcGo_if {own : List Nat} {g : DG} {tt : DT} {te : DE} {S : SS} {α : Type} (p : α → Bool) (f : α → T) (inj : α → T) {ts : List α} (h : ∀ a ∈ ts, ∃ S1 S2, g (inj a) S = some S1 ∧ tt S1 = some (p a, S2) ∧ (p a = true → ∃ S3, te S2 = some (f a, S3) ∧ wipeS S3 own = S) ∧ (p a = false → wipeS S2 own = S)) (hl : ts.length ≤ sizeLine) : lcGo own g tt te (ts.map inj) [] S = some ((ts.filter p).map f, S) := by
  have go : ∀ (ts : List α) (acc : List T), (∀ a ∈ ts, ∃ S1 S2, g (inj a) S = some S1 ∧ tt S1 = some (p a, S2) ∧ (p a = true → ∃ S3, te S2 = some (f a, S3) ∧ wipeS S3 own = S) ∧ (p a = false → wipeS S2 own = S)) → acc.length + ts.length ≤ sizeLine → lcGo own g tt te (ts.map inj) acc S = some (acc ++ (ts.filter p).map f, S) := by
    intro ts
    induction ts with
    | nil => intro acc _ _; simp
    | cons a ts ih =>
      intro acc h hl
      obtain ⟨S1, S2, h1, h2, h3, h4⟩ := h a (by simp)
      rw [List.length_cons] at hl
      rw [List.map_cons, lcGo_cons, h1, Option.bind_some, h2, Option.bind_some]
      cases hp : p a with
      | true =>
        obtain ⟨S3, h5, h6⟩ := h3 hp
        rw [if_pos rfl, h5, Option.bind_some, if_pos (by omega), h6, ih _ (fun a m => h a (List.mem_cons_of_mem _ m)) (by simp; omega), List.filter_cons_of_pos hp]
        simp
      | false =>
        rw [if_neg (by simp), h4 hp, ih _ (fun a m => h a (List.mem_cons_of_mem _ m)) (by omega), List.filter_cons_of_neg (by simp [hp])]
  rw [go ts [] h (by simpa using hl)]
  simp
end TL

set_option Elab.async false
set_option linter.all false
set_option maxRecDepth 100000
/-! TL16: trees that own nothing; the same, copied. -/
namespace TL
open PySem PySem.Spec L2
mutual
theorem frz_noOw : ∀ t : T, t.noOw = true → t.frz = t
  | .non, _ => rfl
  | .bl _, _ => rfl
  | .int _, _ => rfl
  | .str _, _ => rfl
  | .hnd _, _ => rfl
  | .tup xs, h => congrArg T.tup (frzs_noOw xs h)
  | .lst .ow _, h => by cases h
  | .lst .fz xs, h => congrArg (T.lst .fz) (frzs_noOw xs h)
  | .lst .br xs, h => congrArg (T.lst .br) (frzs_noOw xs h)
  | .lst .sc xs, h => congrArg (T.lst .sc) (frzs_noOw xs h)
  | .dic .ow _, h => by cases h
  | .dic .fz xs, h => congrArg (T.dic .fz) (frzK_noOw xs h)
  | .dic .br xs, h => congrArg (T.dic .br) (frzK_noOw xs h)
  | .dic .sc xs, h => congrArg (T.dic .sc) (frzK_noOw xs h)
theorem frzs_noOw : ∀ ts : List T, noOws ts = true → frzs ts = ts
  | [], _ => rfl
  | t :: ts, h => by
    have h2 := Bool.and_eq_true_iff.mp (show (t.noOw && noOws ts) = true from h)
    rw [frzs_cons, frz_noOw t h2.1, frzs_noOw ts h2.2]
theorem frzK_noOw : ∀ ts : List (Key × T), noOwK ts = true → frzK ts = ts
  | [], _ => rfl
  | (k, t) :: ts, h => by
    have h2 := Bool.and_eq_true_iff.mp (show (t.noOw && noOwK ts) = true from h)
    show (k, t.frz) :: frzK ts = _
    rw [frz_noOw t h2.1, frzK_noOw ts h2.2]
end
mutual
theorem brw_noOw : ∀ t : T, t.noOw = true → t.brw = t
  | .non, _ => rfl
  | .bl _, _ => rfl
  | .int _, _ => rfl
  | .str _, _ => rfl
  | .hnd _, _ => rfl
  | .tup xs, h => congrArg T.tup (brws_noOw xs h)
  | .lst .ow _, h => by cases h
  | .lst .fz xs, h => congrArg (T.lst .fz) (brws_noOw xs h)
  | .lst .br xs, h => congrArg (T.lst .br) (brws_noOw xs h)
  | .lst .sc xs, h => congrArg (T.lst .sc) (brws_noOw xs h)
  | .dic .ow _, h => by cases h
  | .dic .fz xs, h => congrArg (T.dic .fz) (brwK_noOw xs h)
  | .dic .br xs, h => congrArg (T.dic .br) (brwK_noOw xs h)
  | .dic .sc xs, h => congrArg (T.dic .sc) (brwK_noOw xs h)
theorem brws_noOw : ∀ ts : List T, noOws ts = true → brws ts = ts
  | [], _ => rfl
  | t :: ts, h => by
    have h2 := Bool.and_eq_true_iff.mp (show (t.noOw && noOws ts) = true from h)
    rw [brws_cons, brw_noOw t h2.1, brws_noOw ts h2.2]
theorem brwK_noOw : ∀ ts : List (Key × T), noOwK ts = true → brwK ts = ts
  | [], _ => rfl
  | (k, t) :: ts, h => by
    have h2 := Bool.and_eq_true_iff.mp (show (t.noOw && noOwK ts) = true from h)
    show (k, t.brw) :: brwK ts = _
    rw [brw_noOw t h2.1, brwK_noOw ts h2.2]
end
mutual
theorem noOw_frz : ∀ t : T, t.frz.noOw = true
  | .non => rfl
  | .bl _ => rfl
  | .int _ => rfl
  | .str _ => rfl
  | .hnd _ => rfl
  | .tup xs => noOws_frz xs
  | .lst .ow xs => noOws_frz xs
  | .lst .fz xs => noOws_frz xs
  | .lst .br xs => noOws_frz xs
  | .lst .sc xs => noOws_frz xs
  | .dic .ow xs => noOwK_frz xs
  | .dic .fz xs => noOwK_frz xs
  | .dic .br xs => noOwK_frz xs
  | .dic .sc xs => noOwK_frz xs
theorem noOws_frz : ∀ ts : List T, noOws (frzs ts) = true
  | [] => rfl
  | t :: ts => by
    show (t.frz.noOw && noOws (frzs ts)) = true
    rw [noOw_frz t, noOws_frz ts]; rfl
theorem noOwK_frz : ∀ ts : List (Key × T), noOwK (frzK ts) = true
  | [] => rfl
  | (k, t) :: ts => by
    show (t.frz.noOw && noOwK (frzK ts)) = true
    rw [noOw_frz t, noOwK_frz ts]; rfl
end
mutual
theorem noOw_brw' : ∀ t : T, t.brw.noOw = true
  | .non => rfl
  | .bl _ => rfl
  | .int _ => rfl
  | .str _ => rfl
  | .hnd _ => rfl
  | .tup xs => noOws_brw xs
  | .lst .ow xs => noOws_brw xs
  | .lst .fz xs => noOws_brw xs
  | .lst .br xs => noOws_brw xs
  | .lst .sc xs => noOws_brw xs
  | .dic .ow xs => noOwK_brw xs
  | .dic .fz xs => noOwK_brw xs
  | .dic .br xs => noOwK_brw xs
  | .dic .sc xs => noOwK_brw xs
theorem noOws_brw : ∀ ts : List T, noOws (brws ts) = true
  | [] => rfl
  | t :: ts => by
    show (t.brw.noOw && noOws (brws ts)) = true
    rw [noOw_brw' t, noOws_brw ts]; rfl
theorem noOwK_brw : ∀ ts : List (Key × T), noOwK (brwK ts) = true
  | [] => rfl
  | (k, t) :: ts => by
    show (t.brw.noOw && noOwK (brwK ts)) = true
    rw [noOw_brw' t, noOwK_brw ts]; rfl
end
theorem use_eq {τ : List (Option T)} {O : List Ob} {i : Nat} {t : T} (h : τ[i]? = some (some t)) : dUse i (τ, O) = some (t.frz, (τ.set i (some t.frz), O)) := by
  show ((τ[i]?).join.bind fun t => if t.noOw then some (t, (τ, O)) else some (t.frz, (τ.set i (some t.frz), O))) = _
  rw [h]
  show (if t.noOw then some (t, (τ, O)) else some (t.frz, (τ.set i (some t.frz), O))) = _
  by_cases n : t.noOw = true
  · rw [if_pos n, frz_noOw t n]
    have e : τ.set i (some t) = τ := by
      refine List.ext_getElem? fun j => ?_
      by_cases ej : i = j
      · subst ej
        rw [List.getElem?_set_self (List.getElem?_eq_some_iff.mp h).1, h]
      · rw [List.getElem?_set_ne ej]
    rw [e]
  · rw [if_neg n]
theorem all_true : ∀ {α : Type} (l : List α), fAll [.lst .ow (l.map fun _ => T.bl true)] = some (.bl true) := fun l => by
  have : (l.map fun _ => T.bl true) = (l.map fun _ => true).map T.bl := by simp
  show (blsT (l.map fun _ => T.bl true)).bind _ = _
  rw [this, blsT_map]
  show some (T.bl ((l.map fun _ => true).all id)) = _
  simp
@[simp] theorem noOws_rev_int (l : List Int) : noOws (l.map T.int).reverse = true := by rw [← List.map_reverse]; exact noOws_map_int _
@[simp] theorem noBrs_rev_int (l : List Int) : noBrs (l.map T.int).reverse = true := by rw [← List.map_reverse]; exact noBrs_map_int _
@[simp] theorem brws_rev_int (l : List Int) : brws (l.map T.int).reverse = (l.map T.int).reverse := by rw [← List.map_reverse]; exact brws_map_int _
@[simp] theorem frzs_rev_int (l : List Int) : frzs (l.map T.int).reverse = (l.map T.int).reverse := by rw [← List.map_reverse]; exact frzs_map_int _
/-- the same as trees, marks aside -/
def Sm : Nat → T → T → Prop
  | 0, _, _ => False
  | _ + 1, .int i, .int j => i = j
  | _ + 1, .str i, .str j => i = j
  | _ + 1, .bl i, .bl j => i = j
  | _ + 1, .non, .non => True
  | n + 1, .lst _ xs, .lst _ ys => xs.length = ys.length ∧ xs.length ≤ sizeLine ∧ ∀ (i : Nat) (x y : T), xs[i]? = some x → ys[i]? = some y → Sm n x y
  | n + 1, .tup xs, .tup ys => xs.length = ys.length ∧ xs.length ≤ sizeLine ∧ ∀ (i : Nat) (x y : T), xs[i]? = some x → ys[i]? = some y → Sm n x y
  | _, _, _ => False
/-! ### == of lists of ints -/
theorem toPs_ints : ∀ l : List Int, toPs (l.map T.int) = some (l.map PyData.int)
  | [] => rfl
  | i :: l => by
    show (toPs (l.map T.int)).bind (fun ds => some (PyData.int i :: ds)) = _
    rw [toPs_ints l]; rfl
theorem lay_ints : ∀ l : List Int, PyData.canLayAll0 (l.map .int) = true
  | [] => by simp [PyData.canLayAll0]
  | i :: l => by simp [PyData.canLayAll0, lay_ints l, PyData.canLay0]
theorem depth_ints : ∀ l : List Int, PyData.depthAll (l.map .int) = 0
  | [] => by simp [PyData.depthAll]
  | i :: l => by simp [PyData.depthAll, depth_ints l, PyData.depth]
theorem eqv_ints : ∀ l r : List Int, PyData.eqvAll (l.map .int) (r.map .int) = decide (l = r)
  | [], [] => by simp [PyData.eqvAll]
  | [], _ :: _ => by simp [PyData.eqvAll]
  | _ :: _, [] => by simp [PyData.eqvAll]
  | i :: l, j :: r => by
    simp only [List.map_cons, PyData.eqvAll, PyData.eqv, eqv_ints l r]
    by_cases h : i = j
    · by_cases h2 : l = r <;> simp [h, h2]
    · simp [h]
theorem eqT_ints (m m' : Mk) (l r : List Int) : eqT (.lst m (l.map T.int)) (.lst m' (r.map T.int)) = some (decide (l = r)) := by
  have e : ∀ (m : Mk) (l : List Int), T.toP (.lst m (l.map T.int)) = some (.list (l.map .int)) := fun m l => by
    show (toPs (l.map T.int)).bind (fun ds => some (PyData.list ds)) = _
    rw [toPs_ints]; rfl
  have s : ∀ l : List Int, SeqAt.shaped (.list (l.map .int)) = true := fun l => by
    simp [SeqAt.shaped, PyData.canLay0, lay_ints, PyData.depth, depth_ints]
  show ((T.toP (.lst m (l.map T.int))).bind fun d => (T.toP (.lst m' (r.map T.int))).bind fun e => if SeqAt.shaped d && SeqAt.shaped e then some (PyData.eqv d e) else none) = _
  rw [e, e, Option.bind_some, Option.bind_some, s, s]
  show some (PyData.eqv _ _) = _
  simp only [PyData.eqv, eqv_ints]
@[simp] theorem fEq_ints (m m' : Mk) (l r : List Int) : fEq (.lst m (l.map T.int)) (.lst m' (r.map T.int)) = some (.bl (decide (l = r))) := by
  unfold fEq; rw [eqT_ints]; rfl
@[simp] theorem fNe_ints (m m' : Mk) (l r : List Int) : fNe (.lst m (l.map T.int)) (.lst m' (r.map T.int)) = some (.bl (!decide (l = r))) := by
  unfold fNe; rw [eqT_ints]; rfl
theorem popL_ow {τ : List (Option T)} {O : List Ob} {i : Nat} {xs : List T} {t : T} (h : τ[i]? = some (some (.lst .ow xs))) (ht : xs.getLast? = some t) (no : t.noOw = true) : dPopL i (τ, O) = some (t, (τ.set i (some (.lst .ow xs.dropLast)), O)) := by
  rw [r_dPopL, getL_ow h, Option.bind_some, ← List.getLast?_eq_getElem?, ht, Option.bind_some, if_pos no, putL_ow h]
  rfl
end TL

set_option Elab.async false
set_option linter.all false
set_option maxRecDepth 100000
set_option maxHeartbeats 0
namespace Wk08
open PySem PySem.Spec L2 TL
def top (i : Nat) : Stmt := PySem.Challenge.pw_campcarry_k08_whole_measures_and_sizes.main.body.getD i (.Pass ⟨0, 0, 0, 0⟩)
def k_MOST_SIZES : T := (.int 5)
def k_MOST_FIRST : T := (.int 100)
def k_LEAST_TIMES : T := (.int 2)
def k_MOST_TIMES : T := (.int 12)
def k_FIGURES : T := (.str "0123456789")
def k_MOST_FIGURES : T := (.int 9)
def k_WEIGHT_UNITS : T := (.tup [(.tup [(.str "c"), (.int 112)]), (.tup [(.str "s"), (.int 14)]), (.tup [(.str "p"), (.int 1)])])
structure Txt (K : PySem.W.Frag) (mg : Str → Option Value) : Prop where
  b_abs : mg "abs" = none
  b_all : mg "all" = none
  b_bool : mg "bool" = none
  b_enumerate : mg "enumerate" = none
  b_int : mg "int" = none
  b_isinstance : mg "isinstance" = none
  b_len : mg "len" = none
  b_list : mg "list" = none
  b_max : mg "max" = none
  b_range : mg "range" = none
  b_reversed : mg "reversed" = none
  b_str : mg "str" = none
  b_sum : mg "sum" = none
  b_tuple : mg "tuple" = none
  b_zip : mg "zip" = none
  c_MOST_SIZES : GC K mg "MOST_SIZES" k_MOST_SIZES
  c_MOST_FIRST : GC K mg "MOST_FIRST" k_MOST_FIRST
  c_LEAST_TIMES : GC K mg "LEAST_TIMES" k_LEAST_TIMES
  c_MOST_TIMES : GC K mg "MOST_TIMES" k_MOST_TIMES
  c_FIGURES : GC K mg "FIGURES" k_FIGURES
  c_MOST_FIGURES : GC K mg "MOST_FIGURES" k_MOST_FIGURES
  c_WEIGHT_UNITS : GC K mg "WEIGHT_UNITS" k_WEIGHT_UNITS
section
variable {P : Program} {w : World} {K : PySem.W.Frag} {mg : Str → Option Value} {base : Heap} {ca : Str → Addr}
/-! whole_number -/
def b_whole_number : DS :=
    (sRet (dAndD (d1 (fIsi "int") (oBorS 0)) (dNotD (d1 (fIsi "bool") (oBorS 0)))))
def d_whole_number : DF := dFn 1 b_whole_number
theorem sc_whole_number : FnScope ["thing"] ["thing"] (defScope (top 5)) := ⟨rfl, rfl, rfl, by decide +kernel, rfl, by decide +kernel, by decide +kernel⟩
theorem ok_whole_number (tx : Txt K mg) {f : Addr} {fd : FuncData} (F : FnP K "whole_number" (top 5) f fd) : FnOk P w K mg base CX0 1 f fd ["thing"] (spT K ca 1 d_whole_number) :=
  fn_okD F sc_whole_number (by decide) (fun cdv A outer s H E hr =>
    (bx_one (sx_ret (ex_and (ex_isi tx.b_isinstance tx.b_int (ox_borS (pv 0))) (ex_one (ex_not (ex_isi tx.b_isinstance tx.b_bool (ox_borS (pv 0)))))))))
/-! follows_size -/
def b_follows_size : DS :=
    (sRet (dAndD (d2 fEq (oTmp (d2 fMod (oBorS 1) (oBorS 0))) (oTmp (dC (.int 0)))) (dChain fLe fLe (dC k_LEAST_TIMES) (d2 fDiv (oBorS 1) (oBorS 0)) (dC k_MOST_TIMES))))
def d_follows_size : DF := dFn 2 b_follows_size
theorem sc_follows_size : FnScope ["size", "other"] ["size", "other"] (defScope (top 6)) := ⟨rfl, rfl, rfl, by decide +kernel, rfl, by decide +kernel, by decide +kernel⟩
theorem ok_follows_size (tx : Txt K mg) {f : Addr} {fd : FuncData} (F : FnP K "follows_size" (top 6) f fd) : FnOk P w K mg base CX0 1 f fd ["size", "other"] (spT K ca 2 d_follows_size) :=
  fn_okD F sc_follows_size (by decide) (fun cdv A outer s H E hr =>
    (bx_one (sx_ret (ex_and (ex_cmp (op_eqA hr.units) o2_eq (ox_tmp (ex_op op_mod o2_mod (ox_borS (pv 1)) (ox_borS (pv 0)))) (ox_tmp ex_int) (nomark _)) (ex_one (ex_chain op_leA o2_le op_leA o2_le (ex_gc tx.c_LEAST_TIMES) (ex_op op_fdivW o2_div (ox_borS (pv 1)) (ox_borS (pv 0))) (ex_gc tx.c_MOST_TIMES)))))))
/-! is_sizes -/
def b_is_sizes : DS :=
    (sSeq (sIf (tOrD (tNotD (tOf (d1 (fIsi "list") (oBorS 0)))) (tNotD (tOf (dChain fLe fLe (dC (.int 1)) (dB fLen (aCons (oBorS 0) aNil)) (dC k_MOST_SIZES))))) (sRet (dC (.bl false))) sNil)
    (sSeq (sIf (tOrD (tNotD (tOf (dB fAll (aCons (oTmp (dLc [3] (iSeq (dUse 0)) (gNm 3) tYesD (dCall d_whole_number (aCons (oBorS 3) aNil)))) aNil)))) (tNotD (tOf (dChain fLe fLe (dC (.int 1)) (d2 fIx (oAuto 0) (oTmp (dC (.int 0)))) (dC k_MOST_FIRST))))) (sRet (dC (.bl false))) sNil)
    (sSeq (sFor (iZp (aCons (oTmp (dUse 0)) (aCons (oTmp (d3 fSl (oAuto 0) (pSome (dC (.int 1))) pNone)) aNil))) (gTp [(gNm 1), (gNm 2)]) (sIf (tNotD (tOf (dCall d_follows_size (aCons (oBorS 1) (aCons (oBorS 2) aNil))))) (sRet (dC (.bl false))) sNil))
    (sRet (dC (.bl true))))))
def d_is_sizes : DF := dFn 4 b_is_sizes
theorem sc_is_sizes : FnScope ["thing", "size", "other", "one"] ["thing"] (defScope (top 7)) := ⟨rfl, rfl, rfl, by decide +kernel, rfl, by decide +kernel, by decide +kernel⟩
theorem ok_is_sizes (tx : Txt K mg) {f : Addr} {fd : FuncData} (F : FnP K "is_sizes" (top 7) f fd) (C_whole_number : Callee P w K mg base ca "whole_number" ["thing"] 1 d_whole_number) (C_follows_size : Callee P w K mg base ca "follows_size" ["size", "other"] 1 d_follows_size) : FnOk P w K mg base CX0 2 f fd ["thing"] (spT K ca 1 d_is_sizes) :=
  fn_okD F sc_is_sizes (by decide) (fun cdv A outer s H E hr =>
    (bx_cons (sx_if (PW.pt (wx_or (tx_not (tx_val (ex_isi tx.b_isinstance tx.b_list (ox_borS (pv 0))))) (wx_or1 (tx_not (tx_chain op_leA o2_le op_leA o2_le ex_int (ex_callB call_lenAny on_len tx.b_len (ax_cons (ox_borS (pv 0)) ax_nil)) (ex_gc tx.c_MOST_SIZES)))))) (bx_one (sx_ret ex_bl)) bx_nil)
    (bx_cons (sx_if (PW.pt (wx_or (tx_not (tx_val (ex_callB (cr_all rfl) on_all tx.b_all (ax_cons (ox_tmp (ex_lc (own := [("one", 3)]) (by decide) rfl sc_is_sizes.nd (ix_seq' (ex_use (pv 0))) (blkOk_by (own := [("one", 3)]) (by rfl)) (fun _ _ _ _ _ => (gx_name sc_is_sizes.nd rfl (by first | exact Or.inl rfl | exact Or.inr rfl))) (fun _ _ _ _ _ => tsx_nil) (fun _ _ _ _ _ => (ex_call C_whole_number (hr.mono (by omega)) (ax_cons (ox_borS (pv 3)) ax_nil) (aCons_len aNil_len))))) ax_nil)))) (wx_or1 (tx_not (tx_chain op_leA o2_le op_leA o2_le ex_int (ex_ix (ox_auto (pv 0)) (ox_tmp ex_int) (fun _ _ => rfl)) (ex_gc tx.c_MOST_FIRST)))))) (bx_one (sx_ret ex_bl)) bx_nil)
    (bx_cons (sx_for PassesOwn.never rfl (ix_zip tx.b_zip (ax_cons (ox_tmp (ex_use (pv 0))) (ax_cons (ox_tmp (ex_sl (ox_auto (pv 0)) (px_some ex_int) px_none)) ax_nil))) (gx_tup rfl (gsx_cons (gx_name sc_is_sizes.nd rfl (by first | exact Or.inl rfl | exact Or.inr rfl)) (gsx_cons (gx_name sc_is_sizes.nd rfl (by first | exact Or.inl rfl | exact Or.inr rfl)) gsx_nil))) (bx_one (sx_if (tx_not (tx_val (ex_call C_follows_size (hr.mono (by omega)) (ax_cons (ox_borS (pv 1)) (ax_cons (ox_borS (pv 2)) ax_nil)) (aCons_len (aCons_len aNil_len))))) (bx_one (sx_ret ex_bl)) bx_nil)))
    (bx_one (sx_ret ex_bl))))))
/-! parcels_of -/
def b_parcels_of : DS :=
    (sSeq (sAsg (d2 fAdd (oBorS 1) (oTmp (d2 fMod (oTmp (d1 fNeg (oBorS 1))) (oTmp (d2 fIx (oAuto 0) (oTmp (dC (.int 0)))))))) (gNm 2))
    (sSeq (sAsg (dLst aNil) (gNm 3))
    (sSeq (sFor (iRv (aCons (oTmp (dUse 0)) aNil)) (gNm 4) (sSeq (sDrop (dExt 3 (oTmp (d2 fMul (oTmp (dLst (aCons (oTmp (dUse 4)) aNil))) (oTmp (d2 fDiv (oBorS 2) (oBorS 4)))))))
    (sAsg (d2 fMod (oBorS 2) (oBorS 4)) (gNm 2))))
    (sRet (dMov 3)))))
def d_parcels_of : DF := dFn 5 b_parcels_of
theorem sc_parcels_of : FnScope ["sizes", "amount", "left", "found", "size"] ["sizes", "amount"] (defScope (top 8)) := ⟨rfl, rfl, rfl, by decide +kernel, rfl, by decide +kernel, by decide +kernel⟩
theorem ok_parcels_of (tx : Txt K mg) {f : Addr} {fd : FuncData} (F : FnP K "parcels_of" (top 8) f fd) : FnOk P w K mg base CX0 1 f fd ["sizes", "amount"] (spT K ca 2 d_parcels_of) :=
  fn_okD F sc_parcels_of (by decide) (fun cdv A outer s H E hr =>
    (bx_cons (sx_set (i := 2) sc_parcels_of.nd rfl (by first | exact Or.inl rfl | exact Or.inr rfl) (ex_op op_addAny o2_add (ox_borS (pv 1)) (ox_tmp (ex_op op_mod o2_mod (ox_tmp (ex_un un_neg o1_neg (ox_borS (pv 1)))) (ox_tmp (ex_ix (ox_auto (pv 0)) (ox_tmp ex_int) (fun _ _ => rfl)))))))
    (bx_cons (sx_set (i := 3) sc_parcels_of.nd rfl (by first | exact Or.inl rfl | exact Or.inr rfl) (ex_lst ax_nil))
    (bx_cons (sx_for PassesOwn.never rfl (ix_rev tx.b_reversed (ax_cons (ox_tmp (ex_use (pv 0))) ax_nil)) (gx_name sc_parcels_of.nd rfl (by first | exact Or.inl rfl | exact Or.inr rfl)) (bx_cons (sx_expr (ex_ext (pv 3) (ox_tmp (ex_op op_mulAny o2_mul (ox_tmp (ex_lst (ax_cons (ox_tmp (ex_use (pv 4))) ax_nil))) (ox_tmp (ex_op op_fdivW o2_div (ox_borS (pv 2)) (ox_borS (pv 4))))))))
    (bx_one (sx_set (i := 2) sc_parcels_of.nd rfl (by first | exact Or.inl rfl | exact Or.inr rfl) (ex_op op_mod o2_mod (ox_borS (pv 2)) (ox_borS (pv 4)))))))
    (bx_one (sx_ret (ex_mov (pv 3))))))))
/-! units_of -/
def b_units_of : DS :=
    (sRet (d2 fDiv (oTmp (dB fSum (aCons (oTmp (dLc [2] (iSeq (dUse 0)) (gNm 2) (tOf (d2 fGe (oBorS 2) (oBorS 1))) (dUse 2))) aNil))) (oBorS 1)))
def d_units_of : DF := dFn 3 b_units_of
theorem sc_units_of : FnScope ["weights", "size", "weight"] ["weights", "size"] (defScope (top 9)) := ⟨rfl, rfl, rfl, by decide +kernel, rfl, by decide +kernel, by decide +kernel⟩
theorem ok_units_of (tx : Txt K mg) {f : Addr} {fd : FuncData} (F : FnP K "units_of" (top 9) f fd) : FnOk P w K mg base CX0 1 f fd ["weights", "size"] (spT K ca 2 d_units_of) :=
  fn_okD F sc_units_of (by decide) (fun cdv A outer s H E hr =>
    (bx_one (sx_ret (ex_op op_fdivW o2_div (ox_tmp (ex_callB (cr_sum rfl) on_sum tx.b_sum (ax_cons (ox_tmp (ex_lc (own := [("weight", 2)]) (by decide) rfl sc_units_of.nd (ix_seq' (ex_use (pv 0))) (blkOk_by (own := [("weight", 2)]) (by rfl)) (fun _ _ _ _ _ => (gx_name sc_units_of.nd rfl (by first | exact Or.inl rfl | exact Or.inr rfl))) (fun _ _ _ _ _ => (tsx_one (tx_cmp op_geA o2_ge (ox_borS (pv 2)) (ox_borS (pv 1)) (nomark _)))) (fun _ _ _ _ _ => (ex_use (pv 2))))) ax_nil))) (ox_borS (pv 1))))))
/-! plain_number -/
def b_plain_number : DS :=
    (sSeq (sIf (tOrD (tNotD (tOf (dChain fLe fLe (dC (.int 1)) (dB fLen (aCons (oBorS 0) aNil)) (dC k_MOST_FIGURES)))) (tNotD (tOf (dB fAll (aCons (oTmp (dLc [1] (iSeq (dUse 0)) (gNm 1) tYesD (d2 (fIn false) (oBorS 1) (oTmp (dC k_FIGURES))))) aNil))))) (sRet (dC .non)) sNil)
    (sSeq (sIf (tAndD (tOf (d2 fEq (oTmp (d2 fIx (oAuto 0) (oTmp (dC (.int 0))))) (oTmp (dC (.str "0"))))) (tOf (d2 fNe (oBorS 0) (oTmp (dC (.str "0")))))) (sRet (dC .non)) sNil)
    (sRet (dB fInt (aCons (oBorS 0) aNil)))))
def d_plain_number : DF := dFn 2 b_plain_number
theorem sc_plain_number : FnScope ["text", "sign"] ["text"] (defScope (top 14)) := ⟨rfl, rfl, rfl, by decide +kernel, rfl, by decide +kernel, by decide +kernel⟩
theorem ok_plain_number (tx : Txt K mg) {f : Addr} {fd : FuncData} (F : FnP K "plain_number" (top 14) f fd) : FnOk P w K mg base CX0 1 f fd ["text"] (spT K ca 1 d_plain_number) :=
  fn_okD F sc_plain_number (by decide) (fun cdv A outer s H E hr =>
    (bx_cons (sx_if (PW.pt (wx_or (tx_not (tx_chain op_leA o2_le op_leA o2_le ex_int (ex_callB call_lenAny on_len tx.b_len (ax_cons (ox_borS (pv 0)) ax_nil)) (ex_gc tx.c_MOST_FIGURES))) (wx_or1 (tx_not (tx_val (ex_callB (cr_all rfl) on_all tx.b_all (ax_cons (ox_tmp (ex_lc (own := [("sign", 1)]) (by decide) rfl sc_plain_number.nd (ix_seq' (ex_use (pv 0))) (blkOk_by (own := [("sign", 1)]) (by rfl)) (fun _ _ _ _ _ => (gx_name sc_plain_number.nd rfl (by first | exact Or.inl rfl | exact Or.inr rfl))) (fun _ _ _ _ _ => tsx_nil) (fun _ _ _ _ _ => (ex_cmp op_inA o2_in (ox_borS (pv 1)) (ox_tmp (ex_gc tx.c_FIGURES)) rfl)))) ax_nil))))))) (bx_one (sx_ret ex_non)) bx_nil)
    (bx_cons (sx_if (PW.pt (wx_and (tx_cmp (op_eqA hr.units) o2_eq (ox_tmp (ex_ix (ox_auto (pv 0)) (ox_tmp ex_int) (fun _ _ => rfl))) (ox_tmp ex_str) (nomark _)) (wx_and1 (tx_cmp (op_neA hr.units) o2_ne (ox_borS (pv 0)) (ox_tmp ex_str) (nomark _))))) (bx_one (sx_ret ex_non)) bx_nil)
    (bx_one (sx_ret (ex_callTy (TL.CallR.or call_int1 call_int_str) on_int tx.b_int (ax_cons (ox_borS (pv 0)) ax_nil)))))))
/-! units_text -/
def b_units_text : DS :=
    (sSeq (sAsg (dC (.str "")) (gNm 2))
    (sSeq (sAsg (dUse 0) (gNm 3))
    (sSeq (sFor (iSeq (dUse 1)) (gTp [(gNm 4), (gNm 5)]) (sSeq (sIf (tOf (d2 fGe (oBorS 3) (oBorS 5))) (sAug fAugAdd 2 (d2 fAdd (oTmp (dB fStr (aCons (oTmp (d2 fDiv (oBorS 3) (oBorS 5))) aNil))) (oBorS 4))) sNil)
    (sAsg (d2 fMod (oBorS 3) (oBorS 5)) (gNm 3))))
    (sRet (dIfD (tOf (d2 fEq (oBorS 2) (oTmp (dC (.str ""))))) (d2 fAdd (oTmp (dC (.str "0"))) (oTmp (d2 fIx (oTmp (d2 fIx (oAuto 1) (oTmp (d1 fNeg (oTmp (dC (.int 1))))))) (oTmp (dC (.int 0)))))) (dMov 2))))))
def d_units_text : DF := dFn 6 b_units_text
theorem sc_units_text : FnScope ["number", "units", "found", "left", "letter", "worth"] ["number", "units"] (defScope (top 15)) := ⟨rfl, rfl, rfl, by decide +kernel, rfl, by decide +kernel, by decide +kernel⟩
theorem ok_units_text (tx : Txt K mg) {f : Addr} {fd : FuncData} (F : FnP K "units_text" (top 15) f fd) : FnOk P w K mg base CX0 1 f fd ["number", "units"] (spT K ca 2 d_units_text) :=
  fn_okD F sc_units_text (by decide) (fun cdv A outer s H E hr =>
    (bx_cons (sx_set (i := 2) sc_units_text.nd rfl (by first | exact Or.inl rfl | exact Or.inr rfl) ex_str)
    (bx_cons (sx_set (i := 3) sc_units_text.nd rfl (by first | exact Or.inl rfl | exact Or.inr rfl) (ex_use (pv 0)))
    (bx_cons (sx_for PassesOwn.never rfl (ix_seq' (ex_use (pv 1))) (gx_tup rfl (gsx_cons (gx_name sc_units_text.nd rfl (by first | exact Or.inl rfl | exact Or.inr rfl)) (gsx_cons (gx_name sc_units_text.nd rfl (by first | exact Or.inl rfl | exact Or.inr rfl)) gsx_nil))) (bx_cons (sx_if (tx_cmp op_geA o2_ge (ox_borS (pv 3)) (ox_borS (pv 5)) (nomark _)) (bx_one (sx_aug (i := 2) sc_units_text.nd rfl (by first | exact Or.inl rfl | exact Or.inr rfl) (ex_op op_addAny o2_add (ox_tmp (ex_callTy call_str_int on_str tx.b_str (ax_cons (ox_tmp (ex_op op_fdivW o2_div (ox_borS (pv 3)) (ox_borS (pv 5)))) ax_nil))) (ox_borS (pv 4))) ip_addA o2_augAdd)) bx_nil)
    (bx_one (sx_set (i := 3) sc_units_text.nd rfl (by first | exact Or.inl rfl | exact Or.inr rfl) (ex_op op_mod o2_mod (ox_borS (pv 3)) (ox_borS (pv 5)))))))
    (bx_one (sx_ret (ex_ifx (tx_cmp (op_eqA hr.units) o2_eq (ox_borS (pv 2)) (ox_tmp ex_str) (nomark _)) (ex_op op_addAny o2_add (ox_tmp ex_str) (ox_tmp (ex_ix (ox_tmp (ex_ix (ox_auto (pv 1)) (ox_tmp (ex_un un_neg o1_neg (ox_tmp ex_int))) (fun _ _ => rfl))) (ox_tmp ex_int) (fun _ _ => rfl)))) (ex_mov (pv 2)))))))))
/-! units_in -/
def b_units_in : DS :=
    (sSeq (sAsg (dC (.int 0)) (gNm 2))
    (sSeq (sAsg (dUse 0) (gNm 3))
    (sSeq (sFor (iSeq (dUse 1)) (gTp [(gNm 4), (gNm 5)]) (sSeq (sAsg (dM1 fPart (dUse 3) (dUse 4)) (gTp [(gNm 6), (gNm 7), (gNm 8)]))
    (sIf (tOf (d2 fEq (oBorS 7) (oBorS 4))) (sSeq (sAsg (dCall d_plain_number (aCons (oBorS 6) aNil)) (gNm 9))
    (sSeq (sIf (tOf (d2 fIsN (oBorS 9) (oTmp (dC .non)))) (sRet (dC .non)) sNil)
    (sSeq (sAug fAugAdd 2 (d2 fMul (oBorS 9) (oBorS 5)))
    (sAsg (dUse 8) (gNm 3))))) sNil)))
    (sRet (dIfD (tAndD (tOf (d2 fEq (oBorS 3) (oTmp (dC (.str ""))))) (tOf (d2 fEq (oTmp (dCall d_units_text (aCons (oBorS 2) (aCons (oBorS 1) aNil)))) (oBorS 0)))) (dMov 2) (dC .non))))))
def d_units_in : DF := dFn 10 b_units_in
theorem sc_units_in : FnScope ["text", "units", "found", "rest", "letter", "worth", "head", "mark", "tail", "many"] ["text", "units"] (defScope (top 16)) := ⟨rfl, rfl, rfl, by decide +kernel, rfl, by decide +kernel, by decide +kernel⟩
theorem ok_units_in (tx : Txt K mg) {f : Addr} {fd : FuncData} (F : FnP K "units_in" (top 16) f fd) (C_plain_number : Callee P w K mg base ca "plain_number" ["text"] 1 d_plain_number) (C_units_text : Callee P w K mg base ca "units_text" ["number", "units"] 1 d_units_text) : FnOk P w K mg base CX0 2 f fd ["text", "units"] (spT K ca 2 d_units_in) :=
  fn_okD F sc_units_in (by decide) (fun cdv A outer s H E hr =>
    (bx_cons (sx_set (i := 2) sc_units_in.nd rfl (by first | exact Or.inl rfl | exact Or.inr rfl) ex_int)
    (bx_cons (sx_set (i := 3) sc_units_in.nd rfl (by first | exact Or.inl rfl | exact Or.inr rfl) (ex_use (pv 0)))
    (bx_cons (sx_for PassesOwn.never rfl (ix_seq' (ex_use (pv 1))) (gx_tup rfl (gsx_cons (gx_name sc_units_in.nd rfl (by first | exact Or.inl rfl | exact Or.inr rfl)) (gsx_cons (gx_name sc_units_in.nd rfl (by first | exact Or.inl rfl | exact Or.inr rfl)) gsx_nil))) (bx_cons (sx_asg (ex_part (ex_use (pv 3)) (ex_use (pv 4))) (gx_tup rfl (gsx_cons (gx_name sc_units_in.nd rfl (by first | exact Or.inl rfl | exact Or.inr rfl)) (gsx_cons (gx_name sc_units_in.nd rfl (by first | exact Or.inl rfl | exact Or.inr rfl)) (gsx_cons (gx_name sc_units_in.nd rfl (by first | exact Or.inl rfl | exact Or.inr rfl)) gsx_nil)))))
    (bx_one (sx_if (tx_cmp (op_eqA hr.units) o2_eq (ox_borS (pv 7)) (ox_borS (pv 4)) (nomark _)) (bx_cons (sx_set (i := 9) sc_units_in.nd rfl (by first | exact Or.inl rfl | exact Or.inr rfl) (ex_call C_plain_number (hr.mono (by omega)) (ax_cons (ox_borS (pv 6)) ax_nil) (aCons_len aNil_len)))
    (bx_cons (sx_if (tx_cmp op_isN o2_isN (ox_borS (pv 9)) (ox_tmp ex_non) (nomark _)) (bx_one (sx_ret ex_non)) bx_nil)
    (bx_cons (sx_aug (i := 2) sc_units_in.nd rfl (by first | exact Or.inl rfl | exact Or.inr rfl) (ex_op op_mulAny o2_mul (ox_borS (pv 9)) (ox_borS (pv 5))) ip_addA o2_augAdd)
    (bx_one (sx_set (i := 3) sc_units_in.nd rfl (by first | exact Or.inl rfl | exact Or.inr rfl) (ex_use (pv 8))))))) bx_nil))))
    (bx_one (sx_ret (ex_ifx (PW.pt (wx_and (tx_cmp (op_eqA hr.units) o2_eq (ox_borS (pv 3)) (ox_tmp ex_str) (nomark _)) (wx_and1 (tx_cmp (op_eqA hr.units) o2_eq (ox_tmp (ex_call C_units_text (hr.mono (by omega)) (ax_cons (ox_borS (pv 2)) (ax_cons (ox_borS (pv 1)) ax_nil)) (aCons_len (aCons_len aNil_len)))) (ox_borS (pv 0)) (nomark _))))) (ex_mov (pv 2)) ex_non)))))))
/-! weight_text -/
def b_weight_text : DS :=
    (sRet (dCall d_units_text (aCons (oBorS 0) (aCons (oTmp (dC k_WEIGHT_UNITS)) aNil))))
def d_weight_text : DF := dFn 1 b_weight_text
theorem sc_weight_text : FnScope ["pounds"] ["pounds"] (defScope (top 17)) := ⟨rfl, rfl, rfl, by decide +kernel, rfl, by decide +kernel, by decide +kernel⟩
theorem ok_weight_text (tx : Txt K mg) {f : Addr} {fd : FuncData} (F : FnP K "weight_text" (top 17) f fd) (C_units_text : Callee P w K mg base ca "units_text" ["number", "units"] 1 d_units_text) : FnOk P w K mg base CX0 2 f fd ["pounds"] (spT K ca 1 d_weight_text) :=
  fn_okD F sc_weight_text (by decide) (fun cdv A outer s H E hr =>
    (bx_one (sx_ret (ex_call C_units_text (hr.mono (by omega)) (ax_cons (ox_borS (pv 0)) (ax_cons (ox_tmp (ex_gc tx.c_WEIGHT_UNITS)) ax_nil)) (aCons_len (aCons_len aNil_len))))))
/-! weight_in -/
def b_weight_in : DS :=
    (sRet (dCall d_units_in (aCons (oBorS 0) (aCons (oTmp (dC k_WEIGHT_UNITS)) aNil))))
def d_weight_in : DF := dFn 1 b_weight_in
theorem sc_weight_in : FnScope ["text"] ["text"] (defScope (top 18)) := ⟨rfl, rfl, rfl, by decide +kernel, rfl, by decide +kernel, by decide +kernel⟩
theorem ok_weight_in (tx : Txt K mg) {f : Addr} {fd : FuncData} (F : FnP K "weight_in" (top 18) f fd) (C_units_in : Callee P w K mg base ca "units_in" ["text", "units"] 2 d_units_in) : FnOk P w K mg base CX0 3 f fd ["text"] (spT K ca 1 d_weight_in) :=
  fn_okD F sc_weight_in (by decide) (fun cdv A outer s H E hr =>
    (bx_one (sx_ret (ex_call C_units_in (hr.mono (by omega)) (ax_cons (ox_borS (pv 0)) (ax_cons (ox_tmp (ex_gc tx.c_WEIGHT_UNITS)) ax_nil)) (aCons_len (aCons_len aNil_len))))))
/-! _law_box -/
def b__law_box : DS :=
    (sSeq (sAsg (dIfD (tOf (d2 fLt (oBorS 1) (oTmp (dB fLen (aCons (oBorS 0) aNil))))) (d2 fIx (oAuto 0) (oBorS 1)) (dC (.int 0))) (gNm 2))
    (sRet (dLst (aCons (oTmp (d2 fMul (oTmp (dB fAbs (aCons (oBorS 2) aNil))) (oTmp (dB fInt (aCons (oTmp (d2 fGe (oTmp (dB fAbs (aCons (oBorS 2) aNil))) (oTmp (d2 fPow (oTmp (dC (.int 10))) (oTmp (dC (.int 18))))))) aNil))))) (aCons (oTmp (d2 fAdd (oTmp (d2 fAdd (oTmp (d2 fMul (oTmp (d2 fMod (oBorS 2) (oTmp (dC (.int 2147483629))))) (oTmp (dC (.int 48271))))) (oTmp (d2 fMul (oTmp (dC (.int 15485863))) (oBorS 1))))) (oTmp (dC (.int 37))))) (aCons (oTmp (dC (.int 0))) aNil))))))
def d__law_box : DF := dFn 3 b__law_box
theorem sc__law_box : FnScope ["_law_script", "_law_k", "_law_cell"] ["_law_script", "_law_k"] (defScope (top 20)) := ⟨rfl, rfl, rfl, by decide +kernel, rfl, by decide +kernel, by decide +kernel⟩
theorem ok__law_box (tx : Txt K mg) {f : Addr} {fd : FuncData} (F : FnP K "_law_box" (top 20) f fd) : FnOk P w K mg base CX0 1 f fd ["_law_script", "_law_k"] (spT K ca 2 d__law_box) :=
  fn_okD F sc__law_box (by decide) (fun cdv A outer s H E hr =>
    (bx_cons (sx_set (i := 2) sc__law_box.nd rfl (by first | exact Or.inl rfl | exact Or.inr rfl) (ex_ifx (tx_cmp op_ltA o2_lt (ox_borS (pv 1)) (ox_tmp (ex_callB call_lenAny on_len tx.b_len (ax_cons (ox_borS (pv 0)) ax_nil))) (nomark _)) (ex_ix (ox_auto (pv 0)) (ox_borS (pv 1)) (fun _ _ => rfl)) ex_int))
    (bx_one (sx_ret (ex_lst (ax_cons (ox_tmp (ex_op op_mulAny o2_mul (ox_tmp (ex_callB call_abs on_abs tx.b_abs (ax_cons (ox_borS (pv 2)) ax_nil))) (ox_tmp (ex_callTy (TL.CallR.or call_int1 call_int_str) on_int tx.b_int (ax_cons (ox_tmp (ex_cmp op_geA o2_ge (ox_tmp (ex_callB call_abs on_abs tx.b_abs (ax_cons (ox_borS (pv 2)) ax_nil))) (ox_tmp (ex_op op_pow o2_pow (ox_tmp ex_int) (ox_tmp ex_int))) (nomark _))) ax_nil))))) (ax_cons (ox_tmp (ex_op op_addAny o2_add (ox_tmp (ex_op op_addAny o2_add (ox_tmp (ex_op op_mulAny o2_mul (ox_tmp (ex_op op_mod o2_mod (ox_borS (pv 2)) (ox_tmp ex_int))) (ox_tmp ex_int))) (ox_tmp (ex_op op_mulAny o2_mul (ox_tmp ex_int) (ox_borS (pv 1)))))) (ox_tmp ex_int))) (ax_cons (ox_tmp ex_int) ax_nil))))))))
/-! _law_take -/
def b__law_take : DS :=
    (sSeq (sIf (tOf (d2 fGt (oTmp (d2 fIx (oAuto 0) (oTmp (dC (.int 0))))) (oTmp (dC (.int 0))))) (sSeq (sAsg (d2 fMod (oTmp (d2 fIx (oAuto 0) (oTmp (dC (.int 0))))) (oBorS 1)) (gNm 5))
    (sSeq (sAsg (d2 fDiv (oTmp (d2 fIx (oAuto 0) (oTmp (dC (.int 0))))) (oBorS 1)) (gIx 0 (dC (.int 0))))
    (sRet (dMov 5)))) sNil)
    (sSeq (sAsg (d2 fAdd (oTmp (d2 fIx (oAuto 0) (oTmp (dC (.int 2))))) (oTmp (dC (.int 1)))) (gIx 0 (dC (.int 2))))
    (sSeq (sAsg (d2 fAdd (oTmp (dC (.int 69621))) (oTmp (d2 fMul (oTmp (d2 fIx (oAuto 0) (oTmp (dC (.int 2))))) (oTmp (d2 fIx (oAuto 0) (oTmp (dC (.int 2)))))))) (gNm 2))
    (sSeq (sAsg (d2 fMod (oTmp (d2 fMul (oTmp (d2 fAdd (oTmp (d2 fIx (oAuto 0) (oTmp (dC (.int 1))))) (oTmp (d2 fMul (oTmp (dC (.int 39373))) (oTmp (d2 fIx (oAuto 0) (oTmp (dC (.int 2))))))))) (oBorS 2))) (oTmp (dC (.int 2147483587)))) (gNm 3))
    (sSeq (sAsg (d2 fMod (oTmp (d2 fAdd (oTmp (d2 fMul (oBorS 3) (oTmp (d2 fAdd (oTmp (d2 fMod (oBorS 3) (oTmp (dC (.int 30011))))) (oTmp (dC (.int 5))))))) (oTmp (d2 fIx (oAuto 0) (oTmp (dC (.int 2))))))) (oTmp (dC (.int 2147483563)))) (gNm 4))
    (sRet (d2 fMod (oTmp (d2 fDiv (oTmp (d2 fMod (oTmp (d2 fMul (oBorS 4) (oTmp (d2 fAdd (oTmp (d2 fMod (oBorS 4) (oTmp (dC (.int 1013))))) (oTmp (dC (.int 3))))))) (oTmp (dC (.int 998244353))))) (oTmp (dC (.int 16))))) (oBorS 1))))))))
def d__law_take : DF := dFn 6 b__law_take
theorem sc__law_take : FnScope ["_law_box_here", "_law_many", "_law_step", "_law_once", "_law_twice", "_law_found"] ["_law_box_here", "_law_many"] (defScope (top 21)) := ⟨rfl, rfl, rfl, by decide +kernel, rfl, by decide +kernel, by decide +kernel⟩
theorem ok__law_take (tx : Txt K mg) {f : Addr} {fd : FuncData} (F : FnP K "_law_take" (top 21) f fd) : FnOk P w K mg base CX0 1 f fd ["_law_box_here", "_law_many"] (spT K ca 2 d__law_take) :=
  fn_okD F sc__law_take (by decide) (fun cdv A outer s H E hr =>
    (bx_cons (sx_if (tx_cmp op_gtA o2_gt (ox_tmp (ex_ix (ox_auto (pv 0)) (ox_tmp ex_int) (fun _ _ => rfl))) (ox_tmp ex_int) (nomark _)) (bx_cons (sx_set (i := 5) sc__law_take.nd rfl (by first | exact Or.inl rfl | exact Or.inr rfl) (ex_op op_mod o2_mod (ox_tmp (ex_ix (ox_auto (pv 0)) (ox_tmp ex_int) (fun _ _ => rfl))) (ox_borS (pv 1))))
    (bx_cons (sx_asg (ex_op op_fdivW o2_div (ox_tmp (ex_ix (ox_auto (pv 0)) (ox_tmp ex_int) (fun _ _ => rfl))) (ox_borS (pv 1))) (gx_ix (pv 0) ex_int))
    (bx_one (sx_ret (ex_mov (pv 5)))))) bx_nil)
    (bx_cons (sx_asg (ex_op op_addAny o2_add (ox_tmp (ex_ix (ox_auto (pv 0)) (ox_tmp ex_int) (fun _ _ => rfl))) (ox_tmp ex_int)) (gx_ix (pv 0) ex_int))
    (bx_cons (sx_set (i := 2) sc__law_take.nd rfl (by first | exact Or.inl rfl | exact Or.inr rfl) (ex_op op_addAny o2_add (ox_tmp ex_int) (ox_tmp (ex_op op_mulAny o2_mul (ox_tmp (ex_ix (ox_auto (pv 0)) (ox_tmp ex_int) (fun _ _ => rfl))) (ox_tmp (ex_ix (ox_auto (pv 0)) (ox_tmp ex_int) (fun _ _ => rfl)))))))
    (bx_cons (sx_set (i := 3) sc__law_take.nd rfl (by first | exact Or.inl rfl | exact Or.inr rfl) (ex_op op_mod o2_mod (ox_tmp (ex_op op_mulAny o2_mul (ox_tmp (ex_op op_addAny o2_add (ox_tmp (ex_ix (ox_auto (pv 0)) (ox_tmp ex_int) (fun _ _ => rfl))) (ox_tmp (ex_op op_mulAny o2_mul (ox_tmp ex_int) (ox_tmp (ex_ix (ox_auto (pv 0)) (ox_tmp ex_int) (fun _ _ => rfl))))))) (ox_borS (pv 2)))) (ox_tmp ex_int)))
    (bx_cons (sx_set (i := 4) sc__law_take.nd rfl (by first | exact Or.inl rfl | exact Or.inr rfl) (ex_op op_mod o2_mod (ox_tmp (ex_op op_addAny o2_add (ox_tmp (ex_op op_mulAny o2_mul (ox_borS (pv 3)) (ox_tmp (ex_op op_addAny o2_add (ox_tmp (ex_op op_mod o2_mod (ox_borS (pv 3)) (ox_tmp ex_int))) (ox_tmp ex_int))))) (ox_tmp (ex_ix (ox_auto (pv 0)) (ox_tmp ex_int) (fun _ _ => rfl))))) (ox_tmp ex_int)))
    (bx_one (sx_ret (ex_op op_mod o2_mod (ox_tmp (ex_op op_fdivW o2_div (ox_tmp (ex_op op_mod o2_mod (ox_tmp (ex_op op_mulAny o2_mul (ox_borS (pv 4)) (ox_tmp (ex_op op_addAny o2_add (ox_tmp (ex_op op_mod o2_mod (ox_borS (pv 4)) (ox_tmp ex_int))) (ox_tmp ex_int))))) (ox_tmp ex_int))) (ox_tmp ex_int))) (ox_borS (pv 1)))))))))))
/-! _law_folded -/
def b__law_folded : DS :=
    (sSeq (sAsg (dB fList (aCons (oTmp (d3 fSl (oAuto 0) pNone (pSome (dUse 1)))) aNil)) (gNm 2))
    (sSeq (sFor (iEn (aCons (oTmp (d3 fSl (oAuto 0) (pSome (dUse 1)) (pSome (dC (.int 63))))) aNil)) (gTp [(gNm 3), (gNm 4)]) (sAsg (d2 fAdd (oTmp (d2 fIx (oAuto 2) (oTmp (d2 fMod (oBorS 3) (oBorS 1))))) (oTmp (d2 fMul (oBorS 4) (oTmp (d2 fAdd (oBorS 3) (oTmp (dC (.int 2)))))))) (gIx 2 (d2 fMod (oBorS 3) (oBorS 1)))))
    (sRet (dMov 2))))
def d__law_folded : DF := dFn 5 b__law_folded
theorem sc__law_folded : FnScope ["_law_script", "_law_size", "_law_cells", "_law_k", "_law_cell"] ["_law_script", "_law_size"] (defScope (top 22)) := ⟨rfl, rfl, rfl, by decide +kernel, rfl, by decide +kernel, by decide +kernel⟩
theorem ok__law_folded (tx : Txt K mg) {f : Addr} {fd : FuncData} (F : FnP K "_law_folded" (top 22) f fd) : FnOk P w K mg base CX0 1 f fd ["_law_script", "_law_size"] (spT K ca 2 d__law_folded) :=
  fn_okD F sc__law_folded (by decide) (fun cdv A outer s H E hr =>
    (bx_cons (sx_set (i := 2) sc__law_folded.nd rfl (by first | exact Or.inl rfl | exact Or.inr rfl) (ex_callTy call_list_of on_list tx.b_list (ax_cons (ox_tmp (ex_sl (ox_auto (pv 0)) px_none (px_some (ex_use (pv 1))))) ax_nil)))
    (bx_cons (sx_for PassesOwn.never rfl (ix_enum tx.b_enumerate (ax_cons (ox_tmp (ex_sl (ox_auto (pv 0)) (px_some (ex_use (pv 1))) (px_some ex_int))) ax_nil)) (gx_tup rfl (gsx_cons (gx_name sc__law_folded.nd rfl (by first | exact Or.inl rfl | exact Or.inr rfl)) (gsx_cons (gx_name sc__law_folded.nd rfl (by first | exact Or.inl rfl | exact Or.inr rfl)) gsx_nil))) (bx_one (sx_asg (ex_op op_addAny o2_add (ox_tmp (ex_ix (ox_auto (pv 2)) (ox_tmp (ex_op op_mod o2_mod (ox_borS (pv 3)) (ox_borS (pv 1)))) (fun _ _ => rfl))) (ox_tmp (ex_op op_mulAny o2_mul (ox_borS (pv 4)) (ox_tmp (ex_op op_addAny o2_add (ox_borS (pv 3)) (ox_tmp ex_int)))))) (gx_ix (pv 2) (ex_op op_mod o2_mod (ox_borS (pv 3)) (ox_borS (pv 1)))))))
    (bx_one (sx_ret (ex_mov (pv 2)))))))
/-! _law_wide -/
def b__law_wide : DS :=
    (sSeq (sAsg (dC (.int 0)) (gNm 2))
    (sSeq (sFor (iR1 (aCons (oTmp (dC (.int 4))) aNil)) (gNm 3) (sAsg (d2 fAdd (oTmp (d2 fMul (oBorS 2) (oTmp (d2 fPow (oTmp (dC (.int 10))) (oTmp (dC (.int 9))))))) (oTmp (dCall d__law_take (aCons (oBorS 0) (aCons (oTmp (d2 fPow (oTmp (dC (.int 10))) (oTmp (dC (.int 9))))) aNil))))) (gNm 2)))
    (sRet (d2 fMod (oBorS 2) (oBorS 1)))))
def d__law_wide : DF := dFn 4 b__law_wide
theorem sc__law_wide : FnScope ["_law_box_here", "_law_many", "_law_found", "_law_turn"] ["_law_box_here", "_law_many"] (defScope (top 23)) := ⟨rfl, rfl, rfl, by decide +kernel, rfl, by decide +kernel, by decide +kernel⟩
theorem ok__law_wide (tx : Txt K mg) {f : Addr} {fd : FuncData} (F : FnP K "_law_wide" (top 23) f fd) (C__law_take : Callee P w K mg base ca "_law_take" ["_law_box_here", "_law_many"] 1 d__law_take) : FnOk P w K mg base CX0 2 f fd ["_law_box_here", "_law_many"] (spT K ca 2 d__law_wide) :=
  fn_okD F sc__law_wide (by decide) (fun cdv A outer s H E hr =>
    (bx_cons (sx_set (i := 2) sc__law_wide.nd rfl (by first | exact Or.inl rfl | exact Or.inr rfl) ex_int)
    (bx_cons (sx_for PassesOwn.never rfl (ix_r1 tx.b_range (ax_cons (ox_tmp ex_int) ax_nil)) (gx_name sc__law_wide.nd rfl (by first | exact Or.inl rfl | exact Or.inr rfl)) (bx_one (sx_set (i := 2) sc__law_wide.nd rfl (by first | exact Or.inl rfl | exact Or.inr rfl) (ex_op op_addAny o2_add (ox_tmp (ex_op op_mulAny o2_mul (ox_borS (pv 2)) (ox_tmp (ex_op op_pow o2_pow (ox_tmp ex_int) (ox_tmp ex_int))))) (ox_tmp (ex_call C__law_take (hr.mono (by omega)) (ax_cons (ox_borS (pv 0)) (ax_cons (ox_tmp (ex_op op_pow o2_pow (ox_tmp ex_int) (ox_tmp ex_int))) ax_nil)) (aCons_len (aCons_len aNil_len))))))))
    (bx_one (sx_ret (ex_op op_mod o2_mod (ox_borS (pv 2)) (ox_borS (pv 1))))))))
/-! _law_same -/
def b__law_same (dself : DF) : DS :=
    (sSeq (sIf (tOf (d1 (fIsi2 "list" "tuple") (oBorS 1))) (sSeq (sIf (tOrD (tOf (d2 fNe (oTmp (d1 (fIsi "list") (oBorS 0))) (oTmp (d1 (fIsi "list") (oBorS 1))))) (tOf (d2 fNe (oTmp (d1 (fIsi "tuple") (oBorS 0))) (oTmp (d1 (fIsi "tuple") (oBorS 1)))))) (sRet (dC (.bl false))) sNil)
    (sRet (dAndD (d2 fEq (oTmp (dB fLen (aCons (oBorS 0) aNil))) (oTmp (dB fLen (aCons (oBorS 1) aNil)))) (dB fAll (aCons (oTmp (dLc [2, 3] (iZp (aCons (oTmp (dUse 0)) (aCons (oTmp (dUse 1)) aNil))) (gTp [(gNm 2), (gNm 3)]) tYesD (dCall dself (aCons (oBorS 2) (aCons (oBorS 3) aNil))))) aNil))))) sNil)
    (sSeq (sIf (tOrD (tOf (d2 fIsN (oBorS 1) (oTmp (dC .non)))) (tOf (d2 fIsN (oBorS 0) (oTmp (dC .non))))) (sRet (dAndD (d2 fIsN (oBorS 1) (oTmp (dC .non))) (d2 fIsN (oBorS 0) (oTmp (dC .non))))) sNil)
    (sSeq (sIf (tOrD (tOf (d1 (fIsi "bool") (oBorS 1))) (tOf (d1 (fIsi "str") (oBorS 1)))) (sRet (dAndD (d2 fEq (oTmp (d1 (fIsi "bool") (oBorS 0))) (oTmp (d1 (fIsi "bool") (oBorS 1)))) (d2 fEq (oBorS 0) (oBorS 1)))) sNil)
    (sRet (dAndD (d1 (fIsi "int") (oBorS 0)) (dAndD (dNotD (d1 (fIsi "bool") (oBorS 0))) (d2 fEq (oBorS 0) (oBorS 1))))))))
def d__law_same : Nat → DF := dRec fun dself => dFn 4 (b__law_same dself)
theorem sc__law_same : FnScope ["_law_found", "_law_due", "_law_one", "_law_other"] ["_law_found", "_law_due"] (defScope (top 24)) := ⟨rfl, rfl, rfl, by decide +kernel, rfl, by decide +kernel, by decide +kernel⟩
theorem ok__law_same (tx : Txt K mg) {f : Addr} {fd : FuncData} (F : FnP K "_law_same" (top 24) f fd) (hm : mg "_law_same" = some (.ref f)) (hb : Binds K fd ["_law_found", "_law_due"] []) (n : Nat) : FnOk P w K mg base CX0 (0 + n) f fd ["_law_found", "_law_due"] (spT K ca 2 (d__law_same n)) :=
  fn_rec (ps := ["_law_found", "_law_due"]) (c := 0) (fun dself k hk R0 => fn_okD F sc__law_same (by decide) (fun cdv A outer s H E hr => by
    have R_ : Callee P w K mg base ca "_law_same" ["_law_found", "_law_due"] k dself := callee_of F hm hb R0
    exact (bx_cons (sx_if (tx_val (ex_isi2 tx.b_isinstance tx.b_list tx.b_tuple (ox_borS (pv 1)))) (bx_cons (sx_if (PW.pt (wx_or (tx_cmp (op_neA hr.units) o2_ne (ox_tmp (ex_isi tx.b_isinstance tx.b_list (ox_borS (pv 0)))) (ox_tmp (ex_isi tx.b_isinstance tx.b_list (ox_borS (pv 1)))) (nomark _)) (wx_or1 (tx_cmp (op_neA hr.units) o2_ne (ox_tmp (ex_isi tx.b_isinstance tx.b_tuple (ox_borS (pv 0)))) (ox_tmp (ex_isi tx.b_isinstance tx.b_tuple (ox_borS (pv 1)))) (nomark _))))) (bx_one (sx_ret ex_bl)) bx_nil)
    (bx_one (sx_ret (ex_and (ex_cmp (op_eqA hr.units) o2_eq (ox_tmp (ex_callB call_lenAny on_len tx.b_len (ax_cons (ox_borS (pv 0)) ax_nil))) (ox_tmp (ex_callB call_lenAny on_len tx.b_len (ax_cons (ox_borS (pv 1)) ax_nil))) (nomark _)) (ex_one (ex_callB (cr_all rfl) on_all tx.b_all (ax_cons (ox_tmp (ex_lc (own := [("_law_one", 2), ("_law_other", 3)]) (by decide) rfl sc__law_same.nd (ix_zip tx.b_zip (ax_cons (ox_tmp (ex_use (pv 0))) (ax_cons (ox_tmp (ex_use (pv 1))) ax_nil))) (blkOk_by (own := [("_law_one", 2), ("_law_other", 3)]) (by rfl)) (fun _ _ _ _ _ => (gx_tup rfl (gsx_cons (gx_name sc__law_same.nd rfl (by first | exact Or.inl rfl | exact Or.inr rfl)) (gsx_cons (gx_name sc__law_same.nd rfl (by first | exact Or.inl rfl | exact Or.inr rfl)) gsx_nil)))) (fun _ _ _ _ _ => tsx_nil) (fun _ _ _ _ _ => (ex_call R_ (hr.mono (by omega)) (ax_cons (ox_borS (pv 2)) (ax_cons (ox_borS (pv 3)) ax_nil)) (aCons_len (aCons_len aNil_len)))))) ax_nil))))))) bx_nil)
    (bx_cons (sx_if (PW.pt (wx_or (tx_cmp op_isN o2_isN (ox_borS (pv 1)) (ox_tmp ex_non) (nomark _)) (wx_or1 (tx_cmp op_isN o2_isN (ox_borS (pv 0)) (ox_tmp ex_non) (nomark _))))) (bx_one (sx_ret (ex_and (ex_cmp op_isN o2_isN (ox_borS (pv 1)) (ox_tmp ex_non) (nomark _)) (ex_one (ex_cmp op_isN o2_isN (ox_borS (pv 0)) (ox_tmp ex_non) (nomark _)))))) bx_nil)
    (bx_cons (sx_if (PW.pt (wx_or (tx_val (ex_isi tx.b_isinstance tx.b_bool (ox_borS (pv 1)))) (wx_or1 (tx_val (ex_isi tx.b_isinstance tx.b_str (ox_borS (pv 1))))))) (bx_one (sx_ret (ex_and (ex_cmp (op_eqA hr.units) o2_eq (ox_tmp (ex_isi tx.b_isinstance tx.b_bool (ox_borS (pv 0)))) (ox_tmp (ex_isi tx.b_isinstance tx.b_bool (ox_borS (pv 1)))) (nomark _)) (ex_one (ex_cmp (op_eqA hr.units) o2_eq (ox_borS (pv 0)) (ox_borS (pv 1)) (nomark _)))))) bx_nil)
    (bx_one (sx_ret (ex_and (ex_isi tx.b_isinstance tx.b_int (ox_borS (pv 0))) (ex_and (ex_not (ex_isi tx.b_isinstance tx.b_bool (ox_borS (pv 0)))) (ex_one (ex_cmp (op_eqA hr.units) o2_eq (ox_borS (pv 0)) (ox_borS (pv 1)) (nomark _)))))))))))) n
/-! _law_copied -/
def b__law_copied (dself : DF) : DS :=
    (sSeq (sIf (tOf (d1 (fIsi "list") (oBorS 0))) (sRet (dLc [1] (iSeq (dUse 0)) (gNm 1) tYesD (dCall dself (aCons (oBorS 1) aNil)))) sNil)
    (sRet (dIfD (tOf (d1 (fIsi "tuple") (oBorS 0))) (dB fTuple (aCons (oTmp (dLc [1] (iSeq (dUse 0)) (gNm 1) tYesD (dCall dself (aCons (oBorS 1) aNil)))) aNil)) (dMov 0))))
def d__law_copied : Nat → DF := dRec fun dself => dFn 2 (b__law_copied dself)
theorem sc__law_copied : FnScope ["_law_thing", "_law_part"] ["_law_thing"] (defScope (top 25)) := ⟨rfl, rfl, rfl, by decide +kernel, rfl, by decide +kernel, by decide +kernel⟩
theorem ok__law_copied (tx : Txt K mg) {f : Addr} {fd : FuncData} (F : FnP K "_law_copied" (top 25) f fd) (hm : mg "_law_copied" = some (.ref f)) (hb : Binds K fd ["_law_thing"] []) (n : Nat) : FnOk P w K mg base CX0 (0 + n) f fd ["_law_thing"] (spT K ca 1 (d__law_copied n)) :=
  fn_rec (ps := ["_law_thing"]) (c := 0) (fun dself k hk R0 => fn_okD F sc__law_copied (by decide) (fun cdv A outer s H E hr => by
    have R_ : Callee P w K mg base ca "_law_copied" ["_law_thing"] k dself := callee_of F hm hb R0
    exact (bx_cons (sx_if (tx_val (ex_isi tx.b_isinstance tx.b_list (ox_borS (pv 0)))) (bx_one (sx_ret (ex_lc (own := [("_law_part", 1)]) (by decide) rfl sc__law_copied.nd (ix_seq' (ex_use (pv 0))) (blkOk_by (own := [("_law_part", 1)]) (by rfl)) (fun _ _ _ _ _ => (gx_name sc__law_copied.nd rfl (by first | exact Or.inl rfl | exact Or.inr rfl))) (fun _ _ _ _ _ => tsx_nil) (fun _ _ _ _ _ => (ex_call R_ (hr.mono (by omega)) (ax_cons (ox_borS (pv 1)) ax_nil) (aCons_len aNil_len)))))) bx_nil)
    (bx_one (sx_ret (ex_ifx (tx_val (ex_isi tx.b_isinstance tx.b_tuple (ox_borS (pv 0)))) (ex_callTy call_tuple_of on_tuple tx.b_tuple (ax_cons (ox_tmp (ex_lc (own := [("_law_part", 1)]) (by decide) rfl sc__law_copied.nd (ix_seq' (ex_use (pv 0))) (blkOk_by (own := [("_law_part", 1)]) (by rfl)) (fun _ _ _ _ _ => (gx_name sc__law_copied.nd rfl (by first | exact Or.inl rfl | exact Or.inr rfl))) (fun _ _ _ _ _ => tsx_nil) (fun _ _ _ _ _ => (ex_call R_ (hr.mono (by omega)) (ax_cons (ox_borS (pv 1)) ax_nil) (aCons_len aNil_len))))) ax_nil)) (ex_mov (pv 0)))))))) n
/-! _law_marked -/
def b__law_marked (dself : DF) : DS :=
    (sSeq (sIf (tOf (d1 (fIsi2 "list" "tuple") (oBorS 0))) (sFor (iSeq (dB fList (aCons (oBorS 0) aNil))) (gNm 1) (sDrop (dCall dself (aCons (oTmp (dUse 1)) aNil)))) sNil)
    (sSeq (sIf (tOf (d1 (fIsi "list") (oBorS 0))) (sDrop (dApp 0 (dC (.str "a mark")))) sNil)
    (sRet (dMov 0))))
def d__law_marked : Nat → DF := dRec fun dself => dFn 2 (b__law_marked dself)
theorem sc__law_marked : FnScope ["_law_thing", "_law_part"] ["_law_thing"] (defScope (top 26)) := ⟨rfl, rfl, rfl, by decide +kernel, rfl, by decide +kernel, by decide +kernel⟩
theorem ok__law_marked (tx : Txt K mg) {f : Addr} {fd : FuncData} (F : FnP K "_law_marked" (top 26) f fd) (hm : mg "_law_marked" = some (.ref f)) (hb : Binds K fd ["_law_thing"] []) (n : Nat) : FnOk P w K mg base CX0 (0 + n) f fd ["_law_thing"] (spT K ca 1 (d__law_marked n)) :=
  fn_rec (ps := ["_law_thing"]) (c := 0) (fun dself k hk R0 => fn_okD F sc__law_marked (by decide) (fun cdv A outer s H E hr => by
    have R_ : Callee P w K mg base ca "_law_marked" ["_law_thing"] k dself := callee_of F hm hb R0
    exact (bx_cons (sx_if (tx_val (ex_isi2 tx.b_isinstance tx.b_list tx.b_tuple (ox_borS (pv 0)))) (bx_one (sx_for PassesOwn.never rfl (ix_seq' (ex_callTy call_list_of on_list tx.b_list (ax_cons (ox_borS (pv 0)) ax_nil))) (gx_name sc__law_marked.nd rfl (by first | exact Or.inl rfl | exact Or.inr rfl)) (bx_one (sx_expr (ex_call R_ (hr.mono (by omega)) (ax_cons (ox_tmp (ex_use (pv 1))) ax_nil) (aCons_len aNil_len)))))) bx_nil)
    (bx_cons (sx_if (tx_val (ex_isi tx.b_isinstance tx.b_list (ox_borS (pv 0)))) (bx_one (sx_expr (ex_app (pv 0) ex_str))) bx_nil)
    (bx_one (sx_ret (ex_mov (pv 0)))))))) n
/-! _law_sizes -/
def b__law_sizes : DS :=
    (sSeq (sAsg (dLst (aCons (oTmp (d2 fAdd (oTmp (dC (.int 1))) (oTmp (dCall d__law_take (aCons (oBorS 0) (aCons (oTmp (d2 fIx (oTmp (dLst (aCons (oTmp (dC (.int 1))) (aCons (oTmp (dC (.int 7))) (aCons (oTmp (dC (.int 100))) aNil))))) (oTmp (dCall d__law_take (aCons (oBorS 0) (aCons (oTmp (dC (.int 3))) aNil)))))) aNil)))))) aNil)) (gNm 1))
    (sSeq (sFor (iR1 (aCons (oTmp (dCall d__law_take (aCons (oBorS 0) (aCons (oTmp (dC (.int 5))) aNil)))) aNil)) (gNm 2) (sDrop (dApp 1 (d2 fMul (oTmp (d2 fIx (oAuto 1) (oTmp (d1 fNeg (oTmp (dC (.int 1))))))) (oTmp (d2 fIx (oTmp (dLst (aCons (oTmp (dC (.int 2))) (aCons (oTmp (dC (.int 2))) (aCons (oTmp (dC (.int 3))) (aCons (oTmp (d2 fAdd (oTmp (dC (.int 2))) (oTmp (dCall d__law_take (aCons (oBorS 0) (aCons (oTmp (dC (.int 11))) aNil)))))) aNil)))))) (oTmp (dCall d__law_take (aCons (oBorS 0) (aCons (oTmp (dC (.int 4))) aNil))))))))))
    (sRet (dMov 1))))
def d__law_sizes : DF := dFn 3 b__law_sizes
theorem sc__law_sizes : FnScope ["_law_box_here", "_law_found", "_law_turn"] ["_law_box_here"] (defScope (top 27)) := ⟨rfl, rfl, rfl, by decide +kernel, rfl, by decide +kernel, by decide +kernel⟩
theorem ok__law_sizes (tx : Txt K mg) {f : Addr} {fd : FuncData} (F : FnP K "_law_sizes" (top 27) f fd) (C__law_take : Callee P w K mg base ca "_law_take" ["_law_box_here", "_law_many"] 1 d__law_take) : FnOk P w K mg base CX0 2 f fd ["_law_box_here"] (spT K ca 1 d__law_sizes) :=
  fn_okD F sc__law_sizes (by decide) (fun cdv A outer s H E hr =>
    (bx_cons (sx_set (i := 1) sc__law_sizes.nd rfl (by first | exact Or.inl rfl | exact Or.inr rfl) (ex_lst (ax_cons (ox_tmp (ex_op op_addAny o2_add (ox_tmp ex_int) (ox_tmp (ex_call C__law_take (hr.mono (by omega)) (ax_cons (ox_borS (pv 0)) (ax_cons (ox_tmp (ex_ix (ox_tmp (ex_lst (ax_cons (ox_tmp ex_int) (ax_cons (ox_tmp ex_int) (ax_cons (ox_tmp ex_int) ax_nil))))) (ox_tmp (ex_call C__law_take (hr.mono (by omega)) (ax_cons (ox_borS (pv 0)) (ax_cons (ox_tmp ex_int) ax_nil)) (aCons_len (aCons_len aNil_len)))) (fun _ _ => rfl))) ax_nil)) (aCons_len (aCons_len aNil_len)))))) ax_nil)))
    (bx_cons (sx_for PassesOwn.never rfl (ix_r1 tx.b_range (ax_cons (ox_tmp (ex_call C__law_take (hr.mono (by omega)) (ax_cons (ox_borS (pv 0)) (ax_cons (ox_tmp ex_int) ax_nil)) (aCons_len (aCons_len aNil_len)))) ax_nil)) (gx_name sc__law_sizes.nd rfl (by first | exact Or.inl rfl | exact Or.inr rfl)) (bx_one (sx_expr (ex_app (pv 1) (ex_op op_mulAny o2_mul (ox_tmp (ex_ix (ox_auto (pv 1)) (ox_tmp (ex_un un_neg o1_neg (ox_tmp ex_int))) (fun _ _ => rfl))) (ox_tmp (ex_ix (ox_tmp (ex_lst (ax_cons (ox_tmp ex_int) (ax_cons (ox_tmp ex_int) (ax_cons (ox_tmp ex_int) (ax_cons (ox_tmp (ex_op op_addAny o2_add (ox_tmp ex_int) (ox_tmp (ex_call C__law_take (hr.mono (by omega)) (ax_cons (ox_borS (pv 0)) (ax_cons (ox_tmp ex_int) ax_nil)) (aCons_len (aCons_len aNil_len)))))) ax_nil)))))) (ox_tmp (ex_call C__law_take (hr.mono (by omega)) (ax_cons (ox_borS (pv 0)) (ax_cons (ox_tmp ex_int) ax_nil)) (aCons_len (aCons_len aNil_len)))) (fun _ _ => rfl))))))))
    (bx_one (sx_ret (ex_mov (pv 1)))))))
/-! _law_sacks_right -/
def b__law_sacks_right : DS :=
    (sSeq (sPar 2 3 (aCons (oTmp (dCall d_parcels_of (aCons (oBorS 0) (aCons (oBorS 1) aNil)))) (aCons (oTmp (d2 fMul (oTmp (d2 fDiv (oTmp (d2 fSub (oTmp (d2 fAdd (oBorS 1) (oTmp (d2 fIx (oAuto 0) (oTmp (dC (.int 0))))))) (oTmp (dC (.int 1))))) (oTmp (d2 fIx (oAuto 0) (oTmp (dC (.int 0))))))) (oTmp (d2 fIx (oAuto 0) (oTmp (dC (.int 0))))))) aNil)))
    (sSeq (sIf (tOrD (tOf (d2 fNe (oTmp (dB fSum (aCons (oBorS 2) aNil))) (oBorS 3))) (tOf (d2 fNe (oTmp (dCall d_units_of (aCons (oBorS 2) (aCons (oTmp (d2 fIx (oAuto 0) (oTmp (dC (.int 0))))) aNil)))) (oTmp (d2 fDiv (oBorS 3) (oTmp (d2 fIx (oAuto 0) (oTmp (dC (.int 0)))))))))) (sRet (dC (.bl false))) sNil)
    (sSeq (sFor (iZp (aCons (oTmp (dUse 0)) (aCons (oTmp (d3 fSl (oAuto 0) (pSome (dC (.int 1))) pNone)) aNil))) (gTp [(gNm 4), (gNm 5)]) (sIf (tOrD (tOf (d2 fNe (oTmp (dCall d_units_of (aCons (oBorS 2) (aCons (oBorS 5) aNil)))) (oTmp (d2 fDiv (oBorS 3) (oBorS 5))))) (tOf (d2 fLt (oTmp (dCall d_units_of (aCons (oBorS 2) (aCons (oBorS 4) aNil)))) (oTmp (d2 fMul (oTmp (dCall d_units_of (aCons (oBorS 2) (aCons (oBorS 5) aNil)))) (oTmp (d2 fDiv (oBorS 5) (oBorS 4)))))))) (sRet (dC (.bl false))) sNil))
    (sRet (dCall (d__law_same 4) (aCons (oTmp (dLc [6] (iSeq (dUse 2)) (gNm 6) tYesD (dCall d_weight_in (aCons (oTmp (dCall d_weight_text (aCons (oBorS 6) aNil))) aNil)))) (aCons (oBorS 2) aNil)))))))
def d__law_sacks_right : DF := dFn 7 b__law_sacks_right
theorem sc__law_sacks_right : FnScope ["_law_sizes_here", "_law_amount", "_law_sacks", "_law_whole", "_law_size", "_law_other", "_law_sack"] ["_law_sizes_here", "_law_amount"] (defScope (top 28)) := ⟨rfl, rfl, rfl, by decide +kernel, rfl, by decide +kernel, by decide +kernel⟩
theorem ok__law_sacks_right (tx : Txt K mg) {f : Addr} {fd : FuncData} (F : FnP K "_law_sacks_right" (top 28) f fd) (C_parcels_of : Callee P w K mg base ca "parcels_of" ["sizes", "amount"] 1 d_parcels_of) (C_units_of : Callee P w K mg base ca "units_of" ["weights", "size"] 1 d_units_of) (C__law_same : Callee P w K mg base ca "_law_same" ["_law_found", "_law_due"] 4 (d__law_same 4)) (C_weight_in : Callee P w K mg base ca "weight_in" ["text"] 3 d_weight_in) (C_weight_text : Callee P w K mg base ca "weight_text" ["pounds"] 2 d_weight_text) : FnOk P w K mg base CX0 5 f fd ["_law_sizes_here", "_law_amount"] (spT K ca 2 d__law_sacks_right) :=
  fn_okD F sc__law_sacks_right (by decide) (fun cdv A outer s H E hr =>
    (bx_cons (sx_par rfl sc__law_sacks_right.nd rfl rfl (by decide) rfl rfl (ax_cons (ox_tmp (ex_call C_parcels_of (hr.mono (by omega)) (ax_cons (ox_borS (pv 0)) (ax_cons (ox_borS (pv 1)) ax_nil)) (aCons_len (aCons_len aNil_len)))) (ax_cons (ox_tmp (ex_op op_mulAny o2_mul (ox_tmp (ex_op op_fdivW o2_div (ox_tmp (ex_op op_sub o2_sub (ox_tmp (ex_op op_addAny o2_add (ox_borS (pv 1)) (ox_tmp (ex_ix (ox_auto (pv 0)) (ox_tmp ex_int) (fun _ _ => rfl))))) (ox_tmp ex_int))) (ox_tmp (ex_ix (ox_auto (pv 0)) (ox_tmp ex_int) (fun _ _ => rfl))))) (ox_tmp (ex_ix (ox_auto (pv 0)) (ox_tmp ex_int) (fun _ _ => rfl))))) ax_nil)) (by rfl))
    (bx_cons (sx_if (PW.pt (wx_or (tx_cmp (op_neA hr.units) o2_ne (ox_tmp (ex_callB (cr_sum rfl) on_sum tx.b_sum (ax_cons (ox_borS (pv 2)) ax_nil))) (ox_borS (pv 3)) (nomark _)) (wx_or1 (tx_cmp (op_neA hr.units) o2_ne (ox_tmp (ex_call C_units_of (hr.mono (by omega)) (ax_cons (ox_borS (pv 2)) (ax_cons (ox_tmp (ex_ix (ox_auto (pv 0)) (ox_tmp ex_int) (fun _ _ => rfl))) ax_nil)) (aCons_len (aCons_len aNil_len)))) (ox_tmp (ex_op op_fdivW o2_div (ox_borS (pv 3)) (ox_tmp (ex_ix (ox_auto (pv 0)) (ox_tmp ex_int) (fun _ _ => rfl))))) (nomark _))))) (bx_one (sx_ret ex_bl)) bx_nil)
    (bx_cons (sx_for PassesOwn.never rfl (ix_zip tx.b_zip (ax_cons (ox_tmp (ex_use (pv 0))) (ax_cons (ox_tmp (ex_sl (ox_auto (pv 0)) (px_some ex_int) px_none)) ax_nil))) (gx_tup rfl (gsx_cons (gx_name sc__law_sacks_right.nd rfl (by first | exact Or.inl rfl | exact Or.inr rfl)) (gsx_cons (gx_name sc__law_sacks_right.nd rfl (by first | exact Or.inl rfl | exact Or.inr rfl)) gsx_nil))) (bx_one (sx_if (PW.pt (wx_or (tx_cmp (op_neA hr.units) o2_ne (ox_tmp (ex_call C_units_of (hr.mono (by omega)) (ax_cons (ox_borS (pv 2)) (ax_cons (ox_borS (pv 5)) ax_nil)) (aCons_len (aCons_len aNil_len)))) (ox_tmp (ex_op op_fdivW o2_div (ox_borS (pv 3)) (ox_borS (pv 5)))) (nomark _)) (wx_or1 (tx_cmp op_ltA o2_lt (ox_tmp (ex_call C_units_of (hr.mono (by omega)) (ax_cons (ox_borS (pv 2)) (ax_cons (ox_borS (pv 4)) ax_nil)) (aCons_len (aCons_len aNil_len)))) (ox_tmp (ex_op op_mulAny o2_mul (ox_tmp (ex_call C_units_of (hr.mono (by omega)) (ax_cons (ox_borS (pv 2)) (ax_cons (ox_borS (pv 5)) ax_nil)) (aCons_len (aCons_len aNil_len)))) (ox_tmp (ex_op op_fdivW o2_div (ox_borS (pv 5)) (ox_borS (pv 4)))))) (nomark _))))) (bx_one (sx_ret ex_bl)) bx_nil)))
    (bx_one (sx_ret (ex_call C__law_same (hr.mono (by omega)) (ax_cons (ox_tmp (ex_lc (own := [("_law_sack", 6)]) (by decide) rfl sc__law_sacks_right.nd (ix_seq' (ex_use (pv 2))) (blkOk_by (own := [("_law_sack", 6)]) (by rfl)) (fun _ _ _ _ _ => (gx_name sc__law_sacks_right.nd rfl (by first | exact Or.inl rfl | exact Or.inr rfl))) (fun _ _ _ _ _ => tsx_nil) (fun _ _ _ _ _ => (ex_call C_weight_in (hr.mono (by omega)) (ax_cons (ox_tmp (ex_call C_weight_text (hr.mono (by omega)) (ax_cons (ox_borS (pv 6)) ax_nil) (aCons_len aNil_len))) ax_nil) (aCons_len aNil_len))))) (ax_cons (ox_borS (pv 2)) ax_nil)) (aCons_len (aCons_len aNil_len)))))))))
/-! _law_grown_right -/
def b__law_grown_right : DS :=
    (sSeq (sAsg (dB fList (aCons (oTmp (d3 fSl (oAuto 1) pNone (pSome (dC (.int 1))))) aNil)) (gNm 2))
    (sSeq (sFor (iR2 (aCons (oTmp (dC (.int 1))) (aCons (oTmp (d2 fAdd (oTmp (dB fLen (aCons (oBorS 1) aNil))) (oTmp (dC (.int 1))))) aNil))) (gNm 3) (sSeq (sAsg (dCall d__law_wide (aCons (oBorS 0) (aCons (oTmp (d2 fAdd (oTmp (d2 fMul (oTmp (dC (.int 40))) (oTmp (d2 fIx (oAuto 2) (oTmp (d1 fNeg (oTmp (dC (.int 1))))))))) (oTmp (dC (.int 1))))) aNil))) (gNm 4))
    (sSeq (sIf (tOrD (tNotD (tOf (dCall d_is_sizes (aCons (oBorS 2) aNil)))) (tOrD (tNotD (tOf (dCall d__law_sacks_right (aCons (oBorS 2) (aCons (oBorS 4) aNil))))) (tOf (dCall d_is_sizes (aCons (oTmp (d2 fAdd (oBorS 2) (oTmp (d3 fSl (oAuto 2) (pSome (d1 fNeg (oTmp (dC (.int 1))))) pNone)))) aNil))))) (sRet (dC (.bl false))) sNil)
    (sSeq (sAsg (dCall d_parcels_of (aCons (oBorS 2) (aCons (oBorS 4) aNil))) (gNm 5))
    (sSeq (sDrop (dExt 2 (oTmp (d3 fSl (oAuto 1) (pSome (dUse 3)) (pSome (d2 fAdd (oBorS 3) (oTmp (dC (.int 1)))))))))
    (sSeq (sAsg (d2 fMul (oTmp (d2 fDiv (oTmp (d2 fSub (oTmp (d2 fAdd (oBorS 4) (oTmp (d2 fIx (oAuto 2) (oTmp (dC (.int 0))))))) (oTmp (dC (.int 1))))) (oTmp (d2 fIx (oAuto 2) (oTmp (dC (.int 0))))))) (oTmp (d2 fIx (oAuto 2) (oTmp (dC (.int 0)))))) (gNm 6))
    (sSeq (sIf (tAndD (tOf (d2 fLt (oBorS 6) (oTmp (d2 fIx (oAuto 2) (oTmp (d1 fNeg (oTmp (dC (.int 1))))))))) (tAndD (tOf (d2 fLt (oBorS 3) (oTmp (dB fLen (aCons (oBorS 1) aNil))))) (tOf (d2 fNe (oTmp (dCall d_parcels_of (aCons (oBorS 2) (aCons (oBorS 4) aNil)))) (oBorS 5))))) (sRet (dC (.bl false))) sNil)
    (sIf (tOf (d2 fNe (oBorS 2) (oTmp (d3 fSl (oAuto 1) pNone (pSome (d2 fAdd (oBorS 3) (oTmp (dC (.int 1))))))))) (sRet (dC (.bl false))) sNil))))))))
    (sSeq (sDrop (dPopL 2))
    (sRet (dOrD (d2 fEq (oBorS 2) (oTmp (dLst aNil))) (dCall (d__law_same 4) (aCons (oTmp (dCall d_parcels_of (aCons (oBorS 2) (aCons (oTmp (d2 fIx (oAuto 2) (oTmp (d1 fNeg (oTmp (dC (.int 1))))))) aNil)))) (aCons (oTmp (d3 fSl (oAuto 2) (pSome (d1 fNeg (oTmp (dC (.int 1))))) pNone)) aNil))))))))
def d__law_grown_right : DF := dFn 7 b__law_grown_right
theorem sc__law_grown_right : FnScope ["_law_box_here", "_law_sizes_here", "_law_own", "_law_k", "_law_amount", "_law_before", "_law_whole"] ["_law_box_here", "_law_sizes_here"] (defScope (top 29)) := ⟨rfl, rfl, rfl, by decide +kernel, rfl, by decide +kernel, by decide +kernel⟩
theorem ok__law_grown_right (tx : Txt K mg) {f : Addr} {fd : FuncData} (F : FnP K "_law_grown_right" (top 29) f fd) (C__law_wide : Callee P w K mg base ca "_law_wide" ["_law_box_here", "_law_many"] 2 d__law_wide) (C_is_sizes : Callee P w K mg base ca "is_sizes" ["thing"] 2 d_is_sizes) (C__law_sacks_right : Callee P w K mg base ca "_law_sacks_right" ["_law_sizes_here", "_law_amount"] 5 d__law_sacks_right) (C_parcels_of : Callee P w K mg base ca "parcels_of" ["sizes", "amount"] 1 d_parcels_of) (C__law_same : Callee P w K mg base ca "_law_same" ["_law_found", "_law_due"] 4 (d__law_same 4)) : FnOk P w K mg base CX0 6 f fd ["_law_box_here", "_law_sizes_here"] (spT K ca 2 d__law_grown_right) :=
  fn_okD F sc__law_grown_right (by decide) (fun cdv A outer s H E hr =>
    (bx_cons (sx_set (i := 2) sc__law_grown_right.nd rfl (by first | exact Or.inl rfl | exact Or.inr rfl) (ex_callTy call_list_of on_list tx.b_list (ax_cons (ox_tmp (ex_sl (ox_auto (pv 1)) px_none (px_some ex_int))) ax_nil)))
    (bx_cons (sx_for PassesOwn.never rfl (ix_r2 tx.b_range (ax_cons (ox_tmp ex_int) (ax_cons (ox_tmp (ex_op op_addAny o2_add (ox_tmp (ex_callB call_lenAny on_len tx.b_len (ax_cons (ox_borS (pv 1)) ax_nil))) (ox_tmp ex_int))) ax_nil))) (gx_name sc__law_grown_right.nd rfl (by first | exact Or.inl rfl | exact Or.inr rfl)) (bx_cons (sx_set (i := 4) sc__law_grown_right.nd rfl (by first | exact Or.inl rfl | exact Or.inr rfl) (ex_call C__law_wide (hr.mono (by omega)) (ax_cons (ox_borS (pv 0)) (ax_cons (ox_tmp (ex_op op_addAny o2_add (ox_tmp (ex_op op_mulAny o2_mul (ox_tmp ex_int) (ox_tmp (ex_ix (ox_auto (pv 2)) (ox_tmp (ex_un un_neg o1_neg (ox_tmp ex_int))) (fun _ _ => rfl))))) (ox_tmp ex_int))) ax_nil)) (aCons_len (aCons_len aNil_len))))
    (bx_cons (sx_if (PW.pt (wx_or (tx_not (tx_val (ex_call C_is_sizes (hr.mono (by omega)) (ax_cons (ox_borS (pv 2)) ax_nil) (aCons_len aNil_len)))) (wx_or (tx_not (tx_val (ex_call C__law_sacks_right (hr.mono (by omega)) (ax_cons (ox_borS (pv 2)) (ax_cons (ox_borS (pv 4)) ax_nil)) (aCons_len (aCons_len aNil_len))))) (wx_or1 (tx_val (ex_call C_is_sizes (hr.mono (by omega)) (ax_cons (ox_tmp (ex_op op_addAny o2_add (ox_borS (pv 2)) (ox_tmp (ex_sl (ox_auto (pv 2)) (px_some (ex_un un_neg o1_neg (ox_tmp ex_int))) px_none)))) ax_nil) (aCons_len aNil_len))))))) (bx_one (sx_ret ex_bl)) bx_nil)
    (bx_cons (sx_set (i := 5) sc__law_grown_right.nd rfl (by first | exact Or.inl rfl | exact Or.inr rfl) (ex_call C_parcels_of (hr.mono (by omega)) (ax_cons (ox_borS (pv 2)) (ax_cons (ox_borS (pv 4)) ax_nil)) (aCons_len (aCons_len aNil_len))))
    (bx_cons (sx_expr (ex_ext (pv 2) (ox_tmp (ex_sl (ox_auto (pv 1)) (px_some (ex_use (pv 3))) (px_some (ex_op op_addAny o2_add (ox_borS (pv 3)) (ox_tmp ex_int)))))))
    (bx_cons (sx_set (i := 6) sc__law_grown_right.nd rfl (by first | exact Or.inl rfl | exact Or.inr rfl) (ex_op op_mulAny o2_mul (ox_tmp (ex_op op_fdivW o2_div (ox_tmp (ex_op op_sub o2_sub (ox_tmp (ex_op op_addAny o2_add (ox_borS (pv 4)) (ox_tmp (ex_ix (ox_auto (pv 2)) (ox_tmp ex_int) (fun _ _ => rfl))))) (ox_tmp ex_int))) (ox_tmp (ex_ix (ox_auto (pv 2)) (ox_tmp ex_int) (fun _ _ => rfl))))) (ox_tmp (ex_ix (ox_auto (pv 2)) (ox_tmp ex_int) (fun _ _ => rfl)))))
    (bx_cons (sx_if (PW.pt (wx_and (tx_cmp op_ltA o2_lt (ox_borS (pv 6)) (ox_tmp (ex_ix (ox_auto (pv 2)) (ox_tmp (ex_un un_neg o1_neg (ox_tmp ex_int))) (fun _ _ => rfl))) (nomark _)) (wx_and (tx_cmp op_ltA o2_lt (ox_borS (pv 3)) (ox_tmp (ex_callB call_lenAny on_len tx.b_len (ax_cons (ox_borS (pv 1)) ax_nil))) (nomark _)) (wx_and1 (tx_cmp (op_neA hr.units) o2_ne (ox_tmp (ex_call C_parcels_of (hr.mono (by omega)) (ax_cons (ox_borS (pv 2)) (ax_cons (ox_borS (pv 4)) ax_nil)) (aCons_len (aCons_len aNil_len)))) (ox_borS (pv 5)) (nomark _)))))) (bx_one (sx_ret ex_bl)) bx_nil)
    (bx_one (sx_if (tx_cmp (op_neA hr.units) o2_ne (ox_borS (pv 2)) (ox_tmp (ex_sl (ox_auto (pv 1)) px_none (px_some (ex_op op_addAny o2_add (ox_borS (pv 3)) (ox_tmp ex_int))))) (nomark _)) (bx_one (sx_ret ex_bl)) bx_nil)))))))))
    (bx_cons (sx_expr (ex_popL (pv 2)))
    (bx_one (sx_ret (ex_or (ex_cmp (op_eqA hr.units) o2_eq (ox_borS (pv 2)) (ox_tmp (ex_lst ax_nil)) (nomark _)) (ex_one (ex_call C__law_same (hr.mono (by omega)) (ax_cons (ox_tmp (ex_call C_parcels_of (hr.mono (by omega)) (ax_cons (ox_borS (pv 2)) (ax_cons (ox_tmp (ex_ix (ox_auto (pv 2)) (ox_tmp (ex_un un_neg o1_neg (ox_tmp ex_int))) (fun _ _ => rfl))) ax_nil)) (aCons_len (aCons_len aNil_len)))) (ax_cons (ox_tmp (ex_sl (ox_auto (pv 2)) (px_some (ex_un un_neg o1_neg (ox_tmp ex_int))) px_none)) ax_nil)) (aCons_len (aCons_len aNil_len)))))))))))
/-! _law_right -/
def b__law_right : DS :=
    (sSeq (sAsg (dLst (aCons (oTmp (dCall d__law_sizes (aCons (oBorS 0) aNil))) (aCons (oTmp (dCall d__law_sizes (aCons (oBorS 0) aNil))) aNil))) (gNm 1))
    (sSeq (sAsg (dLc [7] (iR1 (aCons (oTmp (dC (.int 6))) aNil)) (gNm 7) tYesD (dTup (aCons (oTmp (d2 fMod (oBorS 7) (oTmp (dC (.int 2))))) (aCons (oTmp (dCall d__law_wide (aCons (oBorS 0) (aCons (oTmp (d2 fAdd (oTmp (d2 fMul (oTmp (dC (.int 40))) (oTmp (d2 fIx (oTmp (d2 fIx (oAuto 1) (oTmp (d2 fMod (oBorS 7) (oTmp (dC (.int 2))))))) (oTmp (d1 fNeg (oTmp (dC (.int 1))))))))) (oTmp (dC (.int 1))))) aNil)))) aNil)))) (gNm 2))
    (sSeq (sAsg (dLc [8, 9] (iSeq (dUse 2)) (gTp [(gNm 8), (gNm 9)]) tYesD (dCall d_parcels_of (aCons (oTmp (d2 fIx (oAuto 1) (oBorS 8))) (aCons (oBorS 9) aNil)))) (gNm 3))
    (sSeq (sAsg (dCall (d__law_copied 4) (aCons (oBorS 3) aNil)) (gNm 4))
    (sSeq (sFor (iR3 (aCons (oTmp (dC (.int 5))) (aCons (oTmp (d1 fNeg (oTmp (dC (.int 1))))) (aCons (oTmp (d1 fNeg (oTmp (dC (.int 1))))) aNil)))) (gNm 5) (sSeq (sAsg (d2 fIx (oAuto 2) (oBorS 5)) (gTp [(gNm 8), (gNm 9)]))
    (sSeq (sAsg (dCall d_parcels_of (aCons (oTmp (d2 fIx (oAuto 1) (oBorS 8))) (aCons (oBorS 9) aNil))) (gNm 6))
    (sSeq (sIf (tOrD (tNotD (tOf (dCall (d__law_same 4) (aCons (oBorS 6) (aCons (oTmp (d2 fIx (oAuto 4) (oBorS 5))) aNil))))) (tNotD (tOf (dCall (d__law_same 4) (aCons (oBorS 3) (aCons (oBorS 4) aNil)))))) (sRet (dC (.bl false))) sNil)
    (sDrop (dCall (d__law_marked 2) (aCons (oTmp (dHnd (dMov 6))) aNil)))))))
    (sRet (dB fAll (aCons (oTmp (dLc [10] (iSeq (dUse 1)) (gNm 10) tYesD (dCall d__law_grown_right (aCons (oBorS 0) (aCons (oBorS 10) aNil))))) aNil))))))))
def d__law_right : DF := dFn 11 b__law_right
theorem sc__law_right : FnScope ["_law_box_here", "_law_rows", "_law_asks", "_law_first", "_law_kept", "_law_k", "_law_told", "_law_turn", "_law_which", "_law_amount", "_law_row"] ["_law_box_here"] (defScope (top 30)) := ⟨rfl, rfl, rfl, by decide +kernel, rfl, by decide +kernel, by decide +kernel⟩
theorem ok__law_right (tx : Txt K mg) {f : Addr} {fd : FuncData} (F : FnP K "_law_right" (top 30) f fd) (C__law_sizes : Callee P w K mg base ca "_law_sizes" ["_law_box_here"] 2 d__law_sizes) (C__law_wide : Callee P w K mg base ca "_law_wide" ["_law_box_here", "_law_many"] 2 d__law_wide) (C_parcels_of : Callee P w K mg base ca "parcels_of" ["sizes", "amount"] 1 d_parcels_of) (C__law_copied : Callee P w K mg base ca "_law_copied" ["_law_thing"] 4 (d__law_copied 4)) (C__law_same : Callee P w K mg base ca "_law_same" ["_law_found", "_law_due"] 4 (d__law_same 4)) (C__law_marked : Callee P w K mg base ca "_law_marked" ["_law_thing"] 2 (d__law_marked 2)) (C__law_grown_right : Callee P w K mg base ca "_law_grown_right" ["_law_box_here", "_law_sizes_here"] 6 d__law_grown_right) : FnOk P w K mg base CX0 7 f fd ["_law_box_here"] (spT K ca 1 d__law_right) :=
  fn_okD F sc__law_right (by decide) (fun cdv A outer s H E hr =>
    (bx_cons (sx_set (i := 1) sc__law_right.nd rfl (by first | exact Or.inl rfl | exact Or.inr rfl) (ex_lst (ax_cons (ox_tmp (ex_call C__law_sizes (hr.mono (by omega)) (ax_cons (ox_borS (pv 0)) ax_nil) (aCons_len aNil_len))) (ax_cons (ox_tmp (ex_call C__law_sizes (hr.mono (by omega)) (ax_cons (ox_borS (pv 0)) ax_nil) (aCons_len aNil_len))) ax_nil))))
    (bx_cons (sx_setLc (i := 2) (own := [("_law_turn", 7)]) (by decide) rfl sc__law_right.nd rfl rfl (sw_true rfl rfl rfl (by decide +kernel)) (ix_r1 tx.b_range (ax_cons (ox_tmp ex_int) ax_nil)) (blkOk_by (own := [("_law_turn", 7)]) (by rfl)) (fun _ _ _ _ _ => (gx_name sc__law_right.nd rfl (by first | exact Or.inl rfl | exact Or.inr rfl))) (fun _ _ _ _ _ => tsx_nil) (fun _ _ _ _ _ => (ex_tup (ax_cons (ox_tmp (ex_op op_mod o2_mod (ox_borS (pv 7)) (ox_tmp ex_int))) (ax_cons (ox_tmp (ex_call C__law_wide (hr.mono (by omega)) (ax_cons (ox_borS (pv 0)) (ax_cons (ox_tmp (ex_op op_addAny o2_add (ox_tmp (ex_op op_mulAny o2_mul (ox_tmp ex_int) (ox_tmp (ex_ix (ox_tmp (ex_ix (ox_auto (pv 1)) (ox_tmp (ex_op op_mod o2_mod (ox_borS (pv 7)) (ox_tmp ex_int))) (fun _ _ => rfl))) (ox_tmp (ex_un un_neg o1_neg (ox_tmp ex_int))) (fun _ _ => rfl))))) (ox_tmp ex_int))) ax_nil)) (aCons_len (aCons_len aNil_len)))) ax_nil)))))
    (bx_cons (sx_setLc (i := 3) (own := [("_law_which", 8), ("_law_amount", 9)]) (by decide) rfl sc__law_right.nd rfl rfl (sw_true rfl rfl rfl (by decide +kernel)) (ix_seq' (ex_use (pv 2))) (blkOk_by (own := [("_law_which", 8), ("_law_amount", 9)]) (by rfl)) (fun _ _ _ _ _ => (gx_tup rfl (gsx_cons (gx_name sc__law_right.nd rfl (by first | exact Or.inl rfl | exact Or.inr rfl)) (gsx_cons (gx_name sc__law_right.nd rfl (by first | exact Or.inl rfl | exact Or.inr rfl)) gsx_nil)))) (fun _ _ _ _ _ => tsx_nil) (fun _ _ _ _ _ => (ex_call C_parcels_of (hr.mono (by omega)) (ax_cons (ox_tmp (ex_ix (ox_auto (pv 1)) (ox_borS (pv 8)) (fun _ _ => rfl))) (ax_cons (ox_borS (pv 9)) ax_nil)) (aCons_len (aCons_len aNil_len)))))
    (bx_cons (sx_set (i := 4) sc__law_right.nd rfl (by first | exact Or.inl rfl | exact Or.inr rfl) (ex_call C__law_copied (hr.mono (by omega)) (ax_cons (ox_borS (pv 3)) ax_nil) (aCons_len aNil_len)))
    (bx_cons (sx_for PassesOwn.never rfl (ix_r3 tx.b_range (ax_cons (ox_tmp ex_int) (ax_cons (ox_tmp (ex_un un_neg o1_neg (ox_tmp ex_int))) (ax_cons (ox_tmp (ex_un un_neg o1_neg (ox_tmp ex_int))) ax_nil)))) (gx_name sc__law_right.nd rfl (by first | exact Or.inl rfl | exact Or.inr rfl)) (bx_cons (sx_asg (ex_ix (ox_auto (pv 2)) (ox_borS (pv 5)) (fun _ _ => rfl)) (gx_tup rfl (gsx_cons (gx_name sc__law_right.nd rfl (by first | exact Or.inl rfl | exact Or.inr rfl)) (gsx_cons (gx_name sc__law_right.nd rfl (by first | exact Or.inl rfl | exact Or.inr rfl)) gsx_nil))))
    (bx_cons (sx_set (i := 6) sc__law_right.nd rfl (by first | exact Or.inl rfl | exact Or.inr rfl) (ex_call C_parcels_of (hr.mono (by omega)) (ax_cons (ox_tmp (ex_ix (ox_auto (pv 1)) (ox_borS (pv 8)) (fun _ _ => rfl))) (ax_cons (ox_borS (pv 9)) ax_nil)) (aCons_len (aCons_len aNil_len))))
    (bx_cons (sx_if (PW.pt (wx_or (tx_not (tx_val (ex_call C__law_same (hr.mono (by omega)) (ax_cons (ox_borS (pv 6)) (ax_cons (ox_tmp (ex_ix (ox_auto (pv 4)) (ox_borS (pv 5)) (fun _ _ => rfl))) ax_nil)) (aCons_len (aCons_len aNil_len))))) (wx_or1 (tx_not (tx_val (ex_call C__law_same (hr.mono (by omega)) (ax_cons (ox_borS (pv 3)) (ax_cons (ox_borS (pv 4)) ax_nil)) (aCons_len (aCons_len aNil_len)))))))) (bx_one (sx_ret ex_bl)) bx_nil)
    (bx_one (sx_expr (ex_call C__law_marked (hr.mono (by omega)) (ax_cons (ox_tmp (ex_hnd (ex_mov (pv 6)))) ax_nil) (aCons_len aNil_len))))))))
    (bx_one (sx_ret (ex_callB (cr_all rfl) on_all tx.b_all (ax_cons (ox_tmp (ex_lc (own := [("_law_row", 10)]) (by decide) rfl sc__law_right.nd (ix_seq' (ex_use (pv 1))) (blkOk_by (own := [("_law_row", 10)]) (by rfl)) (fun _ _ _ _ _ => (gx_name sc__law_right.nd rfl (by first | exact Or.inl rfl | exact Or.inr rfl))) (fun _ _ _ _ _ => tsx_nil) (fun _ _ _ _ _ => (ex_call C__law_grown_right (hr.mono (by omega)) (ax_cons (ox_borS (pv 0)) (ax_cons (ox_borS (pv 10)) ax_nil)) (aCons_len (aCons_len aNil_len)))))) ax_nil))))))))))
/-! law -/
def b_law : DS :=
    (sSeq (sAsg (dCall d__law_folded (aCons (oBorS 0) (aCons (oTmp (dC (.int 6))) aNil))) (gNm 1))
    (sRet (dB fAll (aCons (oTmp (dLc [2] (iR1 (aCons (oTmp (dB fMax (aCons (oTmp (dC (.int 1))) (aCons (oTmp (dB fLen (aCons (oBorS 1) aNil))) aNil)))) aNil)) (gNm 2) tYesD (dCall d__law_right (aCons (oTmp (dHnd (dCall d__law_box (aCons (oBorS 1) (aCons (oBorS 2) aNil))))) aNil)))) aNil))))
def d_law : DF := dFn 3 b_law
theorem sc_law : FnScope ["_law_script", "_law_cells", "_law_k"] ["_law_script"] (defScope (top 31)) := ⟨rfl, rfl, rfl, by decide +kernel, rfl, by decide +kernel, by decide +kernel⟩
theorem ok_law (tx : Txt K mg) {f : Addr} {fd : FuncData} (F : FnP K "law" (top 31) f fd) (C__law_folded : Callee P w K mg base ca "_law_folded" ["_law_script", "_law_size"] 1 d__law_folded) (C__law_right : Callee P w K mg base ca "_law_right" ["_law_box_here"] 7 d__law_right) (C__law_box : Callee P w K mg base ca "_law_box" ["_law_script", "_law_k"] 1 d__law_box) : FnOk P w K mg base CX0 8 f fd ["_law_script"] (spT K ca 1 d_law) :=
  fn_okD F sc_law (by decide) (fun cdv A outer s H E hr =>
    (bx_cons (sx_set (i := 1) sc_law.nd rfl (by first | exact Or.inl rfl | exact Or.inr rfl) (ex_call C__law_folded (hr.mono (by omega)) (ax_cons (ox_borS (pv 0)) (ax_cons (ox_tmp ex_int) ax_nil)) (aCons_len (aCons_len aNil_len))))
    (bx_one (sx_ret (ex_callB (cr_all rfl) on_all tx.b_all (ax_cons (ox_tmp (ex_lc (own := [("_law_k", 2)]) (by decide) rfl sc_law.nd (ix_r1 tx.b_range (ax_cons (ox_tmp (ex_callB (TL.CallR.or (cr_max rfl) (call_max2 rfl)) on_max tx.b_max (ax_cons (ox_tmp ex_int) (ax_cons (ox_tmp (ex_callB call_lenAny on_len tx.b_len (ax_cons (ox_borS (pv 1)) ax_nil))) ax_nil)))) ax_nil)) (blkOk_by (own := [("_law_k", 2)]) (by rfl)) (fun _ _ _ _ _ => (gx_name sc_law.nd rfl (by first | exact Or.inl rfl | exact Or.inr rfl))) (fun _ _ _ _ _ => tsx_nil) (fun _ _ _ _ _ => (ex_call C__law_right (hr.mono (by omega)) (ax_cons (ox_tmp (ex_hnd (ex_call C__law_box (hr.mono (by omega)) (ax_cons (ox_borS (pv 1)) (ax_cons (ox_borS (pv 2)) ax_nil)) (aCons_len (aCons_len aNil_len))))) ax_nil) (aCons_len aNil_len))))) ax_nil))))))
end
end Wk08

set_option Elab.async false
set_option linter.all false
set_option maxRecDepth 100000
set_option exponentiation.threshold 10000
namespace Wk08
open PySem PySem.Spec L2 TL
theorem log_ok {s : Int} (hs : 0 < s) (hl : s < 2 ^ 62) : s.natAbs.log2 < 9000 := by
  have h1 : s.natAbs < 2 ^ 62 := by omega
  have h2 : s.natAbs.log2 < 62 := (Nat.log2_lt (by omega)).mpr h1
  omega
theorem okDiv_of (i : Int) {s : Int} (hs : 0 < s) (hl : s < 2 ^ 62) : okDiv i s = true := decide_eq_true ⟨hs, log_ok hs hl⟩
/-! ### the box -/
def Bx (O : List Ob) (n : Nat) (k : Nat) : Prop := ∃ a b c : Int, O[n]? = some (.lst [.int a, .int b, .int c]) ∧ 0 ≤ a ∧ 0 ≤ b ∧ b < 2 ^ 60 ∧ 0 ≤ c ∧ c ≤ k
theorem Bx.mono {O : List Ob} {n k k' : Nat} (h : Bx O n k) (hk : k ≤ k') : Bx O n k' := by
  obtain ⟨a, b, c, h1, h2, h3, h4, h5, h6⟩ := h
  exact ⟨a, b, c, h1, h2, h3, h4, h5, by omega⟩
theorem set_at {O : List Ob} {n : Nat} {x y : Ob} (h : O[n]? = some x) : (O.set n y)[n]? = some y := by
  rw [List.getElem?_set_self]
  exact (List.getElem?_eq_some_iff.mp h).1
theorem e_take {O : List Ob} {n k : Nat} {m : Int} (h : Bx O n k) (hm : 0 < m) (hm2 : m < 2 ^ 62) (hk : k < 2 ^ 40) : ∃ r O', d__law_take [.hnd n, .int m] O = some (.int r, O') ∧ 0 ≤ r ∧ r < m ∧ Bx O' n (k + 1) := by
  obtain ⟨a, b, c, h1, h2, h3, h4, h5, h6⟩ := h
  by_cases ha : 0 < a
  · refine ⟨a % m, O.set n (.lst [.int (a / m), .int b, .int c]), ?_, Int.emod_nonneg _ (by omega), Int.emod_lt_of_pos _ hm, a / m, b, c, set_at h1, Int.ediv_nonneg h2 (by omega), h3, h4, h5, by omega⟩
    simp [d__law_take, dFn, b__law_take, view_hnd h1, ha, hm, getL, putL, h1, ixN, okDiv_of a hm hm2]
  · have hs2 : (O.set n (.lst [.int a, .int b, .int (c + 1)]))[n]? = some (.lst [.int a, .int b, .int (c + 1)]) := set_at h1
    let once := (b + 39373 * (c + 1)) * (69621 + (c + 1) * (c + 1)) % 2147483587
    let twice := (once * (once % 30011 + 5) + (c + 1)) % 2147483563
    refine ⟨twice * (twice % 1013 + 3) % 998244353 / 16 % m, O.set n (.lst [.int a, .int b, .int (c + 1)]), ?_, Int.emod_nonneg _ (by omega), Int.emod_lt_of_pos _ hm, a, b, c + 1, hs2, h2, h3, h4, by omega, by omega⟩
    have i2 : atI [T.int a, T.int b, T.int (c + 1)] 2 = some (.int (c + 1)) := atI_nat (j := 2) rfl (by simp)
    have i2' : atI [T.int a, T.int b, T.int c] 2 = some (.int c) := atI_nat (j := 2) rfl (by simp)
    have i1 : atI [T.int a, T.int b, T.int (c + 1)] 1 = some (.int b) := atI_nat (j := 1) rfl (by simp)
    have sm1 : smallI (c + 1) = true := decide_eq_true ⟨by omega, by omega⟩
    have sm2 : smallI (b + 39373 * (c + 1)) = true := decide_eq_true ⟨by omega, by omega⟩
    have sm3 : ∀ x : Int, smallI (x % 2147483587) = true := fun x => decide_eq_true ⟨by omega, by omega⟩
    have sm4 : ∀ x : Int, smallI (x % 2147483563) = true := fun x => decide_eq_true ⟨by omega, by omega⟩
    have sm5 : smallI 39373 = true := by decide
    have q1 : ∀ x : Int, okDiv x 16 = true := fun x => okDiv_of x (by omega) (by omega)
    simp [d__law_take, dFn, b__law_take, view_hnd h1, view_hnd hs2, ha, hm, getL, putL, h1, hs2, ixN, i2, i2', i1, sm1, sm2, sm3, sm4, sm5, q1, once, twice]
theorem e_wide {O : List Ob} {n k : Nat} {m : Int} (h : Bx O n k) (hm : 0 < m) (hk : k < 2 ^ 39) : ∃ r O', d__law_wide [.hnd n, .int m] O = some (.int r, O') ∧ 0 ≤ r ∧ r < m ∧ Bx O' n (k + 4) := by
  have loop : ∀ (ts : List T) (f : Int) (k : Nat) (x : Option T) (O : List Ob), Bx O n k → k + ts.length < 2 ^ 40 → ∃ (f' : Int) (y : Option T) (O' : List Ob), forGo (gNm 3) (sAsg (d2 fAdd (oTmp (d2 fMul (oBorS 2) (oTmp (d2 fPow (oTmp (dC (.int 10))) (oTmp (dC (.int 9))))))) (oTmp (dCall d__law_take (aCons (oBorS 0) (aCons (oTmp (d2 fPow (oTmp (dC (.int 10))) (oTmp (dC (.int 9))))) aNil))))) (gNm 2)) ts ([some (.hnd n), some (.int m), some (.int f), x], O) = some (.nx, ([some (.hnd n), some (.int m), some (.int f'), y], O')) ∧ Bx O' n (k + ts.length) := by
    intro ts
    induction ts with
    | nil => intro f k x O h _; exact ⟨f, x, O, rfl, h⟩
    | cons t ts ih =>
      intro f k x O h hk
      rw [List.length_cons] at hk
      obtain ⟨r, O1, e1, _, _, b1⟩ := e_take (m := 1000000000) h (by omega) (by omega) (by omega)
      obtain ⟨f', y, O', e2, b2⟩ := ih (f * 1000000000 + r) (k + 1) (some t) O1 b1 (by omega)
      refine ⟨f', y, O', forGo_step ?_ e2, by rw [List.length_cons]; exact b2.mono (by omega)⟩
      have sm : smallI 1000000000 = true := by decide
      simp [e1, sm]
  obtain ⟨f', y, O', e, b⟩ := loop (rangeT 0 1 4) 0 k none O h (by show k + 4 < 2 ^ 40; omega)
  refine ⟨f' % m, O', ?_, Int.emod_nonneg _ (by omega), Int.emod_lt_of_pos _ hm, b⟩
  have ok4 : okR 4 = true := by decide
  simp [d__law_wide, dFn, b__law_wide, ok4, e, hm]

/-! ### parcels -/
def par : List Int → Int → List Int
  | [], _ => []
  | s :: r, left => List.replicate (left / s).toNat s ++ par r (left % s)
def rest : List Int → Int → Int
  | [], left => left
  | s :: r, left => rest r (left % s)
/-- from the greatest on: each 2 to 12 times the next one -/
def Dn : List Int → Prop
  | [] => True
  | [a] => 0 < a
  | a :: b :: r => (∃ m : Int, a = b * m ∧ 2 ≤ m ∧ m ≤ 12) ∧ Dn (b :: r)
theorem Dn.tail {a : Int} {r : List Int} (h : Dn (a :: r)) : Dn r := by
  cases r with
  | nil => trivial
  | cons b r => exact h.2
theorem Dn.pos : ∀ {l : List Int}, Dn l → ∀ s ∈ l, 0 < s
  | [], _, s, m => absurd m (by simp)
  | [a], h, s, m => by
    rcases List.mem_singleton.mp m with rfl; exact h
  | a :: b :: r, ⟨⟨m, h1, h2, h3⟩, h⟩, s, ms => by
    have hb := Dn.pos h b (by simp)
    rcases List.mem_cons.mp ms with rfl | ms
    · rw [h1]; exact Int.mul_pos hb (by omega)
    · exact Dn.pos h s ms
theorem par_len : ∀ {r : List Int} {s : Int} {left : Int} {k : Nat}, Dn (s :: r) → 0 ≤ left → left < s * k → (par (s :: r) left).length ≤ k + 12 * r.length
  | [], s, left, k, h, h0, hl => by
    have hs : 0 < s := h
    have : left / s < k := Int.ediv_lt_of_lt_mul hs (by rw [Int.mul_comm]; exact hl)
    simp [par]
    omega
  | b :: r, s, left, k, h, h0, hl => by
    obtain ⟨⟨m, h1, h2, h3⟩, h4⟩ := h
    have hb := Dn.pos h4 b (by simp)
    have hs : 0 < s := by rw [h1]; exact Int.mul_pos hb (by omega)
    have q1 : left / s < k := Int.ediv_lt_of_lt_mul hs (by rw [Int.mul_comm]; exact hl)
    have q2 : left % s < b * (12 : Nat) := by
      have : left % s < s := Int.emod_lt_of_pos _ hs
      have : b * m ≤ b * 12 := Int.mul_le_mul_of_nonneg_left h3 (by omega)
      show left % s < b * 12
      omega
    have ih := par_len (k := 12) h4 (Int.emod_nonneg _ (by omega)) q2
    have e : par (s :: b :: r) left = List.replicate (left / s).toNat s ++ par (b :: r) (left % s) := rfl
    rw [e, List.length_append, List.length_replicate, List.length_cons]
    omega
theorem par_sum : ∀ (l : List Int) (left : Int), Dn l → 0 ≤ left → (par l left).sum = left - rest l left
  | [], left, _, _ => by simp [par, rest]
  | s :: r, left, h, h0 => by
    have hs := h.pos s (by simp)
    show (List.replicate (left / s).toNat s ++ par r (left % s)).sum = left - rest r (left % s)
    rw [List.sum_append, par_sum r _ h.tail (Int.emod_nonneg _ (by omega)), List.sum_replicate_int]
    have : 0 ≤ left / s := Int.ediv_nonneg h0 (by omega)
    have e := Int.emod_add_mul_ediv left s
    have e2 : ((left / s).toNat : Int) = left / s := Int.toNat_of_nonneg this
    rw [e2, Int.mul_comm]
    omega
theorem Dn.dvd : ∀ {l : List Int}, Dn l → ∀ {s : Int}, l.getLast? = some s → ∀ x ∈ l, s ∣ x
  | [], _, s, e, x, m => absurd m (by simp)
  | [a], _, s, e, x, m => by
    simp at e m; rw [m, e]; exact Int.dvd_refl _
  | a :: b :: r, ⟨⟨k, h1, _⟩, h⟩, s, e, x, m => by
    have e2 : (b :: r).getLast? = some s := by rw [← e, List.getLast?_cons_cons]
    rcases List.mem_cons.mp m with rfl | m
    · rw [h1]; exact Int.dvd_mul_of_dvd_left (Dn.dvd h e2 b (by simp))
    · exact Dn.dvd h e2 x m
theorem rest_last : ∀ {l : List Int} {s left : Int}, Dn l → l.getLast? = some s → rest l left = left % s
  | [], s, left, _, e => by cases e
  | [a], s, left, _, e => by simp at e; rw [← e]; rfl
  | a :: b :: r, s, left, h, e => by
    have e2 : (b :: r).getLast? = some s := by rw [← e, List.getLast?_cons_cons]
    show rest (b :: r) (left % a) = _
    rw [rest_last h.2 e2, Int.emod_emod_of_dvd _ (h.dvd e a (by simp))]
theorem par_append : ∀ (l r : List Int) (left : Int), par (l ++ r) left = par l left ++ par r (rest l left)
  | [], r, left => rfl
  | s :: l, r, left => by
    show List.replicate _ s ++ par (l ++ r) (left % s) = (List.replicate _ s ++ par l (left % s)) ++ par r (rest l (left % s))
    rw [par_append l r, List.append_assoc]
theorem par_mem : ∀ {l : List Int} {left : Int}, ∀ x ∈ par l left, x ∈ l
  | [], _, x, m => absurd m (by simp [par])
  | s :: r, left, x, m => by
    rcases List.mem_append.mp (show x ∈ List.replicate (left / s).toNat s ++ par r (left % s) from m) with m | m
    · rw [(List.mem_replicate.mp m).2]; simp
    · exact List.mem_cons_of_mem _ (par_mem x m)
/-- .. the greater ones first -/
theorem Dn.lt : ∀ {l r : List Int}, Dn (l ++ r) → ∀ x ∈ l, ∀ y ∈ r, y < x
  | [], r, _, x, m, y, _ => absurd m (by simp)
  | a :: l, r, h, x, m, y, my => by
    have key : ∀ (t : List Int) (a : Int), Dn (a :: t) → ∀ z ∈ t, z < a := by
      intro t
      induction t with
      | nil => intro a _ z mz; exact absurd mz (by simp)
      | cons b t ih =>
        intro a ⟨⟨k, h1, h2, _⟩, h⟩ z mz
        have hb := h.pos b (by simp)
        have : b * 2 ≤ b * k := Int.mul_le_mul_of_nonneg_left h2 (by omega)
        rcases List.mem_cons.mp mz with rfl | mz
        · omega
        · have := ih b h z mz; omega
    rcases List.mem_cons.mp m with rfl | m
    · exact key (l ++ r) x h y (List.mem_append_right _ my)
    · exact Dn.lt (l := l) (r := r) (Dn.tail h) x m y my
theorem Dn.left : ∀ {l r : List Int}, Dn (l ++ r) → Dn l
  | [], _, _ => trivial
  | [a], r, h => h.pos a (by simp)
  | a :: b :: l, r, h => ⟨h.1, Dn.left (l := b :: l) (r := r) h.2⟩
/-- what has at least the size s, of all sacks -/
theorem par_units {l r : List Int} {s left : Int} (h : Dn (l ++ s :: r)) (h0 : 0 ≤ left) : ((par (l ++ s :: r) left).filter fun x => decide (s ≤ x)).sum / s = left / s := by
  have e : l ++ s :: r = (l ++ [s]) ++ r := by simp
  rw [e] at h ⊢
  have hs : 0 < s := h.pos s (by simp)
  rw [par_append, List.filter_append]
  have f1 : (par (l ++ [s]) left).filter (fun x => decide (s ≤ x)) = par (l ++ [s]) left := List.filter_eq_self.mpr fun x m => decide_eq_true (by
    have m := par_mem x m
    rcases List.mem_append.mp m with m | m
    · exact Int.le_of_lt (Dn.lt h.left x m s (by simp))
    · rcases List.mem_singleton.mp m with rfl; exact Int.le_refl _)
  have f2 : (par r (rest (l ++ [s]) left)).filter (fun x => decide (s ≤ x)) = [] := List.filter_eq_nil_iff.mpr fun x m => by
    have := Dn.lt h s (by simp) x (par_mem x m)
    simp
    omega
  rw [f1, f2, List.append_nil, par_sum _ _ h.left h0, rest_last (s := s) h.left (by simp)]
  have e := Int.emod_add_mul_ediv left s
  rw [show left - left % s = s * (left / s) by omega, Int.mul_ediv_cancel_left _ (by omega)]
theorem e_parcels {m : Mk} {s : Int} {sizes : List Int} {amt : Int} {O : List Ob} (hd : Dn (s :: sizes).reverse) (hb : ∀ x ∈ s :: sizes, x < 2 ^ 40) (h0 : 0 ≤ amt) (h1 : amt < 2 ^ 60) (hl : (par (s :: sizes).reverse (amt + -amt % s)).length ≤ sizeLine) :
    d_parcels_of [.lst m.brw ((s :: sizes).map T.int), .int amt] O = some (.lst .ow ((par (s :: sizes).reverse (amt + -amt % s)).map T.int), O) := by
  have hs : 0 < s := hd.pos s (by simp)
  have loop : ∀ (l : List Int) (left : Int) (found : List Int) (sz : T) (x : Option T), Dn l → (∀ x ∈ l, x < 2 ^ 40) → 0 ≤ left → left < 2 ^ 62 → found.length + (par l left).length ≤ sizeLine →
      ∃ (left' : Int) (y : Option T), forGo (gNm 4) (sSeq (sDrop (dExt 3 (oTmp (d2 fMul (oTmp (dLst (aCons (oTmp (dUse 4)) aNil))) (oTmp (d2 fDiv (oBorS 2) (oBorS 4))))))) (sAsg (d2 fMod (oBorS 2) (oBorS 4)) (gNm 2))) (l.map T.int) ([some sz, some (.int amt), some (.int left), some (.lst .ow (found.map T.int)), x], O)
        = some (.nx, ([some sz, some (.int amt), some (.int left'), some (.lst .ow ((found ++ par l left).map T.int)), y], O)) := by
    intro l
    induction l with
    | nil => intro left found sz x _ _ _ _ _; exact ⟨left, x, by simp [par]⟩
    | cons a l ih =>
      intro left found sz x hd hb h0 h1 hl
      have ha := hd.pos a (by simp)
      have hb1 := hb a (by simp)
      have e : par (a :: l) left = List.replicate (left / a).toNat a ++ par l (left % a) := rfl
      rw [e, List.length_append, List.length_replicate] at hl
      have q0 : 0 ≤ left / a := Int.ediv_nonneg h0 (by omega)
      have q1 : left / a ≤ left := Int.ediv_le_self _ h0
      have ml : left % a < a := Int.emod_lt_of_pos _ ha
      obtain ⟨left', y, e2⟩ := ih (left % a) (found ++ List.replicate (left / a).toNat a) sz (some (.int a)) hd.tail (fun x m => hb x (List.mem_cons_of_mem _ m)) (Int.emod_nonneg _ (by omega)) (by omega) (by rw [List.length_append, List.length_replicate]; omega)
      refine ⟨left', y, forGo_step ?_ (by rw [e, ← List.append_assoc]; exact e2)⟩
      have rp : ∀ n : Nat, (List.replicate n [T.int a]).flatten = List.replicate n (T.int a) := by
        intro n
        induction n with
        | zero => rfl
        | succ n ih => rw [List.replicate_succ, List.replicate_succ, List.flatten_cons, ih]; rfl
      have fm : fMul (.lst .ow [.int a]) (.int (left / a)) = some (.lst .ow ((List.replicate (left / a).toNat a).map T.int)) := by
        unfold fMul
        show (if -(2 ^ 63) ≤ left / a ∧ left / a < 2 ^ 63 ∧ ([T.int a]).length * (left / a).toNat ≤ sizeLine ∧ noOws [T.int a] = true then some (T.lst .ow (List.replicate (left / a).toNat [T.int a]).flatten) else none) = _
        rw [if_pos ⟨by omega, by omega, by simp only [List.length_cons, List.length_nil]; omega, rfl⟩, rp, List.map_replicate]
      have sz1 : 1 ≤ sizeLine := by decide
      have len1 : found.length + (left / a).toNat ≤ sizeLine := by omega
      have nr : noOws (List.replicate (left / a).toNat (T.int a)) = true := by rw [← List.map_replicate]; exact noOws_map_int _
      simp [fm, okDiv_of left ha (by omega), sz1, getL, putL, ha, len1, nr]
  have m1 : -amt % s < s := Int.emod_lt_of_pos _ hs
  have m2 : 0 ≤ -amt % s := Int.emod_nonneg _ (by omega)
  have hb1 := hb s (by simp)
  obtain ⟨left', y, e⟩ := loop (s :: sizes).reverse (amt + -amt % s) [] (.lst m.brw ((s :: sizes).map T.int)) none hd (fun x m => hb x (List.mem_reverse.mp m)) (by omega) (by omega) (by simpa using hl)
  have rv : (T.int s :: sizes.map T.int).reverse = (s :: sizes).reverse.map T.int := by rw [← List.map_cons, List.map_reverse]
  have nb : m.brw ≠ .ow := by cases m <;> simp [Mk.brw]
  have no : T.noOw (.lst m.brw (T.int s :: sizes.map T.int)) = true := by
    cases m <;> simp [Mk.brw]
  have e : forGo _ _ ((s :: sizes).reverse.map T.int) ([some (.lst m.brw (T.int s :: sizes.map T.int)), some (.int amt), some (.int (amt + -amt % s)), some (.lst .ow []), none], O) = _ := e
  have z : 0 ≤ sizeLine := Nat.zero_le _
  simp only [List.nil_append] at e
  simp [d_parcels_of, dFn, b_parcels_of, hs, z, no, -List.reverse_cons, -List.map_reverse]
  rw [rv, e]
  simp

end Wk08

set_option Elab.async false
set_option linter.all false
set_option maxRecDepth 100000
set_option exponentiation.threshold 10000
namespace Wk08
open PySem PySem.Spec L2 TL
/-! ### units -/
theorem noOw_brw (m : Mk) (xs : List T) (h : noOws xs = true) : T.noOw (.lst m.brw xs) = true := by
  cases m <;> exact h
theorem e_units {m : Mk} {ws : List Int} {s : Int} {O : List Ob} (hs : 0 < s) (hb : s < 2 ^ 40) (hl : ws.length ≤ sizeLine) : d_units_of [.lst m.brw (ws.map T.int), .int s] O = some (.int ((ws.filter fun x => decide (s ≤ x)).sum / s), O) := by
  have lc := lcGo_if (own := [2]) (g := gNm 2) (tt := tOf (d2 fGe (oBorS 2) (oBorS 1))) (te := dUse 2) (S := ([some (.lst m.brw (ws.map T.int)), some (.int s), none], O)) (fun x : Int => decide (s ≤ x)) T.int T.int (ts := ws) (fun a _ => ⟨([some (.lst m.brw (ws.map T.int)), some (.int s), some (.int a)], O), ([some (.lst m.brw (ws.map T.int)), some (.int s), some (.int a)], O), by simp, by simp, fun _ => ⟨([some (.lst m.brw (ws.map T.int)), some (.int s), some (.int a)], O), by simp, by simp⟩, fun _ => by simp⟩) hl
  have fs : fSum [.lst .ow ((ws.filter fun x => decide (s ≤ x)).map T.int)] = some (.int (ws.filter fun x => decide (s ≤ x)).sum) := by
    show (intsT ((ws.filter fun x => decide (s ≤ x)).map T.int)).bind _ = _
    rw [intsT_map]
    rfl
  simp [d_units_of, dFn, b_units_of, noOw_brw, lc, fs, okDiv_of _ hs (show s < 2 ^ 62 by omega)]
/-! ### rows of sizes -/
structure Row (l : List Int) : Prop where
  dn : Dn l.reverse
  len : l.length ≤ 5
  fst : ∀ s, l.head? = some s → s ≤ 100
def Fo (s o : Int) : Bool := decide (o % s = 0) && (decide (2 ≤ o / s) && decide (o / s ≤ 12))
theorem e_follows' (s o : Int) (O : List Ob) (hs : 0 < s) (hl : s < 2 ^ 40) : d_follows_size [.int s, .int o] O = some (.bl (Fo s o), O) := by
  simp [d_follows_size, dFn, b_follows_size, k_LEAST_TIMES, k_MOST_TIMES, hs, okDiv_of _ hs (show s < 2 ^ 62 by omega), Fo]
  split <;> rename_i h1
  · split <;> rename_i h2 <;> simp [h1, h2]
  · simp [h1]
theorem e_whole (i : Int) (O : List Ob) : d_whole_number [.int i] O = some (.bl true, O) := by
  simp [d_whole_number, dFn, b_whole_number, tyIs]
/-- all that stand one behind the other -/
def allF : List Int → Bool
  | [] => true
  | [_] => true
  | a :: b :: r => Fo a b && allF (b :: r)
theorem zip_tail : ∀ (a : Int) (l : List Int), zipT ((a :: l).map T.int) (l.map T.int) = (List.zip (a :: l) l).map fun p => .tup [.int p.1, .int p.2]
  | a, [] => rfl
  | a, b :: l => by
    show T.tup [.int a, .int b] :: zipT ((b :: l).map T.int) (l.map T.int) = _
    rw [zip_tail b l]
    rfl
theorem e_isG {m m1 : Mk} {a : Int} {l : List Int} {O : List Ob} (hu : ∀ τ : List (Option T), dUse 0 (some (.lst m ((a :: l).map T.int)) :: τ, O) = some (.lst m1 ((a :: l).map T.int), (some (.lst m1 ((a :: l).map T.int)) :: τ, O))) (hu1 : ∀ τ : List (Option T), dUse 0 (some (.lst m1 ((a :: l).map T.int)) :: τ, O) = some (.lst m1 ((a :: l).map T.int), (some (.lst m1 ((a :: l).map T.int)) :: τ, O))) (hp : ∀ x ∈ a :: l, 0 < x ∧ x < 2 ^ 40) (hl : l.length ≤ 100) : d_is_sizes [.lst m ((a :: l).map T.int)] O = some (.bl (decide (l.length + 1 ≤ 5) && (decide (a ≤ 100) && allF (a :: l))), O) := by
  have t : T := .lst m1 ((a :: l).map T.int)
  have lc := lcGo_all (own := [3]) (g := gNm 3) (te := dCall d_whole_number (aCons (oBorS 3) aNil)) (S := ([some (.lst m1 ((a :: l).map T.int)), none, none, none], O)) (fun _ : Int => T.bl true) T.int (ts := a :: l) (fun x _ => ⟨([some (.lst m1 ((a :: l).map T.int)), none, none, some (.int x)], O), ([some (.lst m1 ((a :: l).map T.int)), none, none, some (.int x)], O), by simp, by simp [e_whole], by simp⟩) (by simp only [List.length_cons]; exact Nat.le_trans (by omega) (show 101 ≤ sizeLine by decide))
  have fa : fAll [.lst .ow ((a :: l).map fun _ => T.bl true)] = some (.bl true) := by
    have : ((a :: l).map fun _ : Int => T.bl true) = ((a :: l).map fun _ => true).map T.bl := by simp
    show (blsT ((a :: l).map fun _ : Int => T.bl true)).bind _ = _
    rw [this, blsT_map]
    show some (T.bl (((a :: l).map fun _ => true).all id)) = _
    simp
  have loop : ∀ (l : List Int) (a : Int) (t : T) (x y z : Option T), (∀ x ∈ a :: l, 0 < x ∧ x < 2 ^ 40) → ∃ S', forGo (gTp [gNm 1, gNm 2]) (sIf (tNotD (tOf (dCall d_follows_size (aCons (oBorS 1) (aCons (oBorS 2) aNil))))) (sRet (dC (.bl false))) sNil) ((List.zip (a :: l) l).map fun p => .tup [.int p.1, .int p.2]) ([some t, x, y, z], O) = some (if allF (a :: l) then .nx else .rt (.bl false), S') ∧ S'.2 = O := by
    intro l
    induction l with
    | nil => intro a t x y z _; exact ⟨_, rfl, rfl⟩
    | cons b l ih =>
      intro a t x y z hp
      have ha := hp a (by simp)
      rw [List.zip_cons_cons, List.map_cons, forGo_cons]
      cases hf : Fo a b with
      | true =>
        obtain ⟨S', e, hO⟩ := ih b t (some (.int a)) (some (.int b)) z fun x m => hp x (List.mem_cons_of_mem _ m)
        refine ⟨S', ?_, hO⟩
        have e2 : allF (a :: b :: l) = allF (b :: l) := by show (Fo a b && allF (b :: l)) = _; rw [hf]; rfl
        simp [e_follows' a b O ha.1 ha.2, hf, e2, e]
      | false =>
        refine ⟨([some t, some (.int a), some (.int b), z], O), ?_, rfl⟩
        have e2 : allF (a :: b :: l) = false := by show (Fo a b && allF (b :: l)) = _; rw [hf]; rfl
        simp [e_follows' a b O ha.1 ha.2, hf, e2]
  obtain ⟨S', e, hO⟩ := loop l a (.lst m1 ((a :: l).map T.int)) none none none hp
  have ha := hp a (by simp)
  have ct : cutT (T.int a :: l.map T.int) (some 1) none = l.map T.int := cutT_from _ 1
  have zp : ∀ m : Mk, zipOf (.lst m (T.int a :: l.map T.int)) (.lst .ow (l.map T.int)) = some ((List.zip (a :: l) l).map fun p => .tup [.int p.1, .int p.2]) := fun m => by
    have e : zipOf (.lst m (T.int a :: l.map T.int)) (.lst .ow (l.map T.int)) = if (noOws (T.int a :: l.map T.int) && noOws (l.map T.int)) = true then some (zipT (T.int a :: l.map T.int) (l.map T.int)) else none := rfl
    rw [e, if_pos (by simp)]
    exact congrArg some (zip_tail a l)
  by_cases h5 : l.length + 1 ≤ 5
  · have h5' : (l.length : Int) + 1 ≤ 5 := by omega
    by_cases h100 : a ≤ 100
    · simp only [List.map_cons] at lc fa e hu hu1 ⊢
      have h1 : (1 : Int) ≤ a := by omega
      have h1' : (1 : Int) ≤ (l.length : Int) + 1 := by omega
      simp [d_is_sizes, dFn, b_is_sizes, tyIs, k_MOST_SIZES, k_MOST_FIRST, h5', h1', lc, fa, h1, h100, hu, hu1, ct, zp, e, -r_dUse]
      cases hh : allF (a :: l) with
      | true => simp [hh, hO]; omega
      | false => simp [hh, h5, hO]
    · simp only [List.map_cons] at lc fa e hu hu1 ⊢
      have h1 : (1 : Int) ≤ a := by omega
      have h1' : (1 : Int) ≤ (l.length : Int) + 1 := by omega
      simp [d_is_sizes, dFn, b_is_sizes, tyIs, k_MOST_SIZES, k_MOST_FIRST, h5', h1', lc, fa, h1, h100, hu, -r_dUse]
  · have h5' : ¬ (l.length : Int) + 1 ≤ 5 := by omega
    have h1' : (1 : Int) ≤ (l.length : Int) + 1 := by omega
    simp [d_is_sizes, dFn, b_is_sizes, tyIs, k_MOST_SIZES, k_MOST_FIRST, h5', h1']
    omega
theorem e_is {m : Mk} {a : Int} {l : List Int} {O : List Ob} (hp : ∀ x ∈ a :: l, 0 < x ∧ x < 2 ^ 40) (hl : l.length ≤ 100) : d_is_sizes [.lst m.brw ((a :: l).map T.int)] O = some (.bl (decide (l.length + 1 ≤ 5) && (decide (a ≤ 100) && allF (a :: l))), O) := by
  have h : ∀ τ : List (Option T), dUse 0 (some (.lst m.brw ((a :: l).map T.int)) :: τ, O) = some (.lst m.brw ((a :: l).map T.int), (some (.lst m.brw ((a :: l).map T.int)) :: τ, O)) := fun τ => by
    simp [noOw_brw]
  exact e_isG h h hp hl
theorem e_isO {a : Int} {l : List Int} {O : List Ob} (hp : ∀ x ∈ a :: l, 0 < x ∧ x < 2 ^ 40) (hl : l.length ≤ 100) : d_is_sizes [.lst .ow ((a :: l).map T.int)] O = some (.bl (decide (l.length + 1 ≤ 5) && (decide (a ≤ 100) && allF (a :: l))), O) := by
  exact e_isG (m1 := .fz) (fun τ => by simp) (fun τ => by simp) hp hl
end Wk08

set_option Elab.async false
set_option linter.all false
set_option maxRecDepth 100000
set_option exponentiation.threshold 10000
namespace Wk08
open PySem PySem.Spec L2 TL
/-! ### weights as texts -/
def num (n : Nat) : Str := Str.ofString (toString (n : Int))
theorem tl_num' (n : Nat) : tl (num n) = numL n := tl_num n
theorem num_len {n : Nat} (h : n < 10 ^ 9) : (num n).length ≤ 9 := by
  rw [len_tl, tl_num']
  exact numL_len (by omega) h
theorem num_pos (n : Nat) : 1 ≤ (num n).length := by
  rw [len_tl, tl_num']
  have := numL_ne n
  cases h : numL n with
  | nil => exact absurd h this
  | cons a b => simp
theorem num_int {n : Nat} (h : n < 10 ^ 9) : intText? (num n) = some (n : Int) := int_num (by have := numL_len (k := 9) (n := n) (by omega) h; omega)
/-- no nought ahead -/
theorem num_head : ∀ {n : Nat}, 0 < n → ∃ c r, numL n = c :: r ∧ c ≠ 48 := by
  intro n
  induction n using Nat.strongRecOn with
  | _ n ih =>
    intro h
    by_cases hn : n < 10
    · exact ⟨48 + n, [], numL_lt hn, by omega⟩
    · obtain ⟨c, r, e, hc⟩ := ih (n / 10) (by omega) (by omega)
      exact ⟨c, r ++ [48 + n % 10], by rw [numL_step (by omega), e]; rfl, hc⟩
theorem cps_num (n : Nat) : (num n).cps.toList = numL n := tl_num' n
theorem digit_in {c : Nat} (h : 48 ≤ c ∧ c ≤ 57) : c ∈ ("0123456789" : Str).cps.toList := by
  have e : ("0123456789" : Str).cps.toList = [48, 49, 50, 51, 52, 53, 54, 55, 56, 57] := by decide +kernel
  rw [e]
  simp
  omega
theorem numL_dig (n : Nat) : ∀ c ∈ numL n, 48 ≤ c ∧ c ≤ 57 := by
  intro c m
  refine Classical.byContradiction fun h => ?_
  exact numL_free (n := n) (s := c) (by omega) m
theorem e_plain {n : Nat} {O : List Ob} (h0 : 0 < n) (h : n < 10 ^ 9) : d_plain_number [.str (num n)] O = some (.int n, O) := by
  have l1 := num_pos n
  have l2 := num_len h
  have lc := lcGo_all (own := [1]) (g := gNm 1) (te := d2 (fIn false) (oBorS 1) (oTmp (dC k_FIGURES))) (S := ([some (.str (num n)), none], O)) (fun _ : Nat => T.bl true) (fun c => T.str ⟨#[c]⟩) (ts := numL n) (fun c m => ⟨([some (.str (num n)), some (.str ⟨#[c]⟩)], O), ([some (.str (num n)), some (.str ⟨#[c]⟩)], O), by simp, by
    have : fIn false (.str ⟨#[c]⟩) k_FIGURES = some (.bl (decide (c ∈ ("0123456789" : Str).cps.toList))) := by
      unfold fIn k_FIGURES
      rfl
    have vk : ∀ S, view S k_FIGURES = k_FIGURES := fun _ => rfl
    simp [vk, this, digit_in (numL_dig n c m)], by simp⟩) (Nat.le_trans (numL_len (k := 9) (by omega) h) (by decide))
  have fa : fAll [.lst .ow ((numL n).map fun _ => T.bl true)] = some (.bl true) := by
    have : ((numL n).map fun _ : Nat => T.bl true) = ((numL n).map fun _ => true).map T.bl := by simp
    show (blsT ((numL n).map fun _ : Nat => T.bl true)).bind _ = _
    rw [this, blsT_map]
    show some (T.bl (((numL n).map fun _ => true).all id)) = _
    simp
  obtain ⟨c, r, e, hc⟩ := num_head h0
  have sg : signsOf (num n) = (numL n).map fun c => T.str ⟨#[c]⟩ := by unfold signsOf; rw [cps_num]
  have ls : (num n).length ≤ sizeLine := Nat.le_trans l2 (by decide)
  have i1 : (1 : Int) ≤ (num n).length := by omega
  have i2 : ((num n).length : Int) ≤ 9 := by omega
  have at0 : atI (num n).cps.toList 0 = some c := by rw [cps_num, e]; exact atI_zero c r
  have ne : ¬ (⟨#[c]⟩ : Str) = ("0" : Str) := fun h => hc (by
    have e2 : tl (⟨#[c]⟩ : Str) = tl ("0" : Str) := congrArg tl h
    have e3 : tl ("0" : Str) = [48] := by decide +kernel
    rw [e3] at e2
    have e4 : [c] = [48] := e2
    exact List.head_eq_of_cons_eq e4)
  have fi : fInt [.str (num n)] = some (.int n) := by
    show (if (num n).length ≤ 640 then (intText? (num n)).bind fun n => some (T.int n) else none) = _
    rw [if_pos (by omega), num_int h]
    rfl
  have at0' : atI (num n).cps.toList 0 = some c := at0
  simp [d_plain_number, dFn, b_plain_number, k_MOST_FIGURES, ls, i1, i2, sg, lc, fa, at0, ne, fi]
/-- a part of a weight's text -/
def part (q : Nat) (u : Str) : Str := if q = 0 then Str.empty else num q ++ u
theorem empty_app (x : Str) : Str.empty ++ x = x := ext_tl (by rw [tl_append]; rfl)
theorem app_empty (x : Str) : x ++ Str.empty = x := ext_tl (by rw [tl_append]; show tl x ++ [] = _; simp)
theorem app_assoc (x y z : Str) : x ++ y ++ z = x ++ (y ++ z) := ext_tl (by simp only [tl_append, List.append_assoc])
theorem len_app (x y : Str) : (x ++ y).length = x.length + y.length := by simp only [len_tl, tl_append, List.length_append]
theorem str_empty : ("" : Str) = Str.empty := by decide +kernel
theorem fStr_num {n : Nat} (h : n < 10 ^ 9) : fStr [.int n] = some (.str (num n)) := by
  show (if (n : Int).natAbs.log2 < 1920 then some (T.str (Str.ofString (toString (n : Int)))) else none) = _
  rw [if_pos]
  · rfl
  · show n.log2 < 1920
    by_cases h0 : n = 0
    · subst h0; decide
    · have : n.log2 < 30 := (Nat.log2_lt h0).mpr (by omega)
      omega
def uC : Str := "c"
def uS : Str := "s"
def uP : Str := "p"
def wtext (w : Nat) : Str := part (w / 112) uC ++ (part (w % 112 / 14) uS ++ part (w % 112 % 14) uP)
theorem part_len {q : Nat} {u : Str} (h : q < 10 ^ 9) (hu : u.length = 1) : (part q u).length ≤ 10 := by
  unfold part
  split
  · show 0 ≤ 10; omega
  · rw [len_app, hu]; have := num_len h; omega
theorem part_ne {q : Nat} {u : Str} (h : q ≠ 0) : 1 ≤ (part q u).length := by
  unfold part
  rw [if_neg h, len_app]
  have := num_pos q
  omega
theorem e_wtext {w : Nat} {O : List Ob} (h0 : 0 < w) (h : w < 10 ^ 8) : d_units_text [.int w, k_WEIGHT_UNITS] O = some (.str (wtext w), O) := by
  have step : ∀ (found : Str) (l q : Nat) (u : Str) (x y : Option T), u.length = 1 → 0 < q → l < 10 ^ 8 → found.length ≤ 20 → (gTp [gNm 4, gNm 5] (.tup [.str u, .int q]) ([some (.int w), some k_WEIGHT_UNITS, some (.str found), some (.int l), x, y], O)).bind
      (sSeq (sIf (tOf (d2 fGe (oBorS 3) (oBorS 5))) (sAug fAugAdd 2 (d2 fAdd (oTmp (dB fStr (aCons (oTmp (d2 fDiv (oBorS 3) (oBorS 5))) aNil))) (oBorS 4))) sNil) (sAsg (d2 fMod (oBorS 3) (oBorS 5)) (gNm 3)))
      = some (.nx, ([some (.int w), some k_WEIGHT_UNITS, some (.str (found ++ part (l / q) u)), some (.int ((l % q : Nat) : Int)), some (.str u), some (.int q)], O)) := by
    intro found l q u x y hu hq hl hf
    have md : (l : Int) % (q : Int) = ((l % q : Nat) : Int) := by omega
    have dv : (l : Int) / (q : Int) = ((l / q : Nat) : Int) := by omega
    by_cases hg : q ≤ l
    · have hq1 : 0 < l / q := Nat.div_pos hg hq
      have hlt : l / q < 10 ^ 9 := Nat.lt_of_le_of_lt (Nat.div_le_self l q) (by omega)
      have ok : okDiv (l : Int) (q : Int) = true := okDiv_of _ (by omega) (by omega)
      have n9 := num_len hlt
      have sl : 40 ≤ sizeLine := by decide
      have c1 : (num (l / q)).length + u.length ≤ sizeLine := by omega
      have c2 : found.length + (num (l / q) ++ u).length ≤ sizeLine := by rw [len_app]; omega
      have hg' : (q : Int) ≤ (l : Int) := by omega
      have pt : part (l / q) u = num (l / q) ++ u := if_neg (by omega)
      have vk : ∀ S, view S k_WEIGHT_UNITS = k_WEIGHT_UNITS := fun _ => rfl
      have au : fAugAdd (.str found) (.str (num (l / q) ++ u)) = some (.str (found ++ (num (l / q) ++ u))) := by
        unfold fAugAdd
        exact if_pos c2
      have nq : (0 : Int) < q := by omega
      simp [hg', ok, dv, md, fStr_num hlt, c1, au, pt, nq, hq, -Int.natCast_ediv, -Int.natCast_emod]
    · have hq1 : l / q = 0 := Nat.div_eq_of_lt (by omega)
      have hg' : ¬ (q : Int) ≤ (l : Int) := by omega
      have pt : part (l / q) u = Str.empty := if_pos hq1
      have nq : (0 : Int) < q := by omega
      simp [hg', md, pt, app_empty, nq, hq, -Int.natCast_emod]
  have l1 : uC.length = 1 := by decide +kernel
  have l2 : uS.length = 1 := by decide +kernel
  have l3 : uP.length = 1 := by decide +kernel
  have p1 := part_len (q := w / 112) (u := uC) (Nat.lt_of_le_of_lt (Nat.div_le_self _ _) (by omega)) l1
  have p2 := part_len (q := w % 112 / 14) (u := uS) (by omega) l2
  have s1 := step Str.empty w 112 uC none none l1 (by omega) h (by show 0 ≤ 20; omega)
  have s2 := step (Str.empty ++ part (w / 112) uC) (w % 112) 14 uS (some (.str uC)) (some (.int ((112 : Nat) : Int))) l2 (by omega) (by omega) (by rw [len_app]; show 0 + _ ≤ 20; omega)
  have s3 := step (Str.empty ++ part (w / 112) uC ++ part (w % 112 / 14) uS) (w % 112 % 14) 1 uP (some (.str uS)) (some (.int ((14 : Nat) : Int))) l3 (by omega) (by omega) (by rw [len_app, len_app]; show 0 + _ + _ ≤ 20; omega)
  have it : itemsOf k_WEIGHT_UNITS = some [.tup [.str uC, .int 112], .tup [.str uS, .int 14], .tup [.str uP, .int 1]] := rfl
  have whole : Str.empty ++ part (w / 112) uC ++ part (w % 112 / 14) uS ++ part (w % 112 % 14 / 1) uP = wtext w := by
    unfold wtext
    rw [empty_app, Nat.div_one, app_assoc]
  have ne : ¬ wtext w = ("" : Str) := fun e => by
    have e2 := congrArg Str.length e
    rw [str_empty] at e2
    unfold wtext at e2
    rw [len_app, len_app] at e2
    have e3 : (Str.empty).length = 0 := rfl
    rw [e3] at e2
    by_cases h1 : w / 112 = 0
    · by_cases h2 : w % 112 / 14 = 0
      · by_cases h3 : w % 112 % 14 = 0
        · omega
        · have := part_ne (u := uP) h3; omega
      · have := part_ne (u := uS) h2; omega
    · have := part_ne (u := uC) h1; omega
  have no : T.noOw k_WEIGHT_UNITS = true := rfl
  rw [whole] at s3
  have loop : forGo (gTp [gNm 4, gNm 5]) (sSeq (sIf (tOf (d2 fGe (oBorS 3) (oBorS 5))) (sAug fAugAdd 2 (d2 fAdd (oTmp (dB fStr (aCons (oTmp (d2 fDiv (oBorS 3) (oBorS 5))) aNil))) (oBorS 4))) sNil) (sAsg (d2 fMod (oBorS 3) (oBorS 5)) (gNm 3)))
      [.tup [.str uC, .int 112], .tup [.str uS, .int 14], .tup [.str uP, .int 1]] ([some (.int w), some k_WEIGHT_UNITS, some (.str Str.empty), some (.int w), none, none], O) = some (.nx, ([some (.int w), some k_WEIGHT_UNITS, some (.str (wtext w)), some (.int ((w % 112 % 14 % 1 : Nat) : Int)), some (.str uP), some (.int 1)], O)) := forGo_step s1 (forGo_step s2 (forGo_step s3 rfl))
  have e0 : (T.str ("" : Str)) = .str Str.empty := by rw [str_empty]
  have ne' : ¬ wtext w = Str.empty := by rw [← str_empty]; exact ne
  simp [d_units_text, dFn, b_units_text, no, it, e0, loop, ne', -Int.natCast_ediv, -Int.natCast_emod]
end Wk08

set_option Elab.async false
set_option linter.all false
set_option maxRecDepth 100000
set_option exponentiation.threshold 10000
namespace Wk08
open PySem PySem.Spec L2 TL
theorem tl_part {q : Nat} {u : Str} {d : Nat} (hd : d < 48 ∨ 57 < d) (hu : d ∉ tl u) : d ∉ tl (part q u) := by
  unfold part
  split
  · show d ∉ []; simp
  · rw [tl_append, tl_num']
    intro m
    rcases List.mem_append.mp m with m | m
    · exact numL_free hd m
    · exact hu m
theorem win_step {O : List Ob} : ∀ (t : T) (found : Nat) (R : Str) (q worth : Nat) (u : Str) (c : Nat) (x4 x5 x6 x7 x8 x9 : Option T), tl u = [c] → (c < 48 ∨ 57 < c) → q < 10 ^ 8 → worth < 1000 → R.length ≤ 100 → (q = 0 → c ∉ tl R) → ∃ y4 y5 y6 y7 y8 y9 : Option T,
      (gTp [gNm 4, gNm 5] (.tup [.str u, .int worth]) ([some t, some k_WEIGHT_UNITS, some (.int found), some (.str (part q u ++ R)), x4, x5, x6, x7, x8, x9], O)).bind
      (sSeq (sAsg (dM1 fPart (dUse 3) (dUse 4)) (gTp [(gNm 6), (gNm 7), (gNm 8)]))
        (sIf (tOf (d2 fEq (oBorS 7) (oBorS 4))) (sSeq (sAsg (dCall d_plain_number (aCons (oBorS 6) aNil)) (gNm 9)) (sSeq (sIf (tOf (d2 fIsN (oBorS 9) (oTmp (dC .non)))) (sRet (dC .non)) sNil) (sSeq (sAug fAugAdd 2 (d2 fMul (oBorS 9) (oBorS 5))) (sAsg (dUse 8) (gNm 3))))) sNil))
      = some (.nx, ([some t, some k_WEIGHT_UNITS, some (.int ((found + q * worth : Nat) : Int)), some (.str R), y4, y5, y6, y7, y8, y9], O)) := by
    have sl : 1000 ≤ sizeLine := by decide
    intro t found R q worth u c x4 x5 x6 x7 x8 x9 hu hc hq hw hR hn
    have ul : u.length = 1 := by rw [len_tl, hu]; rfl
    have ul0 : (u.length == 0) = false := by rw [ul]; rfl
    have n9 := num_len (n := q) (by omega)
    have vk : ∀ S, view S k_WEIGHT_UNITS = k_WEIGHT_UNITS := fun _ => rfl
    by_cases hq0 : q = 0
    · have pe : part q u ++ R = R := by unfold part; rw [if_pos hq0, empty_app]
      have fp : fPart (.str R) (.str u) = some (.tup [.str R, .str Str.empty, .str Str.empty]) := by
        show (if (u.length == 0) = false ∧ R.length ≤ sizeLine then some (T.tup [.str (Txt.partition R u).1, .str (Txt.partition R u).2.1, .str (Txt.partition R u).2.2]) else none) = _
        rw [if_pos ⟨ul0, by omega⟩, partition_none hu (hn hq0)]
      have ne : ¬ Str.empty = u := fun e => by rw [← e] at ul; exact absurd ul (by decide)
      have z : found + q * worth = found := by rw [hq0]; omega
      rw [pe, z]
      refine ⟨some (.str u), some (.int worth), some (.str R), some (.str Str.empty), some (.str Str.empty), x9, ?_⟩
      simp -implicitDefEqProofs [fp, ne]
    · have pe : part q u ++ R = num q ++ u ++ R := by unfold part; rw [if_neg hq0]
      have fp : fPart (.str (num q ++ u ++ R)) (.str u) = some (.tup [.str (num q), .str u, .str R]) := by
        show (if (u.length == 0) = false ∧ (num q ++ u ++ R).length ≤ sizeLine then some (T.tup [.str (Txt.partition (num q ++ u ++ R) u).1, .str (Txt.partition (num q ++ u ++ R) u).2.1, .str (Txt.partition (num q ++ u ++ R) u).2.2]) else none) = _
        rw [if_pos ⟨ul0, by rw [len_app, len_app]; omega⟩, partition_app hu (by rw [tl_num']; exact numL_free hc)]
      rw [pe]
      have sm : smallI (q : Int) = true := decide_eq_true ⟨by omega, by omega⟩
      have au : fAugAdd (.int (found : Int)) (.int ((q : Int) * (worth : Int))) = some (.int ((found : Int) + (q : Int) * (worth : Int))) := rfl
      refine ⟨some (.str u), some (.int worth), some (.str (num q)), some (.str u), some (.str R), some (.int q), ?_⟩
      have ep := e_plain (n := q) (O := O) (by omega) (by omega)
      simp -implicitDefEqProofs [fp, ep, sm, au]
theorem e_win {w : Nat} {O : List Ob} (h0 : 0 < w) (h : w < 10 ^ 8) : d_units_in [.str (wtext w), k_WEIGHT_UNITS] O = some (.int w, O) := by
  have c1 : tl uC = [99] := by decide +kernel
  have c2 : tl uS = [115] := by decide +kernel
  have c3 : tl uP = [112] := by decide +kernel
  have l1 : uC.length = 1 := by decide +kernel
  have l2 : uS.length = 1 := by decide +kernel
  have l3 : uP.length = 1 := by decide +kernel
  have p2 := part_len (q := w % 112 / 14) (u := uS) (by omega) l2
  have p3 := part_len (q := w % 112 % 14) (u := uP) (by omega) l3
  obtain ⟨a4, a5, a6, a7, a8, a9, s1⟩ := win_step (O := O) (.str (wtext w)) 0 (part (w % 112 / 14) uS ++ part (w % 112 % 14) uP) (w / 112) 112 uC 99 none none none none none none c1 (.inr (by omega)) (Nat.lt_of_le_of_lt (Nat.div_le_self _ _) h) (by omega) (by rw [len_app]; omega) (fun _ m => by
    rw [tl_append] at m
    rcases List.mem_append.mp m with m | m
    · exact tl_part (.inr (by omega)) (by rw [c2]; simp) m
    · exact tl_part (.inr (by omega)) (by rw [c3]; simp) m)
  obtain ⟨b4, b5, b6, b7, b8, b9, s2⟩ := win_step (O := O) (.str (wtext w)) (0 + w / 112 * 112) (part (w % 112 % 14) uP) (w % 112 / 14) 14 uS 115 a4 a5 a6 a7 a8 a9 c2 (.inr (by omega)) (by omega) (by omega) (by omega) (fun _ => tl_part (.inr (by omega)) (by rw [c3]; simp))
  obtain ⟨d4, d5, d6, d7, d8, d9, s3⟩ := win_step (O := O) (.str (wtext w)) (0 + w / 112 * 112 + w % 112 / 14 * 14) Str.empty (w % 112 % 14) 1 uP 112 b4 b5 b6 b7 b8 b9 c3 (.inr (by omega)) (by omega) (by omega) (by show 0 ≤ 100; omega) (fun _ => by show 112 ∉ []; simp)
  have fin : 0 + w / 112 * 112 + w % 112 / 14 * 14 + w % 112 % 14 * 1 = w := by omega
  rw [fin, app_empty] at s3
  have hw : part (w / 112) uC ++ (part (w % 112 / 14) uS ++ part (w % 112 % 14) uP) = wtext w := rfl
  rw [hw] at s1
  have it : itemsOf k_WEIGHT_UNITS = some [.tup [.str uC, .int 112], .tup [.str uS, .int 14], .tup [.str uP, .int 1]] := rfl
  have no : T.noOw k_WEIGHT_UNITS = true := rfl
  have br : T.brw k_WEIGHT_UNITS = k_WEIGHT_UNITS := rfl
  have loop : forGo (gTp [gNm 4, gNm 5]) (sSeq (sAsg (dM1 fPart (dUse 3) (dUse 4)) (gTp [(gNm 6), (gNm 7), (gNm 8)]))
        (sIf (tOf (d2 fEq (oBorS 7) (oBorS 4))) (sSeq (sAsg (dCall d_plain_number (aCons (oBorS 6) aNil)) (gNm 9)) (sSeq (sIf (tOf (d2 fIsN (oBorS 9) (oTmp (dC .non)))) (sRet (dC .non)) sNil) (sSeq (sAug fAugAdd 2 (d2 fMul (oBorS 9) (oBorS 5))) (sAsg (dUse 8) (gNm 3))))) sNil))
      [.tup [.str uC, .int 112], .tup [.str uS, .int 14], .tup [.str uP, .int 1]] ([some (.str (wtext w)), some k_WEIGHT_UNITS, some (.int 0), some (.str (wtext w)), none, none, none, none, none, none], O) = some (.nx, ([some (.str (wtext w)), some k_WEIGHT_UNITS, some (.int w), some (.str Str.empty), d4, d5, d6, d7, d8, d9], O)) := forGo_step s1 (forGo_step s2 (forGo_step s3 rfl))
  have e0 : (T.str ("" : Str)) = .str Str.empty := by rw [str_empty]
  simp -implicitDefEqProofs [d_units_in, dFn, b_units_in, no, it, e0, loop, br, e_wtext h0 h]
theorem e_wt {w : Nat} {O : List Ob} (h0 : 0 < w) (h : w < 10 ^ 8) : d_weight_text [.int w] O = some (.str (wtext w), O) := by
  have no : T.brw k_WEIGHT_UNITS = k_WEIGHT_UNITS := rfl
  simp -implicitDefEqProofs [d_weight_text, dFn, b_weight_text, e_wtext h0 h]
theorem e_wi {w : Nat} {O : List Ob} (h0 : 0 < w) (h : w < 10 ^ 8) : d_weight_in [.str (wtext w)] O = some (.int w, O) := by
  simp -implicitDefEqProofs [d_weight_in, dFn, b_weight_in, e_win h0 h]
end Wk08

set_option Elab.async false
set_option linter.all false
set_option maxRecDepth 100000
set_option exponentiation.threshold 10000
namespace Wk08
open PySem PySem.Spec L2 TL
theorem same_items {n : Nat} {xs ys : List T} {O : List Ob} (ih : ∀ x y, x.noOw = true → y.noOw = true → Sm n x y → d__law_same n [x, y] O = some (.bl true, O)) (hx : noOws xs = true) (hy : noOws ys = true) (hl : xs.length = ys.length) (hs : xs.length ≤ sizeLine) (h : ∀ (i : Nat) (x y : T), xs[i]? = some x → ys[i]? = some y → Sm n x y) (t u : T) :
    lcGo [2, 3] (gTp [(gNm 2), (gNm 3)]) tYesD (dCall (d__law_same n) (aCons (oBorS 2) (aCons (oBorS 3) aNil))) (zipT xs ys) [] ([some t, some u, none, none], O) = some ((zipT xs ys).map fun _ => T.bl true, ([some t, some u, none, none], O)) := by
  have e : zipT xs ys = (zipT xs ys).map id := (List.map_id _).symm
  conv => lhs; rw [e]
  refine lcGo_all (fun _ : T => T.bl true) id (ts := zipT xs ys) (fun p m => ?_) (by rw [zipT_len]; omega)
  obtain ⟨i, hi⟩ := List.mem_iff_getElem?.mp m
  obtain ⟨x, y, h1, h2, rfl⟩ := zipT_get _ _ _ _ hi
  have nx := noOws_mem hx (List.mem_of_getElem? h1)
  have ny := noOws_mem hy (List.mem_of_getElem? h2)
  refine ⟨([some t, some u, some x, some y], O), ([some t, some u, some x, some y], O), by simp, ?_, by simp⟩
  simp [brw_noOw x nx, brw_noOw y ny, ih x y nx ny (h i x y h1 h2)]
theorem e_same : ∀ (n : Nat) (t u : T) (O : List Ob), Sm n t.frz u.frz → d__law_same n [t, u] O = some (.bl true, O)
  | 0, _, _, _, h => (show False from h).elim
  | n + 1, t, u, O, h => by
    have e : d__law_same (n + 1) = dFn 4 (b__law_same (d__law_same n)) := rfl
    rw [e]
    have go : ∀ x y : T, x.noOw = true → y.noOw = true → Sm n x y → d__law_same n [x, y] O = some (.bl true, O) := fun x y nx ny hh => e_same n x y O (by rw [frz_noOw x nx, frz_noOw y ny]; exact hh)
    cases t with
    | int i => cases u with
      | int j => have h : i = j := h; simp [dFn, b__law_same, tyIs, h]
      | _ => exact (show False from h).elim
    | str i => cases u with
      | str j => have h : i = j := h; simp [dFn, b__law_same, tyIs, h]
      | _ => exact (show False from h).elim
    | bl i => cases u with
      | bl j => have h : i = j := h; simp [dFn, b__law_same, tyIs, h]
      | _ => exact (show False from h).elim
    | non => cases u with
      | non => simp [dFn, b__law_same, tyIs]
      | _ => exact (show False from h).elim
    | lst m xs => cases u with
      | lst m' ys =>
        obtain ⟨h1, h2, h3⟩ := (show (frzs xs).length = (frzs ys).length ∧ (frzs xs).length ≤ sizeLine ∧ ∀ (i : Nat) (x y : T), (frzs xs)[i]? = some x → (frzs ys)[i]? = some y → Sm n x y from h)
        have lx : ∀ zs : List T, (frzs zs).length = zs.length := fun zs => by
          induction zs with
          | nil => rfl
          | cons z zs ih => show (frzs zs).length + 1 = _; rw [ih]; rfl
        have lc := same_items go (noOws_frz xs) (noOws_frz ys) h1 h2 h3 (.lst m.frz (frzs xs)) (.lst m'.frz (frzs ys))
        have hl : (xs.length : Int) = ys.length := by rw [← lx xs, ← lx ys, h1]
        have zp : zipOf (.lst m.frz (frzs xs)) (.lst m'.frz (frzs ys)) = some (zipT (frzs xs) (frzs ys)) := by
          show (if (noOws (frzs xs) && noOws (frzs ys)) = true then some (zipT (frzs xs) (frzs ys)) else none) = _
          rw [noOws_frz, noOws_frz]; rfl
        have u0 : ∀ τ : List (Option T), dUse 0 (some (.lst m xs) :: τ, O) = some ((T.lst m xs).frz, (some (T.lst m xs).frz :: τ, O)) := fun τ => use_eq rfl
        have u1 : ∀ (x : Option T) (τ : List (Option T)), dUse 1 (x :: some (.lst m' ys) :: τ, O) = some ((T.lst m' ys).frz, (x :: some (T.lst m' ys).frz :: τ, O)) := fun x τ => use_eq rfl
        simp [dFn, b__law_same, tyIs, hl, u0, u1, -r_dUse, zp, lc, all_true]
      | _ => exact (show False from h).elim
    | tup xs => cases u with
      | tup ys =>
        obtain ⟨h1, h2, h3⟩ := (show (frzs xs).length = (frzs ys).length ∧ (frzs xs).length ≤ sizeLine ∧ ∀ (i : Nat) (x y : T), (frzs xs)[i]? = some x → (frzs ys)[i]? = some y → Sm n x y from h)
        have lx : ∀ zs : List T, (frzs zs).length = zs.length := fun zs => by
          induction zs with
          | nil => rfl
          | cons z zs ih => show (frzs zs).length + 1 = _; rw [ih]; rfl
        have lc := same_items go (noOws_frz xs) (noOws_frz ys) h1 h2 h3 (.tup (frzs xs)) (.tup (frzs ys))
        have hl : (xs.length : Int) = ys.length := by rw [← lx xs, ← lx ys, h1]
        have zp : zipOf (.tup (frzs xs)) (.tup (frzs ys)) = some (zipT (frzs xs) (frzs ys)) := by
          show (if (noOws (frzs xs) && noOws (frzs ys)) = true then some (zipT (frzs xs) (frzs ys)) else none) = _
          rw [noOws_frz, noOws_frz]; rfl
        have u0 : ∀ τ : List (Option T), dUse 0 (some (.tup xs) :: τ, O) = some ((T.tup xs).frz, (some (T.tup xs).frz :: τ, O)) := fun τ => use_eq rfl
        have u1 : ∀ (x : Option T) (τ : List (Option T)), dUse 1 (x :: some (.tup ys) :: τ, O) = some ((T.tup ys).frz, (x :: some (T.tup ys).frz :: τ, O)) := fun x τ => use_eq rfl
        simp [dFn, b__law_same, tyIs, hl, u0, u1, -r_dUse, zp, lc, all_true]
      | _ => exact (show False from h).elim
    | dic m xs => exact (show False from h).elim
    | hnd k => exact (show False from h).elim
theorem Sm_ints (n : Nat) (m m' : Mk) (l : List Int) (hl : l.length ≤ sizeLine) : Sm (n + 2) (.lst m (l.map T.int)) (.lst m' (l.map T.int)) := by
  refine ⟨rfl, by rw [List.length_map]; exact hl, fun i x y h1 h2 => ?_⟩
  rw [h1] at h2
  cases h2
  rw [List.getElem?_map] at h1
  cases q : l[i]? with
  | none => rw [q] at h1; cases h1
  | some v => rw [q] at h1; cases h1; exact rfl
theorem e_same_ints (k : Nat) (m m' : Mk) (l : List Int) (O : List Ob) (hl : l.length ≤ sizeLine) : d__law_same (k + 2) [.lst m (l.map T.int), .lst m' (l.map T.int)] O = some (.bl true, O) :=
  e_same (k + 2) _ _ O (by rw [frz_lst, frz_lst, frzs_map_int]; exact Sm_ints k _ _ l hl)
/-! ### a list of lists, copied -/
theorem copied_int (n : Nat) (i : Int) (O : List Ob) : d__law_copied (n + 1) [.int i] O = some (.int i, O) := by
  have e : d__law_copied (n + 1) = dFn 2 (b__law_copied (d__law_copied n)) := rfl
  rw [e]
  simp [dFn, b__law_copied, tyIs]
theorem copied_ints (n : Nat) (l : List Int) (O : List Ob) (hl : l.length ≤ sizeLine) : d__law_copied (n + 2) [.lst .br (l.map T.int)] O = some (.lst .ow (l.map T.int), O) := by
  have e : d__law_copied (n + 2) = dFn 2 (b__law_copied (d__law_copied (n + 1))) := rfl
  rw [e]
  have lc := lcGo_all (own := [1]) (g := gNm 1) (te := dCall (d__law_copied (n + 1)) (aCons (oBorS 1) aNil)) (S := ([some (.lst .br (l.map T.int)), none], O)) T.int T.int (ts := l) (fun i _ => ⟨([some (.lst .br (l.map T.int)), some (.int i)], O), ([some (.lst .br (l.map T.int)), some (.int i)], O), by simp, by simp [copied_int], by simp⟩) hl
  simp [dFn, b__law_copied, tyIs, lc]
def rows (m : Mk) (ls : List (List Int)) : List T := ls.map fun l => .lst m (l.map T.int)
theorem noOws_rows : ∀ ls : List (List Int), noOws (rows .br ls) = true
  | [] => rfl
  | l :: ls => by show (noOws (l.map T.int) && noOws (rows .br ls)) = true; rw [noOws_map_int, noOws_rows ls]; rfl
theorem noOws_rowsF : ∀ ls : List (List Int), noOws (rows .fz ls) = true
  | [] => rfl
  | l :: ls => by show (noOws (l.map T.int) && noOws (rows .fz ls)) = true; rw [noOws_map_int, noOws_rowsF ls]; rfl
theorem brws_rows : ∀ ls : List (List Int), brws (rows .ow ls) = rows .br ls
  | [] => rfl
  | l :: ls => by show T.lst .br (brws (l.map T.int)) :: brws (rows .ow ls) = _; rw [brws_map_int, brws_rows ls]; rfl
theorem brws_rowsF : ∀ ls : List (List Int), brws (rows .fz ls) = rows .fz ls
  | [] => rfl
  | l :: ls => by show T.lst .fz (brws (l.map T.int)) :: brws (rows .fz ls) = _; rw [brws_map_int, brws_rowsF ls]; rfl
theorem frzs_rows : ∀ ls : List (List Int), frzs (rows .ow ls) = rows .fz ls
  | [] => rfl
  | l :: ls => by show T.lst .fz (frzs (l.map T.int)) :: frzs (rows .ow ls) = _; rw [frzs_map_int, frzs_rows ls]; rfl
theorem noBrs_rows : ∀ ls : List (List Int), noBrs (rows .ow ls) = true
  | [] => rfl
  | l :: ls => by show (noBrs (l.map T.int) && noBrs (rows .ow ls)) = true; rw [noBrs_map_int, noBrs_rows ls]; rfl
theorem e_copied (n : Nat) (ls : List (List Int)) (O : List Ob) (hl : ls.length ≤ sizeLine) (hs : ∀ l ∈ ls, l.length ≤ sizeLine) : d__law_copied (n + 3) [.lst .br (rows .br ls)] O = some (.lst .ow (rows .ow ls), O) := by
  have e : d__law_copied (n + 3) = dFn 2 (b__law_copied (d__law_copied (n + 2))) := rfl
  rw [e]
  have lc := lcGo_all (own := [1]) (g := gNm 1) (te := dCall (d__law_copied (n + 2)) (aCons (oBorS 1) aNil)) (S := ([some (.lst .br (rows .br ls)), none], O)) (fun l : List Int => T.lst .ow (l.map T.int)) (fun l => T.lst .br (l.map T.int)) (ts := ls) (fun l m => ⟨([some (.lst .br (rows .br ls)), some (.lst .br (l.map T.int))], O), ([some (.lst .br (rows .br ls)), some (.lst .br (l.map T.int))], O), by simp, by simp [copied_ints n l O (hs l m)], by simp⟩) hl
  have lc : lcGo [1] (gNm 1) tYesD (dCall (d__law_copied (n + 2)) (aCons (oBorS 1) aNil)) (rows .br ls) [] ([some (.lst .br (rows .br ls)), none], O) = some (rows .ow ls, ([some (.lst .br (rows .br ls)), none], O)) := lc
  simp [dFn, b__law_copied, tyIs, lc, noOws_rows, noBrs_rows]
/-! ### marked -/
theorem marked_int (n : Nat) (i : Int) (O : List Ob) : d__law_marked (n + 1) [.int i] O = some (.int i, O) := by
  have e : d__law_marked (n + 1) = dFn 2 (b__law_marked (d__law_marked n)) := rfl
  rw [e]
  simp [dFn, b__law_marked, tyIs]
theorem e_marked {n k : Nat} {l : List Int} {O : List Ob} (h : O[k]? = some (.lst (l.map T.int))) (hl : l.length < sizeLine) : d__law_marked (n + 2) [.hnd k] O = some (.hnd k, O.set k (.lst (l.map T.int ++ [.str "a mark"]))) := by
  have e : d__law_marked (n + 2) = dFn 2 (b__law_marked (d__law_marked (n + 1))) := rfl
  rw [e]
  have loop : ∀ (ts : List Int) (x : Option T), ∃ y : Option T, forGo (gNm 1) (sDrop (dCall (d__law_marked (n + 1)) (aCons (oTmp (dUse 1)) aNil))) (ts.map T.int) ([some (.hnd k), x], O) = some (.nx, ([some (.hnd k), y], O)) := by
    intro ts
    induction ts with
    | nil => intro x; exact ⟨x, rfl⟩
    | cons t ts ih =>
      intro x
      obtain ⟨y, e⟩ := ih (some (.int t))
      exact ⟨y, forGo_step (by simp [marked_int]) e⟩
  obtain ⟨y, e2⟩ := loop l none
  have fl : fList [.lst .ow (l.map T.int)] = some (.lst .ow (l.map T.int)) := by
    show (if noOws (l.map T.int) = true then some (T.lst .ow (l.map T.int)) else none) = _
    rw [noOws_map_int]; rfl
  have nb : noBrs (l.map T.int ++ [.str "a mark"]) = true := by
    have : ∀ l : List Int, noBrs (l.map T.int ++ [.str "a mark"]) = true := fun l => by
      induction l with
      | nil => rfl
      | cons a l ih => exact ih
    exact this l
  simp [dFn, b__law_marked, tyIs, view_hnd h, fl, e2, getL, putL, h, hl, nb]
end Wk08

set_option Elab.async false
set_option linter.all false
set_option maxRecDepth 100000
set_option exponentiation.threshold 10000
namespace Wk08
open PySem PySem.Spec L2 TL
/-! ### a row drawn -/
/-- a row, the other way round -/
structure RowR (l : List Int) (k : Nat) : Prop where
  dn : Dn l
  ne : l ≠ []
  len : l.length ≤ k
  bot : ∀ s, l.getLast? = some s → s ≤ 100
  top : ∀ s, l.head? = some s → s ≤ 100 * 12 ^ (l.length - 1)
theorem RowR.lt {l : List Int} {k : Nat} (h : RowR l k) (hk : k ≤ 6) : ∀ x ∈ l, 0 < x ∧ x < 2 ^ 40 := by
  intro x m
  refine ⟨h.dn.pos x m, ?_⟩
  obtain ⟨a, r, rfl⟩ : ∃ a r, l = a :: r := by
    cases l with
    | nil => exact absurd rfl h.ne
    | cons a r => exact ⟨a, r, rfl⟩
  have ha := h.top a rfl
  have hl : (a :: r).length - 1 ≤ 5 := by have := h.len; omega
  have hp : (100 : Int) * 12 ^ ((a :: r).length - 1) ≤ 100 * 12 ^ 5 := by
    have : (12 : Int) ^ ((a :: r).length - 1) ≤ 12 ^ 5 := by
      have := Nat.pow_le_pow_right (show 0 < 12 by omega) hl
      have e : ((12 ^ ((a :: r).length - 1) : Nat) : Int) ≤ ((12 ^ 5 : Nat) : Int) := by omega
      simpa using e
    omega
  have hx : x ≤ a := by
    rcases List.mem_cons.mp m with rfl | m
    · exact Int.le_refl _
    · exact Int.le_of_lt (Dn.lt (l := [a]) (r := r) h.dn a (by simp) x m)
  have : (100 : Int) * 12 ^ 5 < 2 ^ 40 := by decide
  omega
theorem RowR.cons {a : Int} {r : List Int} {k : Nat} {m : Int} (h : RowR (a :: r) k) (h2 : 2 ≤ m) (h3 : m ≤ 12) : RowR (a * m :: a :: r) (k + 1) where
  dn := ⟨⟨m, rfl, h2, h3⟩, h.dn⟩
  ne := by simp
  len := by have := h.len; simp only [List.length_cons] at this ⊢; omega
  bot := fun s e => h.bot s (by rw [← e, List.getLast?_cons_cons])
  top := fun s e => by
    have e : a * m = s := by simpa using e
    have ha := h.top a rfl
    have hp : 0 < a := h.dn.pos a (by simp)
    have e2 : (a * m :: a :: r).length - 1 = (a :: r).length - 1 + 1 := by simp
    rw [e2, Int.pow_succ, ← e, ← Int.mul_assoc]
    have h1 : a * m ≤ a * 12 := Int.mul_le_mul_of_nonneg_left h3 (by omega)
    omega
theorem e_sizes {O : List Ob} {n k : Nat} (h : Bx O n k) (hk : k < 2 ^ 30) : ∃ l O', d__law_sizes [.hnd n] O = some (.lst .ow (l.reverse.map T.int), O') ∧ RowR l 5 ∧ Bx O' n (k + 11) := by
  have loop : ∀ (ts : List T) (a : Int) (r : List Int) (j : Nat) (k : Nat) (x : Option T) (O : List Ob), RowR (a :: r) j → j + ts.length ≤ 5 → Bx O n k → k + 2 * ts.length < 2 ^ 31 → ∃ (l : List Int) (y : Option T) (O' : List Ob), forGo (gNm 2) (sDrop (dApp 1 (d2 fMul (oTmp (d2 fIx (oAuto 1) (oTmp (d1 fNeg (oTmp (dC (.int 1))))))) (oTmp (d2 fIx (oTmp (dLst (aCons (oTmp (dC (.int 2))) (aCons (oTmp (dC (.int 2))) (aCons (oTmp (dC (.int 3))) (aCons (oTmp (d2 fAdd (oTmp (dC (.int 2))) (oTmp (dCall d__law_take (aCons (oBorS 0) (aCons (oTmp (dC (.int 11))) aNil)))))) aNil)))))) (oTmp (dCall d__law_take (aCons (oBorS 0) (aCons (oTmp (dC (.int 4))) aNil)))))))))
      ts ([some (.hnd n), some (.lst .ow ((a :: r).reverse.map T.int)), x], O) = some (.nx, ([some (.hnd n), some (.lst .ow (l.reverse.map T.int)), y], O')) ∧ RowR l 5 ∧ Bx O' n (k + 2 * ts.length) := by
    intro ts
    induction ts with
    | nil =>
      intro a r j k x O hr hj hb _
      exact ⟨a :: r, x, O, rfl, { hr with len := by have := hr.len; simp at hj; omega }, hb⟩
    | cons t ts ih =>
      intro a r j k x O hr hj hb hk
      rw [List.length_cons] at hj hk
      obtain ⟨d1, O1, e1, g1, g2, b1⟩ := e_take (m := 11) hb (by omega) (by omega) (by omega)
      obtain ⟨d2, O2, e2, g3, g4, b2⟩ := e_take (m := 4) b1 (by omega) (by omega) (by omega)
      obtain ⟨m, hm, m2, m3⟩ : ∃ m : Int, atI [T.int 2, T.int 2, T.int 3, T.int (2 + d1)] d2 = some (.int m) ∧ 2 ≤ m ∧ m ≤ 12 := by
        have : d2 = 0 ∨ d2 = 1 ∨ d2 = 2 ∨ d2 = 3 := by omega
        rcases this with rfl | rfl | rfl | rfl
        · exact ⟨2, atI_nat (j := 0) rfl (by simp), by omega, by omega⟩
        · exact ⟨2, atI_nat (j := 1) rfl (by simp), by omega, by omega⟩
        · exact ⟨3, atI_nat (j := 2) rfl (by simp), by omega, by omega⟩
        · exact ⟨2 + d1, atI_nat (j := 3) rfl (by simp), by omega, by omega⟩
      have hr2 := hr.cons m2 m3
      obtain ⟨l, y, O', e3, hr3, b3⟩ := ih (a * m) (a :: r) (j + 1) (k + 1 + 1) (some t) O2 hr2 (by omega) b2 (by omega)
      refine ⟨l, y, O', forGo_step ?_ e3, hr3, b3.mono (by simp only [List.length_cons]; omega)⟩
      have la' : atI ((r.map T.int).reverse ++ [T.int a]) (-1) = some (.int a) := L2.atI_last _ _
      have sm : smallI m = true := decide_eq_true ⟨by omega, by omega⟩
      have sl : 4 ≤ sizeLine := by decide
      have ln := hr.len
      have sl2 : r.length + 1 < sizeLine := by simp only [List.length_cons] at ln; exact Nat.lt_of_le_of_lt (show r.length + 1 ≤ 5 by omega) (by decide)
      have no1 : noOws ((r.map T.int).reverse ++ [T.int a]) = true := by
        have : (r.map T.int).reverse ++ [T.int a] = (r.reverse ++ [a]).map T.int := by simp
        rw [this]; exact noOws_map_int _
      simp [e1, e2, hm, la', sm, sl, getL, putL, sl2, no1, L2.atI_last]
  obtain ⟨d3, O1, e1, g1, g2, b1⟩ := e_take (m := 3) h (by omega) (by omega) (by omega)
  obtain ⟨m, hm, m2, m3⟩ : ∃ m : Int, atI [T.int 1, T.int 7, T.int 100] d3 = some (.int m) ∧ 1 ≤ m ∧ m ≤ 100 := by
    have : d3 = 0 ∨ d3 = 1 ∨ d3 = 2 := by omega
    rcases this with rfl | rfl | rfl
    · exact ⟨1, atI_nat (j := 0) rfl (by simp), by omega, by omega⟩
    · exact ⟨7, atI_nat (j := 1) rfl (by simp), by omega, by omega⟩
    · exact ⟨100, atI_nat (j := 2) rfl (by simp), by omega, by omega⟩
  obtain ⟨f, O2, e2, g3, g4, b2⟩ := e_take (m := m) b1 (by omega) (by omega) (by omega)
  obtain ⟨c, O3, e3, g5, g6, b3⟩ := e_take (m := 5) b2 (by omega) (by omega) (by omega)
  have r0 : RowR [1 + f] 1 := { dn := (by show 0 < 1 + f; omega), ne := by simp, len := by simp, bot := fun s e => by simp at e; omega, top := fun s e => by simp at e; simp; omega }
  obtain ⟨l, y, O', e4, hr, b4⟩ := loop (rangeT 0 1 c.toNat) (1 + f) [] 1 (k + 1 + 1 + 1) none O3 r0 (by simp [rangeT]; omega) b3 (by simp [rangeT]; omega)
  refine ⟨l, O', ?_, hr, b4.mono (by simp [rangeT]; omega)⟩
  have sl : 3 ≤ sizeLine := by decide
  have sl1 : 1 ≤ sizeLine := by decide
  have okc : okR c = true := decide_eq_true ⟨by omega, by omega⟩
  have e4 : forGo _ _ (rangeT 0 1 c.toNat) ([some (.hnd n), some (.lst .ow [T.int (1 + f)]), none], O3) = _ := e4
  simp [d__law_sizes, dFn, b__law_sizes, e1, hm, e2, e3, sl, sl1, okc, e4]
end Wk08

set_option Elab.async false
set_option linter.all false
set_option maxRecDepth 100000
set_option exponentiation.threshold 10000
namespace Wk08
open PySem PySem.Spec L2 TL
/-! ### the sacks of an amount -/
/-- a row, from the least on, as it stands in a list -/
structure RowL (a : Int) (l : List Int) : Prop where
  dn : Dn (a :: l).reverse
  fst : a ≤ 100
  lt : ∀ x ∈ a :: l, 0 < x ∧ x ≤ 100 * 12 ^ 4
theorem whole_eq {a s : Int} (hs : 0 < s) : a + -a % s = (a + s - 1) / s * s := by
  have e1 := Int.emod_add_mul_ediv (a + s - 1) s
  have h1 := Int.emod_nonneg (a + s - 1) (show s ≠ 0 by omega)
  have h2 := Int.emod_lt_of_pos (a + s - 1) hs
  have h3 := Int.emod_nonneg (-a) (show s ≠ 0 by omega)
  have h4 := Int.emod_lt_of_pos (-a) hs
  have e2 := Int.emod_add_mul_ediv (-a) s
  -- both are multiples of s at least a and less than a + s
  have x1 : a + -a % s = s * (-(-a / s)) := by rw [Int.mul_neg]; omega
  have x2 : (a + s - 1) / s * s = s * ((a + s - 1) / s) := Int.mul_comm _ _
  rw [x1, x2]
  have : -(-a / s) = (a + s - 1) / s := by
    have y1 : s * (-(-a / s)) < s * ((a + s - 1) / s) + s := by rw [← x1]; omega
    have y2 : s * ((a + s - 1) / s) < s * (-(-a / s)) + s := by rw [← x1]; omega
    have z1 : -(-a / s) < (a + s - 1) / s + 1 := by
      refine Int.lt_of_mul_lt_mul_left (a := s) ?_ (by omega)
      rw [Int.mul_add, Int.mul_one]; exact y1
    have z2 : (a + s - 1) / s < -(-a / s) + 1 := by
      refine Int.lt_of_mul_lt_mul_left (a := s) ?_ (by omega)
      rw [Int.mul_add, Int.mul_one]; exact y2
    omega
  rw [this]
/-- neighbours of a row -/
theorem nb_row : ∀ {l : List Int}, Dn l.reverse → ∀ (p q : List Int) (x y : Int), l = p ++ x :: y :: q → ∃ m : Int, y = x * m ∧ 2 ≤ m ∧ m ≤ 12 := by
  intro l h p q x y e
  subst e
  have e2 : (p ++ x :: y :: q).reverse = q.reverse ++ (y :: x :: p.reverse) := by simp
  rw [e2] at h
  have : ∀ (u v : List Int), Dn (u ++ v) → Dn v := by
    intro u
    induction u with
    | nil => intro v h; exact h
    | cons a u ih => intro v h; exact ih v (Dn.tail (a := a) (r := u ++ v) h)
  exact (this _ _ h).1
theorem mem_split2 {l : List Int} {x : Int} (h : x ∈ l) : ∃ p q, l = p ++ x :: q := List.append_of_mem h
theorem ediv_mul_le {W x m : Int} (hW : 0 ≤ W) (hx : 0 < x) (hm : 0 < m) : W / (x * m) * m ≤ W / x := by
  rw [← Int.ediv_ediv_of_nonneg (by omega)]
  exact Int.ediv_mul_le _ (by omega)
theorem e_sacks {m : Mk} {a : Int} {l : List Int} {amt : Int} {O : List Ob} (hr : RowL a l) (hl : l.length ≤ 4) (h0 : 0 ≤ amt) (h1 : amt < 2 ^ 40) (hp : (par (a :: l).reverse (amt + -amt % a)).length ≤ 1000) :
    d__law_sacks_right [.lst m.brw ((a :: l).map T.int), .int amt] O = some (.bl true, O) := by
  have ha := hr.lt a (by simp)
  have hs := ha.1
  have b40 : ∀ x ∈ a :: l, x < 2 ^ 40 := fun x mx => by
    have := (hr.lt x mx).2
    have : (100 : Int) * 12 ^ 4 < 2 ^ 40 := by decide
    omega
  have sl : 1000 ≤ sizeLine := by decide
  have a40 := b40 a (by simp)
  obtain ⟨W, hW⟩ : ∃ W, W = amt + -amt % a := ⟨_, rfl⟩
  have m1 : -amt % a < a := Int.emod_lt_of_pos _ hs
  have m2 : 0 ≤ -amt % a := Int.emod_nonneg _ (by omega)
  have W0 : 0 ≤ W := by omega
  have W1 : W < 2 ^ 41 := by omega
  have ep := e_parcels (m := m) (O := O) hr.dn b40 h0 (by omega) (by omega)
  rw [← hW] at ep
  have we : (amt + a - 1) / a * a = W := by rw [hW]; exact (whole_eq hs).symm
  have dv : a ∣ W := ⟨(amt + a - 1) / a, by rw [← we, Int.mul_comm]⟩
  have lst : (a :: l).reverse.getLast? = some a := by simp
  have sm : (par (a :: l).reverse W).sum = W := by
    rw [par_sum _ _ hr.dn W0, rest_last hr.dn lst, Int.emod_eq_zero_of_dvd dv]; omega
  -- units
  have un : ∀ x ∈ a :: l, ((par (a :: l).reverse W).filter fun y => decide (x ≤ y)).sum / x = W / x := by
    intro x mx
    obtain ⟨p, q, e⟩ := mem_split2 (List.mem_reverse.mpr mx)
    have hd := hr.dn
    rw [e] at hd ⊢
    exact par_units hd W0
  have pos : ∀ x ∈ par (a :: l).reverse W, 0 < x ∧ x ≤ 100 * 12 ^ 4 := fun x mx => hr.lt x (List.mem_reverse.mp (par_mem x mx))
  rw [← hW] at hp
  generalize par (a :: l).reverse W = P at *
  have eu : ∀ (x : Int) (O : List Ob), x ∈ a :: l → d_units_of [.lst .br (P.map T.int), .int x] O = some (.int (W / x), O) := by
    intro x O mx
    have := e_units (m := .ow) (ws := P) (s := x) (O := O) (hr.lt x mx).1 (b40 x mx) (by omega)
    rw [un x mx] at this
    exact this
  -- the neighbours
  have loop : ∀ (p : List Int) (x : Int) (q : List Int) (t1 : T) (y1 y2 z : Option T), a :: l = p ++ x :: q → ∃ w1 w2 : Option T, forGo (gTp [(gNm 4), (gNm 5)]) (sIf (tOrD (tOf (d2 fNe (oTmp (dCall d_units_of (aCons (oBorS 2) (aCons (oBorS 5) aNil)))) (oTmp (d2 fDiv (oBorS 3) (oBorS 5))))) (tOf (d2 fLt (oTmp (dCall d_units_of (aCons (oBorS 2) (aCons (oBorS 4) aNil)))) (oTmp (d2 fMul (oTmp (dCall d_units_of (aCons (oBorS 2) (aCons (oBorS 5) aNil)))) (oTmp (d2 fDiv (oBorS 5) (oBorS 4)))))))) (sRet (dC (.bl false))) sNil)
      ((List.zip (x :: q) q).map fun p => .tup [.int p.1, .int p.2]) ([some t1, some (.int amt), some (.lst .ow (P.map T.int)), some (.int W), y1, y2, z], O) = some (.nx, ([some t1, some (.int amt), some (.lst .ow (P.map T.int)), some (.int W), w1, w2, z], O)) := by
    intro p x q
    induction q generalizing p x with
    | nil => intro t1 y1 y2 z _; exact ⟨y1, y2, rfl⟩
    | cons y q ih =>
      intro t1 y1 y2 z e
      obtain ⟨w1, w2, e2⟩ := ih (p ++ [x]) y t1 (some (.int x)) (some (.int y)) z (by rw [e]; simp)
      rw [List.zip_cons_cons, List.map_cons]
      refine ⟨w1, w2, forGo_step ?_ e2⟩
      obtain ⟨k, hk, k2, k3⟩ := nb_row (l := a :: l) hr.dn p q x y e
      have mx : x ∈ a :: l := by rw [e]; simp
      have my : y ∈ a :: l := by rw [e]; simp
      have hx := (hr.lt x mx).1
      have hy := (hr.lt y my).1
      have bx := b40 x mx
      have hy40 := b40 y my
      have yx : y / x = k := by rw [hk, Int.mul_ediv_cancel_left _ (by omega)]
      have le : ¬ W / x < W / y * k := by
        have := ediv_mul_le (m := k) W0 hx (by omega)
        rw [hk]
        omega
      have sk : smallI k = true := decide_eq_true ⟨by omega, by omega⟩
      simp [eu x O mx, eu y O my, okDiv_of W hy (by omega), okDiv_of y hx (by omega), yx, le, sk]
  obtain ⟨w1, w2, lp⟩ := loop [] a l (.lst m.brw ((a :: l).map T.int)) none none none rfl
  -- the texts
  have lc := lcGo_all (own := [6]) (g := gNm 6) (te := dCall d_weight_in (aCons (oTmp (dCall d_weight_text (aCons (oBorS 6) aNil))) aNil)) (S := ([some (.lst m.brw ((a :: l).map T.int)), some (.int amt), some (.lst .fz (P.map T.int)), some (.int W), w1, w2, none], O)) T.int T.int (ts := P) (fun x mx => by
    refine ⟨([some (.lst m.brw ((a :: l).map T.int)), some (.int amt), some (.lst .fz (P.map T.int)), some (.int W), w1, w2, some (.int x)], O), ([some (.lst m.brw ((a :: l).map T.int)), some (.int amt), some (.lst .fz (P.map T.int)), some (.int W), w1, w2, some (.int x)], O), by simp, ?_, by simp⟩
    have hx := pos x mx
    have hx2 : (100 : Int) * 12 ^ 4 < 10 ^ 8 := by decide
    have t1 := e_wt (w := x.toNat) (O := O) (by omega) (by omega)
    have t2 := e_wi (w := x.toNat) (O := O) (by omega) (by omega)
    have tn : ((x.toNat : Nat) : Int) = x := Int.toNat_of_nonneg (by omega)
    rw [tn] at t1 t2
    simp [t1, t2]) (by omega)
  have fs : fSum [.lst .ow (P.map T.int)] = some (.int W) := by
    show (intsT (P.map T.int)).bind _ = _
    rw [intsT_map, Option.bind_some, sm]
  have es := e_same_ints 2 .ow .br (P) O (by omega)
  have es' := e_same_ints 2 .ow .fz (P) O (by omega)
  have no : T.noOw (.lst m.brw ((a :: l).map T.int)) = true := noOw_brw _ _ (by simp)
  have ct : cutT ((a :: l).map T.int) (some 1) none = l.map T.int := cutT_from _ 1
  have zp : ∀ m : Mk, zipOf (.lst m ((a :: l).map T.int)) (.lst .ow (l.map T.int)) = some ((List.zip (a :: l) l).map fun p => .tup [.int p.1, .int p.2]) := fun m => by
    have e : zipOf (.lst m ((a :: l).map T.int)) (.lst .ow (l.map T.int)) = if (noOws ((a :: l).map T.int) && noOws (l.map T.int)) = true then some (zipT ((a :: l).map T.int) (l.map T.int)) else none := rfl
    rw [e, if_pos (by simp)]
    exact congrArg some (zip_tail a l)
  have at0 : atI ((a :: l).map T.int) 0 = some (.int a) := atI_zero _ _
  have sm2 : smallI a = true := decide_eq_true ⟨by omega, by omega⟩
  have bb : m.brw.brw = m.brw := by cases m <;> rfl
  have nos : noOws ((a :: l).map T.int) = true := noOws_map_int _
  have bws : brws ((a :: l).map T.int) = (a :: l).map T.int := brws_map_int _
  generalize (a :: l).map T.int = AL at *
  have lp' := lp
  have eua := eu a O (by simp)
  have od := okDiv_of (amt + a - 1) hs (by omega)
  have od2 := okDiv_of W hs (by omega)
  have kd : T.kids (.lst m.brw AL) = true := nos
  simp -implicitDefEqProofs [d__law_sacks_right, dFn, b__law_sacks_right, bb, bws, kd, at0, od, od2, sm2, we, eua, ep, fs, no, ct, zp, nos, lp, lc, es']
end Wk08

set_option Elab.async false
set_option linter.all false
set_option maxRecDepth 100000
set_option exponentiation.threshold 10000
namespace Wk08
open PySem PySem.Spec L2 TL
/-! ### a list made longer -/
theorem Dn.right : ∀ {u v : List Int}, Dn (u ++ v) → Dn v
  | [], _, h => h
  | a :: u, v, h => Dn.right (u := u) (Dn.tail (a := a) (r := u ++ v) h)
theorem RowL.pre {a : Int} {l p q : List Int} (h : RowL a l) (e : l = p ++ q) : RowL a p where
  dn := by
    have := h.dn
    rw [e] at this
    have e2 : (a :: (p ++ q)).reverse = q.reverse ++ (a :: p).reverse := by simp
    rw [e2] at this
    exact this.right
  fst := h.fst
  lt := fun x m => h.lt x (by
    rcases List.mem_cons.mp m with rfl | m
    · simp
    · rw [e]; exact List.mem_cons_of_mem _ (List.mem_append_left _ m))
theorem Fo_row {x m : Int} (hx : 0 < x) (h2 : 2 ≤ m) (h3 : m ≤ 12) : Fo x (x * m) = true := by
  unfold Fo
  rw [Int.mul_ediv_cancel_left _ (by omega), Int.mul_emod_right]
  simp [h2, h3]
theorem Fo_self {x : Int} (hx : 0 < x) : Fo x x = false := by
  unfold Fo
  rw [Int.ediv_self (by omega)]
  simp
theorem allF_row : ∀ {l : List Int} {a : Int}, Dn (a :: l).reverse → allF (a :: l) = true
  | [], a, _ => rfl
  | b :: l, a, h => by
    obtain ⟨m, hm, h2, h3⟩ := nb_row h [] l a b rfl
    have ha : 0 < a := h.pos a (by simp)
    have e : (a :: b :: l).reverse = (b :: l).reverse ++ [a] := by simp
    rw [e] at h
    show (Fo a b && allF (b :: l)) = true
    rw [hm, Fo_row ha h2 h3, ← hm, allF_row h.left]; rfl
theorem allF_twice : ∀ (p : List Int) (x : Int), 0 < x → allF (p ++ [x, x]) = false
  | [], x, h => by show (Fo x x && _) = false; rw [Fo_self h]; rfl
  | [y], x, h => by show (Fo y x && (Fo x x && _)) = false; rw [Fo_self h]; simp
  | y :: z :: p, x, h => by
    have := allF_twice (z :: p) x h
    show (Fo y z && allF ((z :: p) ++ [x, x])) = false
    rw [this]; simp
/-- how many sacks at most -/
theorem par_len2 {a : Int} {l : List Int} {amt : Int} (h : RowL a l) (hl : l.length ≤ 4) (h0 : 0 ≤ amt) (h1 : ∀ t, (a :: l).getLast? = some t → amt ≤ 40 * t) : (par (a :: l).reverse (amt + -amt % a)).length ≤ 1000 := by
  have ha := (h.lt a (by simp)).1
  obtain ⟨s, r, e⟩ : ∃ s r, (a :: l).reverse = s :: r := by
    cases q : (a :: l).reverse with
    | nil => simp at q
    | cons s r => exact ⟨s, r, rfl⟩
  have hd := h.dn
  have ms : s ∈ a :: l := List.mem_reverse.mp (by rw [e]; simp)
  have hs := (h.lt s ms).1
  have ls : (a :: l).getLast? = some s := by rw [← List.head?_reverse, e]; rfl
  have lr : r.length ≤ 4 := by
    have := congrArg List.length e
    simp only [List.length_reverse, List.length_cons] at this
    omega
  have h40 := h1 s ls
  have las : a ≤ s := by
    have : a ∈ s :: r := by rw [← e]; simp
    rcases List.mem_cons.mp this with q | q
    · omega
    · have := Dn.lt (l := [s]) (r := r) (by have h9 := hd; rw [e] at h9; exact h9) s (by simp) a q
      omega
  have m1 : -amt % a < a := Int.emod_lt_of_pos _ ha
  have m2 : 0 ≤ -amt % a := Int.emod_nonneg _ (by omega)
  rw [e] at hd ⊢
  have := par_len (k := 42) (left := amt + -amt % a) hd (by omega) (by
    show _ < s * 42
    omega)
  omega
def b_grow : DS := (sSeq (sAsg (dCall d__law_wide (aCons (oBorS 0) (aCons (oTmp (d2 fAdd (oTmp (d2 fMul (oTmp (dC (.int 40))) (oTmp (d2 fIx (oAuto 2) (oTmp (d1 fNeg (oTmp (dC (.int 1))))))))) (oTmp (dC (.int 1))))) aNil))) (gNm 4))
    (sSeq (sIf (tOrD (tNotD (tOf (dCall d_is_sizes (aCons (oBorS 2) aNil)))) (tOrD (tNotD (tOf (dCall d__law_sacks_right (aCons (oBorS 2) (aCons (oBorS 4) aNil))))) (tOf (dCall d_is_sizes (aCons (oTmp (d2 fAdd (oBorS 2) (oTmp (d3 fSl (oAuto 2) (pSome (d1 fNeg (oTmp (dC (.int 1))))) pNone)))) aNil))))) (sRet (dC (.bl false))) sNil)
    (sSeq (sAsg (dCall d_parcels_of (aCons (oBorS 2) (aCons (oBorS 4) aNil))) (gNm 5))
    (sSeq (sDrop (dExt 2 (oTmp (d3 fSl (oAuto 1) (pSome (dUse 3)) (pSome (d2 fAdd (oBorS 3) (oTmp (dC (.int 1)))))))))
    (sSeq (sAsg (d2 fMul (oTmp (d2 fDiv (oTmp (d2 fSub (oTmp (d2 fAdd (oBorS 4) (oTmp (d2 fIx (oAuto 2) (oTmp (dC (.int 0))))))) (oTmp (dC (.int 1))))) (oTmp (d2 fIx (oAuto 2) (oTmp (dC (.int 0))))))) (oTmp (d2 fIx (oAuto 2) (oTmp (dC (.int 0)))))) (gNm 6))
    (sSeq (sIf (tAndD (tOf (d2 fLt (oBorS 6) (oTmp (d2 fIx (oAuto 2) (oTmp (d1 fNeg (oTmp (dC (.int 1))))))))) (tAndD (tOf (d2 fLt (oBorS 3) (oTmp (dB fLen (aCons (oBorS 1) aNil))))) (tOf (d2 fNe (oTmp (dCall d_parcels_of (aCons (oBorS 2) (aCons (oBorS 4) aNil)))) (oBorS 5))))) (sRet (dC (.bl false))) sNil)
    (sIf (tOf (d2 fNe (oBorS 2) (oTmp (d3 fSl (oAuto 1) pNone (pSome (d2 fAdd (oBorS 3) (oTmp (dC (.int 1))))))))) (sRet (dC (.bl false))) sNil)))))))
theorem grow_step {O : List Ob} {n k : Nat} {a : Int} {l p q : List Int} (hr : RowL a l) (hl : l.length ≤ 4) (e : l = p ++ q) (hb : Bx O n k) (hk : k < 2 ^ 31) (x3 x4 x5 x6 : Option T) : ∃ (y4 y5 y6 : Option T) (O' : List Ob), (gNm 3 (.int ((p.length + 1 : Nat) : Int)) ([some (.hnd n), some (.lst .fz ((a :: l).map T.int)), some (.lst .ow ((a :: p).map T.int)), x3, x4, x5, x6], O)).bind b_grow
    = some (.nx, ([some (.hnd n), some (.lst .fz ((a :: l).map T.int)), some (.lst .ow ((a :: (p ++ q.take 1)).map T.int)), some (.int ((p.length + 1 : Nat) : Int)), y4, y5, y6], O')) ∧ Bx O' n (k + 4) := by
  have ha := hr.lt a (by simp)
  have c5 : (100 : Int) * 12 ^ 4 < 2 ^ 40 := by decide
  have b40 : ∀ x ∈ a :: l, 0 < x ∧ x < 2 ^ 40 := fun x mx => by
    have := hr.lt x mx
    omega
  have sl : 1000 ≤ sizeLine := by decide
  have hrp := hr.pre e
  have lp : p.length ≤ 4 := by rw [e, List.length_append] at hl; omega
  have e2 : l = (p ++ q.take 1) ++ q.drop 1 := by rw [List.append_assoc, List.take_append_drop]; exact e
  have hrn := hr.pre e2
  obtain ⟨t, ht⟩ : ∃ t, (a :: p).getLast? = some t := by
    cases q' : (a :: p).getLast? with
    | none => simp at q'
    | some t => exact ⟨t, rfl⟩
  obtain ⟨u, hu⟩ : ∃ u, a :: p = u ++ [t] := ⟨(a :: p).dropLast, by
    have := List.dropLast_concat_getLast (l := a :: p) (by simp)
    rw [List.getLast?_eq_some_getLast (by simp)] at ht
    rw [← Option.some.inj ht]; exact this.symm⟩
  have mt : t ∈ a :: p := by rw [hu]; simp
  have bt := hrp.lt t mt
  obtain ⟨amt, O1, ew, w0, w1, b1⟩ := e_wide (m := 40 * t + 1) hb (by omega) (by omega)
  have ltp : ∀ x ∈ a :: p, x < 2 ^ 40 := fun x m => by have := hrp.lt x m; omega
  have ltn : ∀ x ∈ a :: (p ++ q.take 1), x < 2 ^ 40 := fun x m => by have := hrn.lt x m; omega
  have plen := par_len2 (amt := amt) hrp lp w0 (fun t' h => by rw [ht] at h; cases h; omega)
  have is1 := e_is (m := .ow) (O := O1) (a := a) (l := p) (fun x m => ⟨(hrp.lt x m).1, ltp x m⟩) (by omega)
  rw [allF_row hrp.dn, decide_eq_true (show p.length + 1 ≤ 5 by omega), decide_eq_true hr.fst] at is1
  have sr := e_sacks (m := .ow) (O := O1) hrp lp w0 (by omega) plen
  have is2 := e_isO (O := O1) (a := a) (l := p ++ [t]) (fun x m => by
    have m : x ∈ a :: p := by
      rcases List.mem_cons.mp m with rfl | m
      · simp
      · rcases List.mem_append.mp m with m | m
        · exact List.mem_cons_of_mem _ m
        · rcases List.mem_singleton.mp m with rfl; exact mt
    exact ⟨(hrp.lt x m).1, ltp x m⟩) (by simp; omega)
  have tw : allF (a :: (p ++ [t])) = false := by
    have : a :: (p ++ [t]) = u ++ [t, t] := by rw [← List.cons_append, hu]; simp
    rw [this]; exact allF_twice u t bt.1
  rw [tw] at is2
  have pc := e_parcels (m := .ow) (O := O1) (s := a) (sizes := p) hrp.dn ltp w0 (by omega) (by omega)
  -- the trees
  have at1 : atI ((a :: p).map T.int) (-1) = some (.int t) := by
    rw [atI_map, TL.atI_last (by simp)]
    rw [List.getLast?_eq_some_getLast (by simp)] at ht
    rw [Option.some.inj ht]; rfl
  have ct1 : cutT ((a :: p).map T.int) (some (-1)) none = [.int t] := by
    rw [cutT_last (by simp)]
    have : ((a :: p).map T.int).getLast? = some (.int t) := by rw [List.getLast?_map, ht]; rfl
    rw [List.getLast?_eq_some_getLast (by simp)] at this
    rw [Option.some.inj this]
  have fa : fAdd (.lst .ow ((a :: p).map T.int)) (.lst .ow [.int t]) = some (.lst .ow ((a :: (p ++ [t])).map T.int)) := by
    have : fAdd (.lst .ow ((a :: p).map T.int)) (.lst .ow [.int t]) = if ((a :: p).map T.int).length + ([T.int t]).length ≤ sizeLine ∧ noOws ((a :: p).map T.int) = true ∧ noOws [T.int t] = true then some (.lst .ow ((a :: p).map T.int ++ [.int t])) else none := rfl
    rw [this, if_pos ⟨by simp; omega, noOws_map_int _, rfl⟩]
    simp
  have tk : (a :: (p ++ q)).take (p.length + 2) = a :: (p ++ q.take 1) := by
    show a :: (p ++ q).take (p.length + 1) = _
    rw [List.take_append, List.take_of_length_le (by omega), show p.length + 1 - p.length = 1 by omega]
  have ct2 : cutT ((a :: l).map T.int) (some ((p.length + 1 : Nat) : Int)) (some (((p.length + 1 : Nat) : Int) + 1)) = (q.take 1).map T.int := by
    have h9 := cutT_mid ((a :: l).map T.int) (p.length + 1) (p.length + 2)
    have : (((p.length + 2 : Nat)) : Int) = ((p.length + 1 : Nat) : Int) + 1 := by omega
    rw [this] at h9
    rw [h9, e]
    have z : ((a :: (p ++ q)).map T.int).take (p.length + 2) = (a :: (p ++ q.take 1)).map T.int := by
      rw [← List.map_take, tk]
    rw [z, ← List.map_drop]
    simp
  have ct3 : cutT ((a :: l).map T.int) none (some (((p.length + 1 : Nat) : Int) + 1)) = (a :: (p ++ q.take 1)).map T.int := by
    have h9 := cutT_to ((a :: l).map T.int) (p.length + 2)
    have : (((p.length + 2 : Nat)) : Int) = ((p.length + 1 : Nat) : Int) + 1 := by omega
    rw [this] at h9
    rw [h9, e, ← List.map_take, tk]
  have app : (a :: p).map T.int ++ (q.take 1).map T.int = (a :: (p ++ q.take 1)).map T.int := by simp
  have ln1 : ((a :: p).map T.int).length + ((q.take 1).map T.int).length ≤ sizeLine := by simp; omega
  have at0 : atI ((a :: (p ++ q.take 1)).map T.int) 0 = some (.int a) := atI_zero _ _
  have od := okDiv_of (amt + a - 1) ha.1 (by omega)
  have sm2 : smallI a = true := decide_eq_true ⟨by omega, by omega⟩
  have sm40 : smallI 40 = true := by decide
  have nop := noOws_map_int (a :: p)
  have nol := noOws_map_int (a :: l)
  have non := noOws_map_int (a :: (p ++ q.take 1))
  have noq := noOws_map_int (q.take 1)
  have bp := brws_map_int (a :: p)
  have bn := brws_map_int (a :: (p ++ q.take 1))
  have fe := fNe_ints .ow .ow (a :: (p ++ q.take 1)) (a :: (p ++ q.take 1))
  rw [decide_eq_true rfl] at fe
  have lenl : ((a :: l).map T.int).length = l.length + 1 := by simp
  have br1 : T.brw (.lst .ow ((a :: p).map T.int)) = .lst .br ((a :: p).map T.int) := by rw [brw_lst, bp]; rfl
  obtain ⟨K, hK⟩ : ∃ K : Int, ((p.length + 1 : Nat) : Int) = K := ⟨_, rfl⟩
  rw [hK] at ct2 ct3 ⊢
  have we := whole_eq (a := amt) ha.1
  simp only [mbrw_ow, Bool.and_self, Bool.and_false] at is1 sr is2 pc
  have nbb := noBrs_map_int (par (a :: p).reverse (amt + -amt % a))
  obtain ⟨t2, ht2⟩ : ∃ t2, (a :: (p ++ q.take 1)).getLast? = some t2 := by
    cases q' : (a :: (p ++ q.take 1)).getLast? with
    | none => simp at q'
    | some t => exact ⟨t, rfl⟩
  have at2 : atI ((a :: (p ++ q.take 1)).map T.int) (-1) = some (.int t2) := by
    rw [atI_map, TL.atI_last (by simp)]
    rw [List.getLast?_eq_some_getLast (by simp)] at ht2
    rw [Option.some.inj ht2]; rfl
  have fb := fNe_ints .ow .ow (par (a :: p).reverse (amt + -amt % a)) (par (a :: p).reverse (amt + -amt % a))
  rw [decide_eq_true rfl] at fb
  -- what is asked of the longer list
  have cond : ¬ K < (l.length : Int) + 1 ∨ ¬ (amt + a - 1) / a * a < t2 ∨ (K < (l.length : Int) + 1 ∧ (amt + a - 1) / a * a < t2 ∧ d_parcels_of [.lst .br ((a :: (p ++ q.take 1)).map T.int), .int amt] O1 = some (.lst .ow ((par (a :: p).reverse (amt + -amt % a)).map T.int), O1)) := by
    by_cases c1 : K < (l.length : Int) + 1
    · by_cases c2 : (amt + a - 1) / a * a < t2
      · refine .inr (.inr ⟨c1, c2, ?_⟩)
        obtain ⟨x, q', rfl⟩ : ∃ x q', q = x :: q' := by
          cases q with
          | nil => rw [e, List.append_nil] at c1; omega
          | cons x q' => exact ⟨x, q', rfl⟩
        have e3 : (a :: (p ++ (x :: q').take 1)) = (a :: p) ++ [x] := by simp
        have hx : t2 = x := by rw [e3, List.getLast?_append] at ht2; exact (Option.some.inj ht2).symm
        have rv : (a :: (p ++ (x :: q').take 1)).reverse = x :: (a :: p).reverse := by rw [e3, List.reverse_append]; rfl
        have hp1 := (hrn.lt x (by simp)).1
        have W0 : 0 ≤ amt + -amt % a := by have := Int.emod_nonneg (-amt) (show a ≠ 0 by omega); omega
        have pr : par (a :: (p ++ (x :: q').take 1)).reverse (amt + -amt % a) = par (a :: p).reverse (amt + -amt % a) := by
          rw [rv]
          show List.replicate ((amt + -amt % a) / x).toNat x ++ par (a :: p).reverse ((amt + -amt % a) % x) = _
          rw [Int.ediv_eq_zero_of_lt W0 (by omega), Int.emod_eq_of_lt W0 (by omega)]
          rfl
        have := e_parcels (m := .ow) (O := O1) (s := a) (sizes := p ++ (x :: q').take 1) hrn.dn ltn w0 (by omega) (by rw [pr]; omega)
        rw [pr] at this
        exact this
      · exact .inr (.inl c2)
    · exact .inl c1
  refine ⟨some (.int amt), some (.lst .ow ((par (a :: p).reverse (amt + -amt % a)).map T.int)), some (.int ((amt + a - 1) / a * a)), O1, ?_, b1⟩
  generalize (a :: (p ++ q.take 1)).map T.int = NT at *
  generalize (a :: p).map T.int = PT at *
  generalize (a :: (p ++ [t])).map T.int = TT at *
  generalize (q.take 1).map T.int = QT at *
  generalize (a :: l).map T.int = RT at *
  generalize (par (a :: p).reverse (amt + -amt % a)).map T.int = BT at *
  generalize hWH : (amt + a - 1) / a * a = WH at *
  rcases cond with c | c | ⟨c1, c2, c3⟩
  · simp -implicitDefEqProofs [b_grow, ew, at1, is1, sr, is2, pc, ct1, fa, ct2, ct3, app, ln1, at0, od, sm2, sm40, nop, nol, non, noq, bp, bn, fe, lenl, c, at2, getL, putL, nbb, hWH]
  · simp -implicitDefEqProofs [b_grow, ew, at1, is1, sr, is2, pc, ct1, fa, ct2, ct3, app, ln1, at0, od, sm2, sm40, nop, nol, non, noq, bp, bn, fe, lenl, c, at2, getL, putL, nbb, hWH]
  · simp -implicitDefEqProofs [b_grow, ew, at1, is1, sr, is2, pc, ct1, fa, ct2, ct3, app, ln1, at0, od, sm2, sm40, nop, nol, non, noq, bp, bn, fe, lenl, c1, c2, c3, fb, at2, getL, putL, nbb, hWH]
theorem grow_loop {n : Nat} {a : Int} {l : List Int} (hr : RowL a l) (hl : l.length ≤ 4) : ∀ (q p : List Int) (k : Nat) (x3 x4 x5 x6 : Option T) (O : List Ob), l = p ++ q → Bx O n k → k + 4 * (q.length + 1) < 2 ^ 31 → ∃ (y3 y4 y5 y6 : Option T) (O' : List Ob), forGo (gNm 3) b_grow ((List.range' (p.length + 1) (q.length + 1)).map fun i : Nat => T.int (i : Int)) ([some (.hnd n), some (.lst .fz ((a :: l).map T.int)), some (.lst .ow ((a :: p).map T.int)), x3, x4, x5, x6], O)
    = some (.nx, ([some (.hnd n), some (.lst .fz ((a :: l).map T.int)), some (.lst .ow ((a :: l).map T.int)), y3, y4, y5, y6], O')) ∧ Bx O' n (k + 4 * (q.length + 1)) := by
  intro q
  induction q with
  | nil =>
    intro p k x3 x4 x5 x6 O e hb hk
    obtain ⟨y4, y5, y6, O', e1, b1⟩ := grow_step hr hl e hb (by omega) x3 x4 x5 x6
    refine ⟨some (.int ((p.length + 1 : Nat) : Int)), y4, y5, y6, O', ?_, b1⟩
    refine forGo_step (ts := []) e1 ?_
    have : p ++ ([] : List Int).take 1 = l := by rw [e]; simp
    rw [this]
    rfl
  | cons x q ih =>
    intro p k x3 x4 x5 x6 O e hb hk
    rw [List.length_cons] at hk
    obtain ⟨y4, y5, y6, O1, e1, b1⟩ := grow_step hr hl e hb (by omega) x3 x4 x5 x6
    have e2 : l = (p ++ [x]) ++ q := by rw [e]; simp
    obtain ⟨z3, z4, z5, z6, O', e3, b3⟩ := ih (p ++ [x]) (k + 4) (some (.int ((p.length + 1 : Nat) : Int))) y4 y5 y6 O1 e2 b1 (by omega)
    refine ⟨z3, z4, z5, z6, O', ?_, b3.mono (by simp only [List.length_cons]; omega)⟩
    rw [List.length_cons, List.range'_succ, List.map_cons]
    refine forGo_step e1 ?_
    have l1 : (p ++ [x]).length = p.length + 1 := by simp
    rw [l1] at e3
    exact e3
theorem par_zero : ∀ l : List Int, par l 0 = []
  | [] => rfl
  | s :: l => by
    show List.replicate ((0 : Int) / s).toNat s ++ par l (0 % s) = []
    rw [Int.zero_ediv, Int.zero_emod, par_zero l]; rfl
theorem fEq_ints_nil (m m' : Mk) (l : List Int) : fEq (.lst m (l.map T.int)) (.lst m' []) = some (.bl (decide (l = []))) := fEq_ints m m' l []
theorem e_grown {O : List Ob} {n k : Nat} {a : Int} {l : List Int} (hr : RowL a l) (hl : l.length ≤ 4) (hb : Bx O n k) (hk : k < 2 ^ 30) : ∃ O', d__law_grown_right [.hnd n, .lst .fz ((a :: l).map T.int)] O = some (.bl true, O') ∧ Bx O' n (k + 20) := by
  have ha := hr.lt a (by simp)
  have c5 : (100 : Int) * 12 ^ 4 < 2 ^ 40 := by decide
  have sl : 1000 ≤ sizeLine := by decide
  obtain ⟨y3, y4, y5, y6, O', e1, b1⟩ := grow_loop hr hl l [] k none none none none O rfl hb (by omega)
  refine ⟨O', ?_, b1.mono (by omega)⟩
  have rg : rangeT 1 1 (l.length + 1) = (List.range' 1 (l.length + 1)).map fun i : Nat => T.int (i : Int) := by
    unfold rangeT
    rw [List.range'_eq_map_range, List.map_map]
    refine List.map_congr_left fun i _ => ?_
    show T.int (1 + (i : Int) * 1) = T.int ((1 + i : Nat) : Int)
    congr 1
    omega
  have ct : cutT ((a :: l).map T.int) none (some 1) = [.int a] := cutT_to _ 1
  have fl : fList [.lst .ow [.int a]] = some (.lst .ow [.int a]) := rfl
  have nol := noOws_map_int (a :: l)
  have lenl : ((a :: l).map T.int).length = l.length + 1 := by simp
  have tn : ((l.length : Int) + 1 + 1 - 1).toNat = l.length + 1 := by omega
  have ok1 : okR 1 = true := by decide
  have ok2 : okR ((l.length : Int) + 1 + 1) = true := decide_eq_true ⟨by omega, by omega⟩
  obtain ⟨w, hw⟩ : ∃ w, (a :: l).getLast? = some w := by
    cases q' : (a :: l).getLast? with
    | none => simp at q'
    | some t => exact ⟨t, rfl⟩
  have lw : ((a :: l).map T.int).getLast? = some (.int w) := by rw [List.getLast?_map, hw]; rfl
  have dl : ((a :: l).map T.int).dropLast = ((a :: l).dropLast).map T.int := by rw [List.map_dropLast]
  have e1' : forGo (gNm 3) b_grow (rangeT 1 1 (l.length + 1)) ([some (.hnd n), some (.lst .fz ((a :: l).map T.int)), some (.lst .ow [.int a]), none, none, none, none], O) = some (.nx, ([some (.hnd n), some (.lst .fz ((a :: l).map T.int)), some (.lst .ow ((a :: l).map T.int)), y3, y4, y5, y6], O')) := by rw [rg]; exact e1
  have eb : d__law_grown_right = dFn 7 (sSeq (sAsg (dB fList (aCons (oTmp (d3 fSl (oAuto 1) pNone (pSome (dC (.int 1))))) aNil)) (gNm 2))
    (sSeq (sFor (iR2 (aCons (oTmp (dC (.int 1))) (aCons (oTmp (d2 fAdd (oTmp (dB fLen (aCons (oBorS 1) aNil))) (oTmp (dC (.int 1))))) aNil))) (gNm 3) b_grow)
    (sSeq (sDrop (dPopL 2))
    (sRet (dOrD (d2 fEq (oBorS 2) (oTmp (dLst aNil))) (dCall (d__law_same 4) (aCons (oTmp (dCall d_parcels_of (aCons (oBorS 2) (aCons (oTmp (d2 fIx (oAuto 2) (oTmp (d1 fNeg (oTmp (dC (.int 1))))))) aNil)))) (aCons (oTmp (d3 fSl (oAuto 2) (pSome (d1 fNeg (oTmp (dC (.int 1))))) pNone)) aNil)))))))) := rfl
  rw [eb]
  have z0 : (0 : Nat) ≤ sizeLine := Nat.zero_le _
  by_cases hq : l = []
  · have dn : ((a :: l).dropLast) = [] := by rw [hq]; rfl
    rw [dn] at dl
    generalize (a :: l).map T.int = RT at *
    have pop : dPopL 2 ([some (.hnd n), some (.lst .fz RT), some (.lst .ow RT), y3, y4, y5, y6], O') = some (.int w, ([some (.hnd n), some (.lst .fz RT), some (.lst .ow []), y3, y4, y5, y6], O')) := by
      rw [popL_ow rfl lw rfl, dl]; rfl
    have fe : fEq (.lst .ow []) (.lst .ow []) = some (.bl true) := fEq_ints_nil .ow .ow []
    simp -implicitDefEqProofs [dFn, ct, fl, nol, lenl, tn, ok1, ok2, e1', pop, -r_dPopL, z0, fe]
  · obtain ⟨x, r, hx⟩ : ∃ x r, l = x :: r := by
      cases l with
      | nil => exact absurd rfl hq
      | cons x r => exact ⟨x, r, rfl⟩
    have dn : ((a :: l).dropLast) = a :: l.dropLast := by rw [hx]; rfl
    rw [dn] at dl
    have ex : l = l.dropLast ++ [l.getLast hq] := (List.dropLast_concat_getLast hq).symm
    have hrd := hr.pre ex
    obtain ⟨t, ht⟩ : ∃ t, (a :: l.dropLast).getLast? = some t := by
      cases q' : (a :: l.dropLast).getLast? with
      | none => simp at q'
      | some t => exact ⟨t, rfl⟩
    have bt := hrd.lt t (List.mem_of_getLast? ht)
    have ltd : ∀ x ∈ a :: l.dropLast, x < 2 ^ 40 := fun x m => by have := hrd.lt x m; omega
    have dvd : a ∣ t := hrd.dn.dvd (by simp) t (List.mem_reverse.mpr (List.mem_of_getLast? ht))
    have mz : -t % a = 0 := Int.emod_eq_zero_of_dvd ((Int.dvd_neg).mpr dvd)
    obtain ⟨rr, hrr⟩ : ∃ rr, (a :: l.dropLast).reverse = t :: rr := by
      have : (a :: l.dropLast).reverse.head? = some t := by rw [List.head?_reverse]; exact ht
      cases q' : (a :: l.dropLast).reverse with
      | nil => rw [q'] at this; cases this
      | cons y rr => rw [q'] at this; cases this; exact ⟨rr, rfl⟩
    have pr : par (a :: l.dropLast).reverse (t + -t % a) = [t] := by
      rw [mz, Int.add_zero, hrr]
      show List.replicate (t / t).toNat t ++ par rr (t % t) = [t]
      rw [Int.ediv_self (by omega), Int.emod_self, par_zero]
      rfl
    have ep := e_parcels (m := .ow) (O := O') (s := a) (sizes := l.dropLast) (amt := t) hrd.dn ltd (by omega) (by omega) (by rw [pr]; exact Nat.le_trans (show 1 ≤ 1000 by omega) sl)
    rw [pr] at ep
    have ep : d_parcels_of [.lst .br ((a :: l.dropLast).map T.int), .int t] O' = some (.lst .ow [.int t], O') := ep
    have fe : fEq (.lst .ow ((a :: l.dropLast).map T.int)) (.lst .ow []) = some (.bl false) := fEq_ints_nil .ow .ow _
    have at1 : atI ((a :: l.dropLast).map T.int) (-1) = some (.int t) := by
      rw [atI_map, TL.atI_last (by simp)]
      rw [List.getLast?_eq_some_getLast (by simp)] at ht
      rw [Option.some.inj ht]; rfl
    have ct1 : cutT ((a :: l.dropLast).map T.int) (some (-1)) none = [.int t] := by
      rw [cutT_last (by simp)]
      have : ((a :: l.dropLast).map T.int).getLast? = some (.int t) := by rw [List.getLast?_map, ht]; rfl
      rw [List.getLast?_eq_some_getLast (by simp)] at this
      rw [Option.some.inj this]
    have es := e_same_ints 2 .ow .ow [t] O' (Nat.le_trans (show 1 ≤ 1000 by omega) sl)
    simp only [List.map_cons, List.map_nil] at es
    have nod := noOws_map_int (a :: l.dropLast)
    have bd := brws_map_int (a :: l.dropLast)
    generalize (a :: l).map T.int = RT at *
    generalize (a :: l.dropLast).map T.int = DT at *
    have pop : dPopL 2 ([some (.hnd n), some (.lst .fz RT), some (.lst .ow RT), y3, y4, y5, y6], O') = some (.int w, ([some (.hnd n), some (.lst .fz RT), some (.lst .ow DT), y3, y4, y5, y6], O')) := by
      rw [popL_ow rfl lw rfl, dl]; rfl
    simp -implicitDefEqProofs [dFn, ct, fl, nol, lenl, tn, ok1, ok2, e1', pop, -r_dPopL, z0, fe, at1, ct1, nod, bd, ep, es]
end Wk08

set_option Elab.async false
set_option linter.all false
set_option maxRecDepth 100000
set_option exponentiation.threshold 10000
namespace Wk08
open PySem PySem.Spec L2 TL
structure RowF (r : List Int) : Prop where
  ex : ∃ a l, r = a :: l ∧ RowL a l ∧ l.length ≤ 4
theorem RowR.full {l : List Int} (h : RowR l 5) : RowF l.reverse := by
  obtain ⟨a, r, e⟩ : ∃ a r, l.reverse = a :: r := by
    cases q : l.reverse with
    | nil => exact absurd (List.reverse_eq_nil_iff.mp q) h.ne
    | cons a r => exact ⟨a, r, rfl⟩
  have e2 : l = (a :: r).reverse := by rw [← e, List.reverse_reverse]
  have ln : r.length ≤ 4 := by
    have := h.len
    rw [e2] at this
    simp only [List.length_reverse, List.length_cons] at this
    omega
  refine ⟨a, r, e, ⟨by rw [← e2]; exact h.dn, h.bot a (by rw [e2]; simp), fun x m => ?_⟩, ln⟩
  have m : x ∈ l := by rw [e2]; exact List.mem_reverse.mpr m
  refine ⟨h.dn.pos x m, ?_⟩
  obtain ⟨t, q, e3⟩ : ∃ t q, l = t :: q := by
    cases q : l with
    | nil => exact absurd q h.ne
    | cons a r => exact ⟨a, r, rfl⟩
  have ht := h.top t (by rw [e3]; rfl)
  have hl : l.length - 1 ≤ 4 := by have := h.len; omega
  have hp : (100 : Int) * 12 ^ (l.length - 1) ≤ 100 * 12 ^ 4 := by
    have : (12 : Int) ^ (l.length - 1) ≤ 12 ^ 4 := by
      have := Nat.pow_le_pow_right (show 0 < 12 by omega) hl
      have e : ((12 ^ (l.length - 1) : Nat) : Int) ≤ ((12 ^ 4 : Nat) : Int) := by omega
      simpa using e
    omega
  have hx : x ≤ t := by
    rw [e3] at m
    rcases List.mem_cons.mp m with rfl | m
    · exact Int.le_refl _
    · exact Int.le_of_lt (Dn.lt (l := [t]) (r := q) (by have := h.dn; rw [e3] at this; exact this) t (by simp) x m)
  omega
def pz (r : List Int) (amt : Int) : List Int := par r.reverse (amt + -amt % r.headD 1)
def last (r : List Int) : Int := r.getLastD 0
theorem RowF.last_pos {r : List Int} (h : RowF r) : 0 < last r ∧ last r ≤ 100 * 12 ^ 4 ∧ atI (r.map T.int) (-1) = some (.int (last r)) := by
  obtain ⟨a, l, rfl, h1, h2⟩ := h.ex
  have e : (a :: l).getLast? = some (last (a :: l)) := by
    unfold last
    rw [List.getLastD_eq_getLast?, List.getLast?_eq_some_getLast (by simp)]
    rfl
  have := h1.lt _ (List.mem_of_getLast? e)
  refine ⟨this.1, this.2, ?_⟩
  rw [atI_map, TL.atI_last (by simp)]
  rw [List.getLast?_eq_some_getLast (by simp)] at e
  rw [Option.some.inj e]; rfl
theorem e_pz {r : List Int} {amt : Int} (h : RowF r) (h0 : 0 ≤ amt) (h1 : amt ≤ 40 * last r) : (pz r amt).length ≤ 1000 ∧ ∀ O, d_parcels_of [.lst .fz (r.map T.int), .int amt] O = some (.lst .ow ((pz r amt).map T.int), O) := by
  have hl := h.last_pos
  obtain ⟨a, l, rfl, h2, h3⟩ := h.ex
  have c5 : (100 : Int) * 12 ^ 4 < 2 ^ 40 := by decide
  have sl : 1000 ≤ sizeLine := by decide
  have b40 : ∀ x ∈ a :: l, x < 2 ^ 40 := fun x m => by have := h2.lt x m; omega
  have pl := par_len2 (amt := amt) h2 h3 h0 (fun t ht => by
    have : last (a :: l) = t := by
      unfold last
      rw [List.getLastD_eq_getLast?, ht]; rfl
    rw [← this]; exact h1)
  exact ⟨pl, fun O => e_parcels (m := .fz) (O := O) h2.dn b40 h0 (by omega) (by omega)⟩
/-! ### one box -/
def tp (p : Int × Int) : T := .tup [.int p.1, .int p.2]
theorem noOws_tp : ∀ l : List (Int × Int), noOws (l.map tp) = true
  | [] => rfl
  | _ :: l => noOws_tp l
theorem frzs_tp : ∀ l : List (Int × Int), frzs (l.map tp) = l.map tp
  | [] => rfl
  | p :: l => congrArg (tp p :: ·) (frzs_tp l)
section
variable {n : Nat} {r1 r2 : List Int}
def rw2 (r1 r2 : List Int) (w : Int) : List Int := if w = 0 then r1 else r2
def AskOk (r1 r2 : List Int) (p : Int × Int) : Prop := (p.1 = 0 ∨ p.1 = 1) ∧ 0 ≤ p.2 ∧ p.2 ≤ 40 * last (rw2 r1 r2 p.1)
theorem at_rows {m : Mk} {w : Int} (hw : w = 0 ∨ w = 1) : atI (rows m [r1, r2]) w = some (.lst m ((rw2 r1 r2 w).map T.int)) := by
  rcases hw with rfl | rfl
  · exact atI_zero _ _
  · exact atI_nat (j := 1) rfl (by simp [rows])
theorem RowF2 (h1 : RowF r1) (h2 : RowF r2) (w : Int) : RowF (rw2 r1 r2 w) := by
  unfold rw2; split <;> assumption
theorem asks_loop (h1 : RowF r1) (h2 : RowF r2) : ∀ (is : List Int) (acc : List T) (t : T) (O : List Ob) (k : Nat), (t = .lst .ow (rows .ow [r1, r2]) ∨ t = .lst .fz (rows .fz [r1, r2])) → acc.length + is.length ≤ 100 → Bx O n k → k + 4 * is.length < 2 ^ 31 → (∀ i ∈ is, 0 ≤ i) →
    ∃ (asks : List (Int × Int)) (t' : T) (O' : List Ob), lcGo [7] (gNm 7) tYesD (dTup (aCons (oTmp (d2 fMod (oBorS 7) (oTmp (dC (.int 2))))) (aCons (oTmp (dCall d__law_wide (aCons (oBorS 0) (aCons (oTmp (d2 fAdd (oTmp (d2 fMul (oTmp (dC (.int 40))) (oTmp (d2 fIx (oTmp (d2 fIx (oAuto 1) (oTmp (d2 fMod (oBorS 7) (oTmp (dC (.int 2))))))) (oTmp (d1 fNeg (oTmp (dC (.int 1))))))))) (oTmp (dC (.int 1))))) aNil)))) aNil)))
      (is.map T.int) acc ([some (.hnd n), some t, none, none, none, none, none, none, none, none, none], O) = some (acc ++ asks.map tp, ([some (.hnd n), some t', none, none, none, none, none, none, none, none, none], O'))
      ∧ asks.length = is.length ∧ (∀ p ∈ asks, AskOk r1 r2 p) ∧ Bx O' n (k + 4 * is.length) ∧ (t' = .lst .fz (rows .fz [r1, r2]) ∨ (is = [] ∧ t' = t)) := by
  intro is
  induction is with
  | nil => intro acc t O k ht _ hb _ _; exact ⟨[], t, O, by simp, rfl, fun _ m => absurd m (by simp), hb, .inr ⟨rfl, rfl⟩⟩
  | cons i is ih =>
    intro acc t O k ht hacc hb hk hi
    rw [List.length_cons] at hacc hk
    have i0 := hi i (by simp)
    have hw : i % 2 = 0 ∨ i % 2 = 1 := by omega
    have hR := RowF2 h1 h2 (i % 2)
    obtain ⟨l1, l2, l3⟩ := hR.last_pos
    have c5 : (100 : Int) * 12 ^ 4 < 2 ^ 40 := by decide
    obtain ⟨amt, O1, ew, w0, w1, b1⟩ := e_wide (m := 40 * last (rw2 r1 r2 (i % 2)) + 1) hb (by omega) (by omega)
    obtain ⟨asks, t', O', e2, g1, g2, g3, g4⟩ := ih (acc ++ [tp (i % 2, amt)]) (.lst .fz (rows .fz [r1, r2])) O1 (k + 4) (.inr rfl) (by simp; omega) b1 (by omega) (fun j m => hi j (List.mem_cons_of_mem _ m))
    refine ⟨(i % 2, amt) :: asks, t', O', ?_, by simp [g1], fun p m => ?_, g3.mono (by simp only [List.length_cons]; omega), ?_⟩
    · have sm40 : smallI 40 = true := by decide
      have sl : acc.length < sizeLine := Nat.lt_of_le_of_lt (show acc.length ≤ 100 by omega) (by decide)
      have s2 : 2 ≤ sizeLine := by decide
      have ar := at_rows (r1 := r1) (r2 := r2) (m := .fz) hw
      have nr := noOws_rowsF [r1, r2]
      have nro : noOws (rows .ow [r1, r2]) = false := rfl
      have fr := frzs_rows [r1, r2]
      have nrw := noOws_map_int (rw2 r1 r2 (i % 2))
      rw [List.map_cons, lcGo_cons]
      have e3 : acc ++ tp (i % 2, amt) :: asks.map tp = acc ++ [tp (i % 2, amt)] ++ asks.map tp := by simp
      rw [List.map_cons, e3]
      have e2' : lcGo [7] _ _ _ (is.map T.int) (acc ++ [T.tup [.int (i % 2), .int amt]]) ([some (.hnd n), some (.lst .fz (rows .fz [r1, r2])), none, none, none, none, none, none, none, none, none], O1) = some (acc ++ [tp (i % 2, amt)] ++ asks.map tp, ([some (.hnd n), some t', none, none, none, none, none, none, none, none, none], O')) := e2
      generalize rows .fz [r1, r2] = RF at *
      generalize rows .ow [r1, r2] = RO at *
      generalize (rw2 r1 r2 (i % 2)).map T.int = RW at *
      rcases ht with rfl | rfl
      · simp -implicitDefEqProofs [ew, sm40, sl, s2, ar, nr, nro, fr, nrw, l3, e2']
      · simp -implicitDefEqProofs [ew, sm40, sl, s2, ar, nr, nro, fr, nrw, l3, e2']
    · rcases List.mem_cons.mp m with rfl | m
      · exact ⟨hw, w0, by show amt ≤ 40 * last (rw2 r1 r2 (i % 2)); omega⟩
      · exact g2 p m
    · rcases g4 with g | ⟨_, g⟩
      · exact .inl g
      · exact .inl g
end
end Wk08

set_option Elab.async false
set_option linter.all false
set_option maxRecDepth 100000
set_option exponentiation.threshold 10000
namespace Wk08
open PySem PySem.Spec L2 TL
variable {n : Nat} {r1 r2 : List Int}
def Pp (r1 r2 : List Int) (p : Int × Int) : List Int := pz (rw2 r1 r2 p.1) p.2
theorem rows_len (m : Mk) (ls : List (List Int)) : (rows m ls).length = ls.length := by simp [rows]
theorem rows_at (m : Mk) (ls : List (List Int)) (i : Nat) : (rows m ls)[i]? = (ls[i]?).map fun l => T.lst m (l.map T.int) := by simp [rows]
theorem same_rows (ls : List (List Int)) (hl : ls.length ≤ 100) (hs : ∀ l ∈ ls, l.length ≤ 1000) (m : Mk) (O : List Ob) : d__law_same 4 [.lst .br (rows .br ls), .lst m (rows m ls)] O = some (.bl true, O) := by
  have sl : 1000 ≤ sizeLine := by decide
  have fr : ∀ (m : Mk) (ls : List (List Int)), frzs (rows m ls) = rows m.frz ls := by
    intro m ls
    induction ls with
    | nil => rfl
    | cons l ls ih => show T.lst m.frz (frzs (l.map T.int)) :: frzs (rows m ls) = _; rw [frzs_map_int, ih]; rfl
  refine e_same 4 _ _ O ?_
  rw [frz_lst, frz_lst, fr, fr]
  refine ⟨by rw [rows_len, rows_len], by rw [rows_len]; omega, fun i x y e1 e2 => ?_⟩
  rw [rows_at] at e1 e2
  cases q : ls[i]? with
  | none => rw [q] at e1; cases e1
  | some l =>
    rw [q] at e1 e2
    cases e1
    cases e2
    exact Sm_ints 1 _ _ l (by have := hs l (List.mem_of_getElem? q); omega)
def b_turn : DS := (sSeq (sAsg (d2 fIx (oAuto 2) (oBorS 5)) (gTp [(gNm 8), (gNm 9)]))
    (sSeq (sAsg (dCall d_parcels_of (aCons (oTmp (d2 fIx (oAuto 1) (oBorS 8))) (aCons (oBorS 9) aNil))) (gNm 6))
    (sSeq (sIf (tOrD (tNotD (tOf (dCall (d__law_same 4) (aCons (oBorS 6) (aCons (oTmp (d2 fIx (oAuto 4) (oBorS 5))) aNil))))) (tNotD (tOf (dCall (d__law_same 4) (aCons (oBorS 3) (aCons (oBorS 4) aNil)))))) (sRet (dC (.bl false))) sNil)
    (sDrop (dCall (d__law_marked 2) (aCons (oTmp (dHnd (dMov 6))) aNil))))))
theorem Bx.app {O : List Ob} {k : Nat} (h : Bx O n k) (x y : Ob) : Bx ((O ++ [x]).set O.length y) n k := by
  obtain ⟨a, b, c, h1, h2⟩ := h
  have hn : n < O.length := (List.getElem?_eq_some_iff.mp h1).1
  refine ⟨a, b, c, ?_, h2⟩
  rw [List.getElem?_set_ne (by omega), List.getElem?_append_left hn]
  exact h1
theorem turn_step (h1 : RowF r1) (h2 : RowF r2) {asks : List (Int × Int)} (hl : asks.length ≤ 100) (ha : ∀ p ∈ asks, AskOk r1 r2 p) {i : Nat} (hi : i < asks.length) {k : Nat} {O : List Ob} (hb : Bx O n k) (m : Mk) (hm : m = .ow ∨ m = .fz) (x5 x6 x7 x8 x9 x10 : Option T) :
    ∃ (y8 y9 : Option T) (O' : List Ob), (gNm 5 (.int (i : Int)) ([some (.hnd n), some (.lst .fz (rows .fz [r1, r2])), some (.lst .fz (asks.map tp)), some (.lst .ow (rows .ow (asks.map (Pp r1 r2)))), some (.lst m (rows m (asks.map (Pp r1 r2)))), x5, x6, x7, x8, x9, x10], O)).bind b_turn
      = some (.nx, ([some (.hnd n), some (.lst .fz (rows .fz [r1, r2])), some (.lst .fz (asks.map tp)), some (.lst .ow (rows .ow (asks.map (Pp r1 r2)))), some (.lst .fz (rows .fz (asks.map (Pp r1 r2)))), some (.int (i : Int)), none, x7, y8, y9, x10], O')) ∧ Bx O' n k := by
  have sl : 1000 < sizeLine := by decide
  obtain ⟨p, hp⟩ : ∃ p, asks[i]? = some p := ⟨asks[i], List.getElem?_eq_getElem hi⟩
  have mp := List.mem_of_getElem? hp
  obtain ⟨a1, a2, a3⟩ := ha p mp
  have pl : ∀ l ∈ asks.map (Pp r1 r2), l.length ≤ 1000 := fun l ml => by
    obtain ⟨q, mq, rfl⟩ := List.mem_map.mp ml
    obtain ⟨c1, c2, c3⟩ := ha q mq
    exact (e_pz (RowF2 h1 h2 q.1) c2 c3).1
  obtain ⟨pl1, ep⟩ := e_pz (RowF2 h1 h2 p.1) a2 a3
  have at2 : atI (asks.map tp) (i : Int) = some (.tup [.int p.1, .int p.2]) := by
    rw [atI_map, atI_nat rfl hi, hp]; rfl
  have at1 := at_rows (r1 := r1) (r2 := r2) (m := .fz) a1
  have at4 : ∀ m : Mk, atI (rows m (asks.map (Pp r1 r2))) (i : Int) = some (.lst m ((Pp r1 r2 p).map T.int)) := fun m => by
    have hi2 : i < (rows m (asks.map (Pp r1 r2))).length := by rw [rows_len, List.length_map]; exact hi
    rw [atI_nat rfl hi2, rows_at, List.getElem?_map, hp]; rfl
  have s1 := e_same_ints 2 .br .fz (Pp r1 r2 p) O (by show (pz _ _).length ≤ sizeLine; omega)
  have s2 := same_rows (asks.map (Pp r1 r2)) (by rw [List.length_map]; omega) pl .fz O
  have at4' := at4 .fz
  have nt := noOws_tp asks
  have nf := noOws_rowsF [r1, r2]
  have nk := noOws_rowsF (asks.map (Pp r1 r2))
  have nko : asks ≠ [] := fun e => by rw [e] at hi; exact absurd hi (by simp)
  have nkw : noOws (rows .ow (asks.map (Pp r1 r2))) = false := by
    cases asks with
    | nil => exact absurd rfl nko
    | cons q qs => rfl
  have fk := frzs_rows (asks.map (Pp r1 r2))
  have bk := brws_rows (asks.map (Pp r1 r2))
  have bkf := brws_rowsF (asks.map (Pp r1 r2))
  have nrw := noOws_map_int (rw2 r1 r2 p.1)
  have brw' := brws_map_int (rw2 r1 r2 p.1)
  have nP := noOws_map_int (Pp r1 r2 p)
  have nbP := noBrs_map_int (Pp r1 r2 p)
  have bP := brws_map_int (Pp r1 r2 p)
  have hOl : (O ++ [Ob.lst ((Pp r1 r2 p).map T.int)])[O.length]? = some (.lst ((Pp r1 r2 p).map T.int)) := by
    rw [List.getElem?_append_right (Nat.le_refl _), Nat.sub_self]; rfl
  have mk := e_marked (n := 0) hOl (by show (pz _ _).length < sizeLine; omega)
  have ep' := ep O
  have ep' : d_parcels_of [.lst .fz ((rw2 r1 r2 p.1).map T.int), .int p.2] O = some (.lst .ow ((Pp r1 r2 p).map T.int), O) := ep'
  refine ⟨some (.int p.1), some (.int p.2), (O ++ [Ob.lst ((Pp r1 r2 p).map T.int)]).set O.length (.lst ((Pp r1 r2 p).map T.int ++ [.str "a mark"])), ?_, hb.app _ _⟩
  simp only [Nat.zero_add] at mk
  rcases hm with rfl | rfl
  ·
    generalize rows .ow (asks.map (Pp r1 r2)) = KO at *
    generalize rows .fz (asks.map (Pp r1 r2)) = KF at *
    generalize rows .br (asks.map (Pp r1 r2)) = KB at *
    generalize asks.map tp = AT at *
    generalize rows .fz [r1, r2] = RF at *
    generalize (rw2 r1 r2 p.1).map T.int = RW at *
    generalize (Pp r1 r2 p).map T.int = PT at *
    simp -implicitDefEqProofs [b_turn, at2, at1, at4', s1, s2, nt, nf, nk, nkw, fk, bk, bkf, nrw, brw', nP, nbP, bP, mk, ep']
  ·
    generalize rows .ow (asks.map (Pp r1 r2)) = KO at *
    generalize rows .fz (asks.map (Pp r1 r2)) = KF at *
    generalize rows .br (asks.map (Pp r1 r2)) = KB at *
    generalize asks.map tp = AT at *
    generalize rows .fz [r1, r2] = RF at *
    generalize (rw2 r1 r2 p.1).map T.int = RW at *
    generalize (Pp r1 r2 p).map T.int = PT at *
    simp -implicitDefEqProofs [b_turn, at2, at1, at4', s1, s2, nt, nf, nk, nkw, fk, bk, bkf, nrw, brw', nP, nbP, bP, mk, ep']

theorem turn_loop (h1 : RowF r1) (h2 : RowF r2) {asks : List (Int × Int)} (hl : asks.length ≤ 100) (ha : ∀ p ∈ asks, AskOk r1 r2 p) {k : Nat} : ∀ (is : List Nat) (O : List Ob) (m : Mk) (x5 x6 x7 x8 x9 x10 : Option T), (∀ i ∈ is, i < asks.length) → Bx O n k → (m = .ow ∨ m = .fz) →
    ∃ (m' : Mk) (y5 y6 y8 y9 : Option T) (O' : List Ob), forGo (gNm 5) b_turn (is.map fun i : Nat => T.int (i : Int)) ([some (.hnd n), some (.lst .fz (rows .fz [r1, r2])), some (.lst .fz (asks.map tp)), some (.lst .ow (rows .ow (asks.map (Pp r1 r2)))), some (.lst m (rows m (asks.map (Pp r1 r2)))), x5, x6, x7, x8, x9, x10], O)
      = some (.nx, ([some (.hnd n), some (.lst .fz (rows .fz [r1, r2])), some (.lst .fz (asks.map tp)), some (.lst .ow (rows .ow (asks.map (Pp r1 r2)))), some (.lst m' (rows m' (asks.map (Pp r1 r2)))), y5, y6, x7, y8, y9, x10], O')) ∧ Bx O' n k := by
  intro is
  induction is with
  | nil => intro O m x5 x6 x7 x8 x9 x10 _ hb _; exact ⟨m, x5, x6, x8, x9, O, rfl, hb⟩
  | cons i is ih =>
    intro O m x5 x6 x7 x8 x9 x10 hi hb hm
    obtain ⟨y8, y9, O1, e1, b1⟩ := turn_step h1 h2 hl ha (hi i (by simp)) hb m hm x5 x6 x7 x8 x9 x10
    obtain ⟨m', z5, z6, z8, z9, O', e2, b2⟩ := ih O1 .fz (some (.int (i : Int))) none x7 y8 y9 x10 (fun j mj => hi j (List.mem_cons_of_mem _ mj)) b1 (.inr rfl)
    exact ⟨m', z5, z6, z8, z9, O', forGo_step e1 e2, b2⟩
theorem grown_loop : ∀ (rs : List (List Int)) (acc : List T) (O : List Ob) (k : Nat) (t1 : T) (x2 x3 x4 x5 x6 x7 x8 x9 : Option T), (∀ r ∈ rs, RowF r) → acc.length + rs.length ≤ 100 → Bx O n k → k + 20 * rs.length < 2 ^ 30 →
    ∃ O', lcGo [10] (gNm 10) tYesD (dCall d__law_grown_right (aCons (oBorS 0) (aCons (oBorS 10) aNil))) (rows .fz rs) acc ([some (.hnd n), some t1, x2, x3, x4, x5, x6, x7, x8, x9, none], O) = some (acc ++ rs.map (fun _ => T.bl true), ([some (.hnd n), some t1, x2, x3, x4, x5, x6, x7, x8, x9, none], O')) := by
  intro rs
  induction rs with
  | nil => intro acc O k t1 x2 x3 x4 x5 x6 x7 x8 x9 _ _ _ _; exact ⟨O, by simp [rows]⟩
  | cons r rs ih =>
    intro acc O k t1 x2 x3 x4 x5 x6 x7 x8 x9 hr hl hb hk
    rw [List.length_cons] at hl hk
    obtain ⟨a, l, rfl, h2, h3⟩ := (hr r (by simp)).ex
    obtain ⟨O1, e1, b1⟩ := e_grown h2 h3 hb (by omega)
    obtain ⟨O', e2⟩ := ih (acc ++ [.bl true]) O1 (k + 20) t1 x2 x3 x4 x5 x6 x7 x8 x9 (fun r m => hr r (List.mem_cons_of_mem _ m)) (by simp; omega) b1 (by omega)
    refine ⟨O', ?_⟩
    have e3 : rows .fz ((a :: l) :: rs) = .lst .fz ((a :: l).map T.int) :: rows .fz rs := rfl
    rw [e3, lcGo_cons]
    have bl := brws_map_int (a :: l)
    have sl : acc.length < sizeLine := Nat.lt_of_le_of_lt (show acc.length ≤ 100 by omega) (by decide)
    generalize (a :: l).map T.int = RT at *
    simp -implicitDefEqProofs [bl, e1, sl, e2]
theorem e_right {O : List Ob} {k : Nat} (hb : Bx O n k) (hk : k < 2 ^ 20) : ∃ O', d__law_right [.hnd n] O = some (.bl true, O') := by
  obtain ⟨l1, O1, e1, q1, b1⟩ := e_sizes hb (by omega)
  obtain ⟨l2, O2, e2, q2, b2⟩ := e_sizes b1 (by omega)
  have h1 := q1.full
  have h2 := q2.full
  have s2 : 2 ≤ sizeLine := by decide
  obtain ⟨asks, t', O3, e3, g1, g2, b3, g4⟩ := asks_loop h1 h2 [0, 1, 2, 3, 4, 5] [] (.lst .ow (rows .ow [l1.reverse, l2.reverse])) O2 (k + 11 + 11) (.inl rfl) (by simp) b2 (by simp; omega) (fun i m => by simp at m; omega)
  have t'e : t' = .lst .fz (rows .fz [l1.reverse, l2.reverse]) := by
    rcases g4 with g | ⟨g, _⟩
    · exact g
    · cases g
  subst t'e
  have rg : rangeT 0 1 6 = ([0, 1, 2, 3, 4, 5] : List Int).map T.int := rfl
  have al : asks.length = 6 := g1
  have nf := noOws_rowsF [l1.reverse, l2.reverse]
  have lc := lcGo_all (own := [8, 9]) (g := gTp [(gNm 8), (gNm 9)]) (te := dCall d_parcels_of (aCons (oTmp (d2 fIx (oAuto 1) (oBorS 8))) (aCons (oBorS 9) aNil))) (S := ([some (.hnd n), some (.lst .fz (rows .fz [l1.reverse, l2.reverse])), some (.lst .fz (asks.map tp)), none, none, none, none, none, none, none, none], O3)) (fun p => T.lst .ow ((Pp l1.reverse l2.reverse p).map T.int)) tp (ts := asks) (fun p m => by
    refine ⟨([some (.hnd n), some (.lst .fz (rows .fz [l1.reverse, l2.reverse])), some (.lst .fz (asks.map tp)), none, none, none, none, none, some (.int p.1), some (.int p.2), none], O3), ([some (.hnd n), some (.lst .fz (rows .fz [l1.reverse, l2.reverse])), some (.lst .fz (asks.map tp)), none, none, none, none, none, some (.int p.1), some (.int p.2), none], O3), by simp [tp], ?_, by simp⟩
    obtain ⟨a1, a2, a3⟩ := g2 p m
    obtain ⟨pl1, ep⟩ := e_pz (RowF2 h1 h2 p.1) a2 a3
    have at1 := at_rows (r1 := l1.reverse) (r2 := l2.reverse) (m := .fz) a1
    have nrw := noOws_map_int (rw2 l1.reverse l2.reverse p.1)
    have nbp := noBrs_map_int (Pp l1.reverse l2.reverse p)
    have ep' : d_parcels_of [.lst .fz ((rw2 l1.reverse l2.reverse p.1).map T.int), .int p.2] O3 = some (.lst .ow ((Pp l1.reverse l2.reverse p).map T.int), O3) := ep O3
    generalize rows .fz [l1.reverse, l2.reverse] = RF at *
    generalize (rw2 l1.reverse l2.reverse p.1).map T.int = RW at *
    generalize (Pp l1.reverse l2.reverse p).map T.int = PT at *
    simp -implicitDefEqProofs [at1, nf, nrw, nbp, ep']) (by rw [al]; exact Nat.le_trans (show 6 ≤ 100 by omega) (by decide))
  have lc : lcGo [8, 9] (gTp [(gNm 8), (gNm 9)]) tYesD (dCall d_parcels_of (aCons (oTmp (d2 fIx (oAuto 1) (oBorS 8))) (aCons (oBorS 9) aNil))) (asks.map tp) [] ([some (.hnd n), some (.lst .fz (rows .fz [l1.reverse, l2.reverse])), some (.lst .fz (asks.map tp)), none, none, none, none, none, none, none, none], O3) = some (rows .ow (asks.map (Pp l1.reverse l2.reverse)), ([some (.hnd n), some (.lst .fz (rows .fz [l1.reverse, l2.reverse])), some (.lst .fz (asks.map tp)), none, none, none, none, none, none, none, none], O3)) := by
    rw [lc]; simp [rows]
  have pl : ∀ l ∈ asks.map (Pp l1.reverse l2.reverse), l.length ≤ 1000 := fun l ml => by
    obtain ⟨q, mq, rfl⟩ := List.mem_map.mp ml
    obtain ⟨c1, c2, c3⟩ := g2 q mq
    exact (e_pz (RowF2 h1 h2 q.1) c2 c3).1
  have sl : 1000 ≤ sizeLine := by decide
  have cp := e_copied 1 (asks.map (Pp l1.reverse l2.reverse)) O3 (by rw [List.length_map, al]; omega) (fun l m => by have := pl l m; omega)
  obtain ⟨m', y5, y6, y8, y9, O4, e4, b4⟩ := turn_loop h1 h2 (by omega) g2 [5, 4, 3, 2, 1, 0] O3 .ow none none none none none none (fun i m => by simp at m; omega) b3 (.inl rfl)
  have rg3 : rangeT 5 (-1) 6 = ([5, 4, 3, 2, 1, 0] : List Nat).map fun i : Nat => T.int (i : Int) := rfl
  obtain ⟨O5, e5⟩ := grown_loop [l1.reverse, l2.reverse] [] O4 _ (.lst .fz (rows .fz [l1.reverse, l2.reverse])) (some (.lst .fz (asks.map tp))) (some (.lst .ow (rows .ow (asks.map (Pp l1.reverse l2.reverse))))) (some (.lst m' (rows m' (asks.map (Pp l1.reverse l2.reverse))))) y5 y6 none y8 y9 (fun r m => by
    simp at m
    rcases m with rfl | rfl
    · exact h1
    · exact h2) (by simp) b4 (by simp; omega)
  refine ⟨O5, ?_⟩
  have eb : d__law_right = dFn 11 ((sSeq (sAsg (dLst (aCons (oTmp (dCall d__law_sizes (aCons (oBorS 0) aNil))) (aCons (oTmp (dCall d__law_sizes (aCons (oBorS 0) aNil))) aNil))) (gNm 1))
    (sSeq (sAsg (dLc [7] (iR1 (aCons (oTmp (dC (.int 6))) aNil)) (gNm 7) tYesD (dTup (aCons (oTmp (d2 fMod (oBorS 7) (oTmp (dC (.int 2))))) (aCons (oTmp (dCall d__law_wide (aCons (oBorS 0) (aCons (oTmp (d2 fAdd (oTmp (d2 fMul (oTmp (dC (.int 40))) (oTmp (d2 fIx (oTmp (d2 fIx (oAuto 1) (oTmp (d2 fMod (oBorS 7) (oTmp (dC (.int 2))))))) (oTmp (d1 fNeg (oTmp (dC (.int 1))))))))) (oTmp (dC (.int 1))))) aNil)))) aNil)))) (gNm 2))
    (sSeq (sAsg (dLc [8, 9] (iSeq (dUse 2)) (gTp [(gNm 8), (gNm 9)]) tYesD (dCall d_parcels_of (aCons (oTmp (d2 fIx (oAuto 1) (oBorS 8))) (aCons (oBorS 9) aNil)))) (gNm 3))
    (sSeq (sAsg (dCall (d__law_copied 4) (aCons (oBorS 3) aNil)) (gNm 4))
    (sSeq (sFor (iR3 (aCons (oTmp (dC (.int 5))) (aCons (oTmp (d1 fNeg (oTmp (dC (.int 1))))) (aCons (oTmp (d1 fNeg (oTmp (dC (.int 1))))) aNil)))) (gNm 5) b_turn)
    (sRet (dB fAll (aCons (oTmp (dLc [10] (iSeq (dUse 1)) (gNm 10) tYesD (dCall d__law_grown_right (aCons (oBorS 0) (aCons (oBorS 10) aNil))))) aNil))))))))) := rfl
  rw [eb]
  have ok6 : okR 6 = true := by decide
  have ok5 : okR 5 = true := by decide
  have okm : okR (-1) = true := by decide
  have r1e : rows .ow [l1.reverse, l2.reverse] = [.lst .ow (l1.reverse.map T.int), .lst .ow (l2.reverse.map T.int)] := rfl
  have nbk := noBrs_rows (asks.map (Pp l1.reverse l2.reverse))
  have bk := brws_rows (asks.map (Pp l1.reverse l2.reverse))
  have nt := noOws_tp asks
  have ft := frzs_tp asks
  have fin : fAll [.lst .ow [.bl true, .bl true]] = some (.bl true) := rfl
  have nb1 := noBrs_map_int l1.reverse
  have nb2 := noBrs_map_int l2.reverse
  have nta : T.noOw (.lst .ow (asks.map tp)) = false := rfl
  rw [← rg] at e3
  rw [← rg3] at e4
  rw [r1e] at e3
  simp only [List.nil_append] at e3 e5
  generalize rows .ow (asks.map (Pp l1.reverse l2.reverse)) = KO at *
  generalize rows .br (asks.map (Pp l1.reverse l2.reverse)) = KB at *
  generalize rows m' (asks.map (Pp l1.reverse l2.reverse)) = KM at *
  generalize rows .fz [l1.reverse, l2.reverse] = RF at *
  generalize asks.map tp = AT at *
  generalize l1.reverse.map T.int = L1 at *
  generalize l2.reverse.map T.int = L2 at *
  simp -implicitDefEqProofs [dFn, e1, e2, s2, nb1, nb2, ok6, e3, nt, ft, lc, nbk, bk, cp, ok5, okm, e4, nf, e5, fin]
end Wk08

set_option Elab.async false
set_option linter.all false
set_option maxRecDepth 100000
set_option exponentiation.threshold 10000
namespace Wk08
open PySem PySem.Spec L2 TL
/-! ### the script -/
theorem e_folded {ns : List Int} {O : List Ob} : ∃ cells : List Int, d__law_folded [.lst .sc (ns.map T.int), .int 6] O = some (.lst .ow (cells.map T.int), O) ∧ cells.length ≤ 6 := by
  have loop : ∀ (xs : List Int) (j : Nat) (cells : List Int) (x3 x4 : Option T), cells.length = 6 → j + xs.length ≤ 100 → ∃ (c' : List Int) (y3 y4 : Option T), c'.length = 6 ∧ forGo (gTp [(gNm 3), (gNm 4)]) (sAsg (d2 fAdd (oTmp (d2 fIx (oAuto 2) (oTmp (d2 fMod (oBorS 3) (oBorS 1))))) (oTmp (d2 fMul (oBorS 4) (oTmp (d2 fAdd (oBorS 3) (oTmp (dC (.int 2)))))))) (gIx 2 (d2 fMod (oBorS 3) (oBorS 1))))
      (enumT j (xs.map T.int)) ([some (.lst .sc (ns.map T.int)), some (.int 6), some (.lst .ow (cells.map T.int)), x3, x4], O) = some (.nx, ([some (.lst .sc (ns.map T.int)), some (.int 6), some (.lst .ow (c'.map T.int)), y3, y4], O)) := by
    intro xs
    induction xs with
    | nil => intro j cells x3 x4 h _; exact ⟨cells, x3, x4, h, rfl⟩
    | cons x xs ih =>
      intro j cells x3 x4 h hj
      rw [List.length_cons] at hj
      obtain ⟨w, hw⟩ : ∃ w, cells[j % 6]? = some w := ⟨cells[j % 6]'(by omega), List.getElem?_eq_getElem (by omega)⟩
      obtain ⟨c', y3, y4, h1, e1⟩ := ih (j + 1) (cells.set (j % 6) (w + x * ((j : Int) + 2))) (some (.int (j : Int))) (some (.int x)) (by rw [List.length_set]; exact h) (by omega)
      refine ⟨c', y3, y4, h1, ?_⟩
      refine forGo_step (t := .tup [.int (j : Int), .int x]) ?_ e1
      have at1 : atI (cells.map T.int) ((j : Int) % 6) = some (.int w) := by
        rw [atI_map, atI_nat (j := j % 6) (by omega) (by omega), hw]; rfl
      have ixn : ixN (cells.map T.int).length ((j : Int) % 6) = some (j % 6) := by
        unfold ixN
        rw [List.length_map, h, if_pos (by omega), if_pos (by omega)]
        congr 1
      have sm : smallI ((j : Int) + 2) = true := decide_eq_true ⟨by omega, by omega⟩
      have no := noOws_map_int cells
      rw [List.map_set]
      generalize cells.map T.int = CT at *
      generalize ns.map T.int = NT at *
      simp -implicitDefEqProofs [no, at1, ixn, sm, getL, putL]
  have no := noOws_map_int ns
  have ct1 : cutT (ns.map T.int) none (some 6) = (ns.take 6).map T.int := by rw [List.map_take]; exact cutT_to _ 6
  have ct2 : cutT (ns.map T.int) (some 6) (some 63) = ((ns.take 63).drop 6).map T.int := by rw [List.map_drop, List.map_take]; exact cutT_mid _ 6 63
  have fl : fList [.lst .ow ((ns.take 6).map T.int)] = some (.lst .ow ((ns.take 6).map T.int)) := by
    show (if noOws ((ns.take 6).map T.int) = true then some (T.lst .ow ((ns.take 6).map T.int)) else none) = _
    rw [noOws_map_int]; rfl
  have nd := noOws_map_int ((ns.take 63).drop 6)
  by_cases hn : ns.length ≤ 6
  · refine ⟨ns.take 6, ?_, by rw [List.length_take]; omega⟩
    have d0 : (ns.take 63).drop 6 = [] := List.drop_of_length_le (by rw [List.length_take]; omega)
    rw [d0] at ct2 nd
    have nb := noBrs_map_int (ns.take 6)
    generalize ns.map T.int = NT at *
    generalize (ns.take 6).map T.int = CT at *
    simp only [List.map_nil] at ct2
    have en : enumT 0 [] = [] := rfl
    simp -implicitDefEqProofs [d__law_folded, dFn, b__law_folded, no, ct1, ct2, fl, nb, en]
  · obtain ⟨c', y3, y4, h1, e1⟩ := loop ((ns.take 63).drop 6) 0 (ns.take 6) none none (by rw [List.length_take]; omega) (by simp; omega)
    refine ⟨c', ?_, by omega⟩
    have nb := noBrs_map_int c'
    generalize ns.map T.int = NT at *
    generalize (ns.take 6).map T.int = CT at *
    generalize ((ns.take 63).drop 6).map T.int = DT at *
    generalize c'.map T.int = C' at *
    simp -implicitDefEqProofs [d__law_folded, dFn, b__law_folded, no, ct1, ct2, fl, nb, nd, e1]
theorem e_box {cells : List Int} {i : Int} {O : List Ob} (h0 : 0 ≤ i) (h1 : i ≤ 6) : ∃ a b : Int, d__law_box [.lst .br (cells.map T.int), .int i] O = some (.lst .ow [.int a, .int b, .int 0], O) ∧ 0 ≤ a ∧ 0 ≤ b ∧ b < 2 ^ 60 := by
  have sm48 : smallI 48271 = true := by decide
  have sm15 : smallI 15485863 = true := by decide
  have s3 : 3 ≤ sizeLine := by decide
  have no := noOws_map_int cells
  have fab : ∀ c : Int, fAbs [.int c] = some (.int c.natAbs) := fun _ => rfl
  have fib : ∀ b : Bool, fInt [.bl b] = some (.int (if b = true then 1 else 0)) := fun _ => rfl
  have smb : ∀ b : Bool, smallI (if b = true then 1 else 0) = true := fun b => by cases b <;> decide
  have smb2 : ∀ y : Int, smallI (if (1000000000000000000 : Int) ≤ y then 1 else 0) = true := fun y => by split <;> decide
  have sm0 : smallI 0 = true := by decide
  have core : ∀ c : Int, 0 ≤ ((c.natAbs : Nat) : Int) * (if decide ((10 : Int) ^ 18 ≤ ((c.natAbs : Nat) : Int)) = true then 1 else 0) ∧ 0 ≤ c % 2147483629 * 48271 + 15485863 * i + 37 ∧ c % 2147483629 * 48271 + 15485863 * i + 37 < 2 ^ 60 := fun c => by
    refine ⟨Int.mul_nonneg (by omega) (by split <;> omega), by omega, by omega⟩
  have pw : (10 : Int) ^ 18 = 1000000000000000000 := by decide
  by_cases hi : i < (cells.length : Int)
  · obtain ⟨c, hc⟩ : ∃ c, atI cells i = some c := by
      rw [atI_nat (j := i.toNat) (by omega) (by omega)]
      exact ⟨cells[i.toNat]'(by omega), List.getElem?_eq_getElem (by omega)⟩
    obtain ⟨g1, g2, g3⟩ := core c
    refine ⟨_, _, ?_, g1, g2, g3⟩
    have at1 : atI (cells.map T.int) i = some (.int c) := by rw [atI_map, hc]; rfl
    have ln : ((cells.map T.int).length : Int) = cells.length := by simp
    generalize cells.map T.int = CT at *
    simp -implicitDefEqProofs [d__law_box, dFn, b__law_box, ln, hi, no, at1, sm48, sm15, s3, fab, fib, smb, smb2, sm0]
  · obtain ⟨g1, g2, g3⟩ := core 0
    refine ⟨_, _, ?_, g1, g2, g3⟩
    have ln : ((cells.map T.int).length : Int) = cells.length := by simp
    generalize cells.map T.int = CT at *
    simp -implicitDefEqProofs [d__law_box, dFn, b__law_box, ln, hi, no, sm48, sm15, s3, fab, fib, smb, smb2, sm0]
theorem law_loop {cells : List Int} (t0 : T) : ∀ (is : List Int) (acc : List T) (O : List Ob), (∀ i ∈ is, 0 ≤ i ∧ i ≤ 6) → acc.length + is.length ≤ 100 → ∃ O', lcGo [2] (gNm 2) tYesD (dCall d__law_right (aCons (oTmp (dHnd (dCall d__law_box (aCons (oBorS 1) (aCons (oBorS 2) aNil))))) aNil)) (is.map T.int) acc ([some t0, some (.lst .ow (cells.map T.int)), none], O) = some (acc ++ is.map (fun _ => T.bl true), ([some t0, some (.lst .ow (cells.map T.int)), none], O')) := by
  intro is
  induction is with
  | nil => intro acc O _ _; exact ⟨O, by simp⟩
  | cons i is ih =>
    intro acc O hi hl
    rw [List.length_cons] at hl
    have h0 := hi i (by simp)
    obtain ⟨a, b, e1, g1, g2, g3⟩ := e_box (cells := cells) (O := O) h0.1 h0.2
    have bx : Bx (O ++ [.lst [.int a, .int b, .int 0]]) O.length 0 := ⟨a, b, 0, by rw [List.getElem?_append_right (Nat.le_refl _), Nat.sub_self]; rfl, g1, g2, g3, by omega, by omega⟩
    obtain ⟨O1, e2⟩ := e_right bx (by omega)
    obtain ⟨O', e3⟩ := ih (acc ++ [.bl true]) O1 (fun j m => hi j (List.mem_cons_of_mem _ m)) (by simp; omega)
    refine ⟨O', ?_⟩
    have sl : acc.length < sizeLine := Nat.lt_of_le_of_lt (show acc.length ≤ 100 by omega) (by decide)
    have bl := brws_map_int cells
    rw [List.map_cons, lcGo_cons]
    generalize cells.map T.int = CT at *
    simp -implicitDefEqProofs [bl, e1, e2, sl, e3]
theorem law_true (ns : List Int) (h : ns.length ≤ 63) : ∃ O, d_law [.lst .sc (ns.map T.int)] [] = some (.bl true, O) := by
  obtain ⟨cells, e1, hl⟩ := e_folded (ns := ns) (O := [])
  let m : Int := max 1 (cells.length : Int)
  have hm : m = max 1 (cells.length : Int) := rfl
  have m0 : 0 ≤ m ∧ m ≤ 6 := by rw [hm]; omega
  have ri : rangeT 0 1 m.toNat = ((List.range m.toNat).map fun i : Nat => (i : Int)).map T.int := by
    unfold rangeT
    rw [List.map_map]
    refine List.map_congr_left fun i _ => ?_
    show T.int (0 + (i : Int) * 1) = T.int (i : Int)
    congr 1
    omega
  obtain ⟨O', e2⟩ := law_loop (cells := cells) (.lst .sc (ns.map T.int)) ((List.range m.toNat).map fun i : Nat => (i : Int)) [] [] (fun i mi => by
    obtain ⟨j, mj, rfl⟩ := List.mem_map.mp mi
    have := List.mem_range.mp mj
    omega) (by simp; omega)
  refine ⟨O', ?_⟩
  rw [← ri] at e2
  have okm : okR m = true := decide_eq_true ⟨by omega, by omega⟩
  have fm : fMax [.int 1, .int (cells.length : Int)] = some (.int m) := rfl
  have fin := all_true ((List.range m.toNat).map fun i : Nat => (i : Int))
  have nb := noBrs_map_int cells
  have bs := brws_map_int ns
  have ln : ((cells.map T.int).length : Int) = cells.length := by simp
  generalize m = m' at *
  generalize cells.map T.int = CT at *
  generalize ns.map T.int = NT at *
  simp only [List.nil_append] at e2
  generalize ((List.range m'.toNat).map fun i : Nat => (i : Int)).map (fun _ => T.bl true) = AL at *
  simp -implicitDefEqProofs [d_law, dFn, b_law, bs, e1, nb, ln, fm, okm, e2, fin]
end Wk08

set_option Elab.async false
set_option linter.all false
set_option maxRecDepth 100000
set_option maxHeartbeats 0
namespace Wk08E
open PySem PySem.Spec PyProof.Rows L2 TL Wk08
def q_whole_number : He.DefD := ⟨("whole_number", none), "whole_number", "whole_number", defArgs (top 5), defBody (top 5), defScope (top 5), [], []⟩
def q_follows_size : He.DefD := ⟨("follows_size", none), "follows_size", "follows_size", defArgs (top 6), defBody (top 6), defScope (top 6), [], []⟩
def q_is_sizes : He.DefD := ⟨("is_sizes", none), "is_sizes", "is_sizes", defArgs (top 7), defBody (top 7), defScope (top 7), [], []⟩
def q_parcels_of : He.DefD := ⟨("parcels_of", none), "parcels_of", "parcels_of", defArgs (top 8), defBody (top 8), defScope (top 8), [], []⟩
def q_units_of : He.DefD := ⟨("units_of", none), "units_of", "units_of", defArgs (top 9), defBody (top 9), defScope (top 9), [], []⟩
def q_plain_number : He.DefD := ⟨("plain_number", none), "plain_number", "plain_number", defArgs (top 14), defBody (top 14), defScope (top 14), [], []⟩
def q_units_text : He.DefD := ⟨("units_text", none), "units_text", "units_text", defArgs (top 15), defBody (top 15), defScope (top 15), [], []⟩
def q_units_in : He.DefD := ⟨("units_in", none), "units_in", "units_in", defArgs (top 16), defBody (top 16), defScope (top 16), [], []⟩
def q_weight_text : He.DefD := ⟨("weight_text", none), "weight_text", "weight_text", defArgs (top 17), defBody (top 17), defScope (top 17), [], []⟩
def q_weight_in : He.DefD := ⟨("weight_in", none), "weight_in", "weight_in", defArgs (top 18), defBody (top 18), defScope (top 18), [], []⟩
def q__law_box : He.DefD := ⟨("_law_box", none), "_law_box", "_law_box", defArgs (top 20), defBody (top 20), defScope (top 20), [], []⟩
def q__law_take : He.DefD := ⟨("_law_take", none), "_law_take", "_law_take", defArgs (top 21), defBody (top 21), defScope (top 21), [], []⟩
def q__law_folded : He.DefD := ⟨("_law_folded", none), "_law_folded", "_law_folded", defArgs (top 22), defBody (top 22), defScope (top 22), [], []⟩
def q__law_wide : He.DefD := ⟨("_law_wide", none), "_law_wide", "_law_wide", defArgs (top 23), defBody (top 23), defScope (top 23), [], []⟩
def q__law_same : He.DefD := ⟨("_law_same", none), "_law_same", "_law_same", defArgs (top 24), defBody (top 24), defScope (top 24), [], []⟩
def q__law_copied : He.DefD := ⟨("_law_copied", none), "_law_copied", "_law_copied", defArgs (top 25), defBody (top 25), defScope (top 25), [], []⟩
def q__law_marked : He.DefD := ⟨("_law_marked", none), "_law_marked", "_law_marked", defArgs (top 26), defBody (top 26), defScope (top 26), [], []⟩
def q__law_sizes : He.DefD := ⟨("_law_sizes", none), "_law_sizes", "_law_sizes", defArgs (top 27), defBody (top 27), defScope (top 27), [], []⟩
def q__law_sacks_right : He.DefD := ⟨("_law_sacks_right", none), "_law_sacks_right", "_law_sacks_right", defArgs (top 28), defBody (top 28), defScope (top 28), [], []⟩
def q__law_grown_right : He.DefD := ⟨("_law_grown_right", none), "_law_grown_right", "_law_grown_right", defArgs (top 29), defBody (top 29), defScope (top 29), [], []⟩
def q__law_right : He.DefD := ⟨("_law_right", none), "_law_right", "_law_right", defArgs (top 30), defBody (top 30), defScope (top 30), [], []⟩
def q_law : He.DefD := ⟨("law", none), "law", "law", defArgs (top 31), defBody (top 31), defScope (top 31), [], []⟩
def fn0 : List He.DefD := [q_whole_number, q_follows_size, q_is_sizes, q_parcels_of, q_units_of, q_plain_number, q_units_text, q_units_in, q_weight_text, q_weight_in, q__law_box, q__law_take, q__law_folded, q__law_wide, q__law_same, q__law_copied, q__law_marked, q__law_sizes, q__law_sacks_right, q__law_grown_right, q__law_right, q_law]
def fn : List He.DefD := fn0
def fa0 : List He.Fa := [.glo "whole_number", .glo "follows_size", .glo "is_sizes", .glo "parcels_of", .glo "units_of", .glo "plain_number", .glo "units_text", .glo "units_in", .glo "weight_text", .glo "weight_in", .glo "_law_box", .glo "_law_take", .glo "_law_folded", .glo "_law_wide", .glo "_law_same", .glo "_law_copied", .glo "_law_marked", .glo "_law_sizes", .glo "_law_sacks_right", .glo "_law_grown_right", .glo "_law_right", .glo "law", .free "abs", .free "all", .free "bool", .free "enumerate", .free "int", .free "isinstance", .free "len", .free "list"]
def fa1 : List He.Fa := [.free "max", .free "range", .free "reversed", .free "str", .free "sum", .free "tuple", .free "zip"]
def fa : List He.Fa := fa0 ++ fa1
def cs0 : List (Str × T) := [("MOST_SIZES", k_MOST_SIZES), ("MOST_FIRST", k_MOST_FIRST), ("LEAST_TIMES", k_LEAST_TIMES), ("MOST_TIMES", k_MOST_TIMES), ("FIGURES", k_FIGURES), ("MOST_FIGURES", k_MOST_FIGURES), ("WEIGHT_UNITS", k_WEIGHT_UNITS)]
def cs : List (Str × T) := cs0
def loose0 : List PySem.Str := ["MOST_SIZES", "MOST_FIRST", "LEAST_TIMES", "MOST_TIMES", "whole_number", "follows_size", "is_sizes", "parcels_of", "units_of", "FIGURES", "MOST_FIGURES", "WEIGHT_UNITS", "plain_number", "units_text", "units_in", "weight_text", "weight_in", "_law_box", "_law_take", "_law_folded", "_law_wide", "_law_same", "_law_copied", "_law_marked", "_law_sizes", "_law_sacks_right", "_law_grown_right", "_law_right"]
def loose : List PySem.Str := loose0
abbrev R : PySem.W.OpenRow := PySem.W.OpenLaw.row PySem.Challenge.rw_campcarry_k08_whole_measures_and_sizes
abbrev hk : PySem.W.Hook := hookC 4 fa fn cs
def ob (s : PySem.W.SharedT) : Bool × He.AlD := obsC 4 fa fn cs (HandSHeadRun.getT s)
theorem ob_eq (s : PySem.W.SharedT) : ob s = hk.obs s.abs := obsC_eq (HandSHeadRun.getT_eq s)
theorem run0 (w : World) : HandSHeadRun.RunEq R (PySem.W.view R.prog [31]) hk ob 30000 loose (w.withFollow "special-get-raises" false) := by
  intro os
  kernel_rfl
theorem run1 (w : World) : HandSHeadRun.RunEq R (PySem.W.view R.prog [31]) hk ob 30000 loose (w.withFollow "special-get-raises" true) := by
  intro os
  kernel_rfl
theorem run (w : World) : HandSHeadRun.RunEq R (PySem.W.view R.prog [31]) hk ob 30000 loose w := PySem.W.byRow2 "special-get-raises" (P := fun w => HandSHeadRun.RunEq R (PySem.W.view R.prog [31]) hk ob 30000 loose w) run0 run1 w
theorem facts {P : Program} {w : World} {K : PySem.W.Frag} {h : Heap} {mg : Str → Option Value} {f : Addr} {ca : Str → Addr} (X : K.In h) (G : h.Ns mainGlobals mg) (hfa : mg ("law" : Str) = some (.ref f)) (c : He.SaysD fa fn K) (cc : ∀ c ∈ cs, gcB K c.1 c.2 = true) :
    ∃ fd : FuncData, (∀ (s : Shared) (v : Value), BindsTo s fd ⟨[v], []⟩ [("_law_script", v)]) ∧ ∀ base : Heap, FnOk P w K mg base CX0 8 f fd ["_law_script"] (spT K ca 1 d_law) := by
  have tx : Txt K mg := { b_abs := He.free_ok X G (c.fact 22 (f := .free "abs") rfl), b_all := He.free_ok X G (c.fact 23 (f := .free "all") rfl), b_bool := He.free_ok X G (c.fact 24 (f := .free "bool") rfl), b_enumerate := He.free_ok X G (c.fact 25 (f := .free "enumerate") rfl), b_int := He.free_ok X G (c.fact 26 (f := .free "int") rfl), b_isinstance := He.free_ok X G (c.fact 27 (f := .free "isinstance") rfl), b_len := He.free_ok X G (c.fact 28 (f := .free "len") rfl), b_list := He.free_ok X G (c.fact 29 (f := .free "list") rfl), b_max := He.free_ok X G (c.fact 30 (f := .free "max") rfl), b_range := He.free_ok X G (c.fact 31 (f := .free "range") rfl), b_reversed := He.free_ok X G (c.fact 32 (f := .free "reversed") rfl), b_str := He.free_ok X G (c.fact 33 (f := .free "str") rfl), b_sum := He.free_ok X G (c.fact 34 (f := .free "sum") rfl), b_tuple := He.free_ok X G (c.fact 35 (f := .free "tuple") rfl), b_zip := He.free_ok X G (c.fact 36 (f := .free "zip") rfl), c_MOST_SIZES := gcB_ok X G (cc (cs[0]) (List.getElem_mem (by decide))), c_MOST_FIRST := gcB_ok X G (cc (cs[1]) (List.getElem_mem (by decide))), c_LEAST_TIMES := gcB_ok X G (cc (cs[2]) (List.getElem_mem (by decide))), c_MOST_TIMES := gcB_ok X G (cc (cs[3]) (List.getElem_mem (by decide))), c_FIGURES := gcB_ok X G (cc (cs[4]) (List.getElem_mem (by decide))), c_MOST_FIGURES := gcB_ok X G (cc (cs[5]) (List.getElem_mem (by decide))), c_WEIGHT_UNITS := gcB_ok X G (cc (cs[6]) (List.getElem_mem (by decide))) }
  obtain ⟨fd_whole_number, F0_whole_number⟩ := c.def_ 0 (d := q_whole_number) rfl
  have F_whole_number : FnP K "whole_number" (top 5) (He.fAd K ("whole_number", none)) fd_whole_number := F0_whole_number
  have g_whole_number : mg "whole_number" = some (.ref (He.fAd K ("whole_number", none))) := He.glo_ok X G (c.fact 0 (f := .glo "whole_number") rfl)
  obtain ⟨fd_follows_size, F0_follows_size⟩ := c.def_ 1 (d := q_follows_size) rfl
  have F_follows_size : FnP K "follows_size" (top 6) (He.fAd K ("follows_size", none)) fd_follows_size := F0_follows_size
  have g_follows_size : mg "follows_size" = some (.ref (He.fAd K ("follows_size", none))) := He.glo_ok X G (c.fact 1 (f := .glo "follows_size") rfl)
  obtain ⟨fd_is_sizes, F0_is_sizes⟩ := c.def_ 2 (d := q_is_sizes) rfl
  have F_is_sizes : FnP K "is_sizes" (top 7) (He.fAd K ("is_sizes", none)) fd_is_sizes := F0_is_sizes
  have g_is_sizes : mg "is_sizes" = some (.ref (He.fAd K ("is_sizes", none))) := He.glo_ok X G (c.fact 2 (f := .glo "is_sizes") rfl)
  obtain ⟨fd_parcels_of, F0_parcels_of⟩ := c.def_ 3 (d := q_parcels_of) rfl
  have F_parcels_of : FnP K "parcels_of" (top 8) (He.fAd K ("parcels_of", none)) fd_parcels_of := F0_parcels_of
  have g_parcels_of : mg "parcels_of" = some (.ref (He.fAd K ("parcels_of", none))) := He.glo_ok X G (c.fact 3 (f := .glo "parcels_of") rfl)
  obtain ⟨fd_units_of, F0_units_of⟩ := c.def_ 4 (d := q_units_of) rfl
  have F_units_of : FnP K "units_of" (top 9) (He.fAd K ("units_of", none)) fd_units_of := F0_units_of
  have g_units_of : mg "units_of" = some (.ref (He.fAd K ("units_of", none))) := He.glo_ok X G (c.fact 4 (f := .glo "units_of") rfl)
  obtain ⟨fd_plain_number, F0_plain_number⟩ := c.def_ 5 (d := q_plain_number) rfl
  have F_plain_number : FnP K "plain_number" (top 14) (He.fAd K ("plain_number", none)) fd_plain_number := F0_plain_number
  have g_plain_number : mg "plain_number" = some (.ref (He.fAd K ("plain_number", none))) := He.glo_ok X G (c.fact 5 (f := .glo "plain_number") rfl)
  obtain ⟨fd_units_text, F0_units_text⟩ := c.def_ 6 (d := q_units_text) rfl
  have F_units_text : FnP K "units_text" (top 15) (He.fAd K ("units_text", none)) fd_units_text := F0_units_text
  have g_units_text : mg "units_text" = some (.ref (He.fAd K ("units_text", none))) := He.glo_ok X G (c.fact 6 (f := .glo "units_text") rfl)
  obtain ⟨fd_units_in, F0_units_in⟩ := c.def_ 7 (d := q_units_in) rfl
  have F_units_in : FnP K "units_in" (top 16) (He.fAd K ("units_in", none)) fd_units_in := F0_units_in
  have g_units_in : mg "units_in" = some (.ref (He.fAd K ("units_in", none))) := He.glo_ok X G (c.fact 7 (f := .glo "units_in") rfl)
  obtain ⟨fd_weight_text, F0_weight_text⟩ := c.def_ 8 (d := q_weight_text) rfl
  have F_weight_text : FnP K "weight_text" (top 17) (He.fAd K ("weight_text", none)) fd_weight_text := F0_weight_text
  have g_weight_text : mg "weight_text" = some (.ref (He.fAd K ("weight_text", none))) := He.glo_ok X G (c.fact 8 (f := .glo "weight_text") rfl)
  obtain ⟨fd_weight_in, F0_weight_in⟩ := c.def_ 9 (d := q_weight_in) rfl
  have F_weight_in : FnP K "weight_in" (top 18) (He.fAd K ("weight_in", none)) fd_weight_in := F0_weight_in
  have g_weight_in : mg "weight_in" = some (.ref (He.fAd K ("weight_in", none))) := He.glo_ok X G (c.fact 9 (f := .glo "weight_in") rfl)
  obtain ⟨fd__law_box, F0__law_box⟩ := c.def_ 10 (d := q__law_box) rfl
  have F__law_box : FnP K "_law_box" (top 20) (He.fAd K ("_law_box", none)) fd__law_box := F0__law_box
  have g__law_box : mg "_law_box" = some (.ref (He.fAd K ("_law_box", none))) := He.glo_ok X G (c.fact 10 (f := .glo "_law_box") rfl)
  obtain ⟨fd__law_take, F0__law_take⟩ := c.def_ 11 (d := q__law_take) rfl
  have F__law_take : FnP K "_law_take" (top 21) (He.fAd K ("_law_take", none)) fd__law_take := F0__law_take
  have g__law_take : mg "_law_take" = some (.ref (He.fAd K ("_law_take", none))) := He.glo_ok X G (c.fact 11 (f := .glo "_law_take") rfl)
  obtain ⟨fd__law_folded, F0__law_folded⟩ := c.def_ 12 (d := q__law_folded) rfl
  have F__law_folded : FnP K "_law_folded" (top 22) (He.fAd K ("_law_folded", none)) fd__law_folded := F0__law_folded
  have g__law_folded : mg "_law_folded" = some (.ref (He.fAd K ("_law_folded", none))) := He.glo_ok X G (c.fact 12 (f := .glo "_law_folded") rfl)
  obtain ⟨fd__law_wide, F0__law_wide⟩ := c.def_ 13 (d := q__law_wide) rfl
  have F__law_wide : FnP K "_law_wide" (top 23) (He.fAd K ("_law_wide", none)) fd__law_wide := F0__law_wide
  have g__law_wide : mg "_law_wide" = some (.ref (He.fAd K ("_law_wide", none))) := He.glo_ok X G (c.fact 13 (f := .glo "_law_wide") rfl)
  obtain ⟨fd__law_same, F0__law_same⟩ := c.def_ 14 (d := q__law_same) rfl
  have F__law_same : FnP K "_law_same" (top 24) (He.fAd K ("_law_same", none)) fd__law_same := F0__law_same
  have g__law_same : mg "_law_same" = some (.ref (He.fAd K ("_law_same", none))) := He.glo_ok X G (c.fact 14 (f := .glo "_law_same") rfl)
  obtain ⟨fd__law_copied, F0__law_copied⟩ := c.def_ 15 (d := q__law_copied) rfl
  have F__law_copied : FnP K "_law_copied" (top 25) (He.fAd K ("_law_copied", none)) fd__law_copied := F0__law_copied
  have g__law_copied : mg "_law_copied" = some (.ref (He.fAd K ("_law_copied", none))) := He.glo_ok X G (c.fact 15 (f := .glo "_law_copied") rfl)
  obtain ⟨fd__law_marked, F0__law_marked⟩ := c.def_ 16 (d := q__law_marked) rfl
  have F__law_marked : FnP K "_law_marked" (top 26) (He.fAd K ("_law_marked", none)) fd__law_marked := F0__law_marked
  have g__law_marked : mg "_law_marked" = some (.ref (He.fAd K ("_law_marked", none))) := He.glo_ok X G (c.fact 16 (f := .glo "_law_marked") rfl)
  obtain ⟨fd__law_sizes, F0__law_sizes⟩ := c.def_ 17 (d := q__law_sizes) rfl
  have F__law_sizes : FnP K "_law_sizes" (top 27) (He.fAd K ("_law_sizes", none)) fd__law_sizes := F0__law_sizes
  have g__law_sizes : mg "_law_sizes" = some (.ref (He.fAd K ("_law_sizes", none))) := He.glo_ok X G (c.fact 17 (f := .glo "_law_sizes") rfl)
  obtain ⟨fd__law_sacks_right, F0__law_sacks_right⟩ := c.def_ 18 (d := q__law_sacks_right) rfl
  have F__law_sacks_right : FnP K "_law_sacks_right" (top 28) (He.fAd K ("_law_sacks_right", none)) fd__law_sacks_right := F0__law_sacks_right
  have g__law_sacks_right : mg "_law_sacks_right" = some (.ref (He.fAd K ("_law_sacks_right", none))) := He.glo_ok X G (c.fact 18 (f := .glo "_law_sacks_right") rfl)
  obtain ⟨fd__law_grown_right, F0__law_grown_right⟩ := c.def_ 19 (d := q__law_grown_right) rfl
  have F__law_grown_right : FnP K "_law_grown_right" (top 29) (He.fAd K ("_law_grown_right", none)) fd__law_grown_right := F0__law_grown_right
  have g__law_grown_right : mg "_law_grown_right" = some (.ref (He.fAd K ("_law_grown_right", none))) := He.glo_ok X G (c.fact 19 (f := .glo "_law_grown_right") rfl)
  obtain ⟨fd__law_right, F0__law_right⟩ := c.def_ 20 (d := q__law_right) rfl
  have F__law_right : FnP K "_law_right" (top 30) (He.fAd K ("_law_right", none)) fd__law_right := F0__law_right
  have g__law_right : mg "_law_right" = some (.ref (He.fAd K ("_law_right", none))) := He.glo_ok X G (c.fact 20 (f := .glo "_law_right") rfl)
  obtain ⟨fd_law, F0_law⟩ := c.def_ 21 (d := q_law) rfl
  have F_law : FnP K "law" (top 31) (He.fAd K ("law", none)) fd_law := F0_law
  have e := hfa.symm.trans (He.glo_ok X G (c.fact 21 (f := .glo "law") rfl))
  cases e
  have b_whole_number : Binds K fd_whole_number ["thing"] [] := FunD.bindsN F_whole_number fun _ _ _ _ _ _ us hl => match us, hl with | [_], _ => rfl
  have b_follows_size : Binds K fd_follows_size ["size", "other"] [] := FunD.bindsN F_follows_size fun _ _ _ _ _ _ us hl => match us, hl with | [_, _], _ => rfl
  have b_is_sizes : Binds K fd_is_sizes ["thing"] [] := FunD.bindsN F_is_sizes fun _ _ _ _ _ _ us hl => match us, hl with | [_], _ => rfl
  have b_parcels_of : Binds K fd_parcels_of ["sizes", "amount"] [] := FunD.bindsN F_parcels_of fun _ _ _ _ _ _ us hl => match us, hl with | [_, _], _ => rfl
  have b_units_of : Binds K fd_units_of ["weights", "size"] [] := FunD.bindsN F_units_of fun _ _ _ _ _ _ us hl => match us, hl with | [_, _], _ => rfl
  have b_plain_number : Binds K fd_plain_number ["text"] [] := FunD.bindsN F_plain_number fun _ _ _ _ _ _ us hl => match us, hl with | [_], _ => rfl
  have b_units_text : Binds K fd_units_text ["number", "units"] [] := FunD.bindsN F_units_text fun _ _ _ _ _ _ us hl => match us, hl with | [_, _], _ => rfl
  have b_units_in : Binds K fd_units_in ["text", "units"] [] := FunD.bindsN F_units_in fun _ _ _ _ _ _ us hl => match us, hl with | [_, _], _ => rfl
  have b_weight_text : Binds K fd_weight_text ["pounds"] [] := FunD.bindsN F_weight_text fun _ _ _ _ _ _ us hl => match us, hl with | [_], _ => rfl
  have b_weight_in : Binds K fd_weight_in ["text"] [] := FunD.bindsN F_weight_in fun _ _ _ _ _ _ us hl => match us, hl with | [_], _ => rfl
  have b__law_box : Binds K fd__law_box ["_law_script", "_law_k"] [] := FunD.bindsN F__law_box fun _ _ _ _ _ _ us hl => match us, hl with | [_, _], _ => rfl
  have b__law_take : Binds K fd__law_take ["_law_box_here", "_law_many"] [] := FunD.bindsN F__law_take fun _ _ _ _ _ _ us hl => match us, hl with | [_, _], _ => rfl
  have b__law_folded : Binds K fd__law_folded ["_law_script", "_law_size"] [] := FunD.bindsN F__law_folded fun _ _ _ _ _ _ us hl => match us, hl with | [_, _], _ => rfl
  have b__law_wide : Binds K fd__law_wide ["_law_box_here", "_law_many"] [] := FunD.bindsN F__law_wide fun _ _ _ _ _ _ us hl => match us, hl with | [_, _], _ => rfl
  have b__law_same : Binds K fd__law_same ["_law_found", "_law_due"] [] := FunD.bindsN F__law_same fun _ _ _ _ _ _ us hl => match us, hl with | [_, _], _ => rfl
  have b__law_copied : Binds K fd__law_copied ["_law_thing"] [] := FunD.bindsN F__law_copied fun _ _ _ _ _ _ us hl => match us, hl with | [_], _ => rfl
  have b__law_marked : Binds K fd__law_marked ["_law_thing"] [] := FunD.bindsN F__law_marked fun _ _ _ _ _ _ us hl => match us, hl with | [_], _ => rfl
  have b__law_sizes : Binds K fd__law_sizes ["_law_box_here"] [] := FunD.bindsN F__law_sizes fun _ _ _ _ _ _ us hl => match us, hl with | [_], _ => rfl
  have b__law_sacks_right : Binds K fd__law_sacks_right ["_law_sizes_here", "_law_amount"] [] := FunD.bindsN F__law_sacks_right fun _ _ _ _ _ _ us hl => match us, hl with | [_, _], _ => rfl
  have b__law_grown_right : Binds K fd__law_grown_right ["_law_box_here", "_law_sizes_here"] [] := FunD.bindsN F__law_grown_right fun _ _ _ _ _ _ us hl => match us, hl with | [_, _], _ => rfl
  have b__law_right : Binds K fd__law_right ["_law_box_here"] [] := FunD.bindsN F__law_right fun _ _ _ _ _ _ us hl => match us, hl with | [_], _ => rfl
  refine ⟨fd_law, fun s v => FunD.bindsA (ps := ["_law_script"]) F_law (fun _ _ _ _ _ _ us hl => match us, hl with | [_], _ => rfl) s [v] rfl, fun base => ?_⟩
  have o_whole_number := ok_whole_number (P := P) (w := w) (base := base) (ca := ca) tx F_whole_number 
  have a_whole_number : TL.Callee P w K mg base ca "whole_number" ["thing"] 1 d_whole_number := callee_of F_whole_number g_whole_number b_whole_number o_whole_number
  have o_follows_size := ok_follows_size (P := P) (w := w) (base := base) (ca := ca) tx F_follows_size 
  have a_follows_size : TL.Callee P w K mg base ca "follows_size" ["size", "other"] 1 d_follows_size := callee_of F_follows_size g_follows_size b_follows_size o_follows_size
  have o_is_sizes := ok_is_sizes (P := P) (w := w) (base := base) (ca := ca) tx F_is_sizes a_whole_number a_follows_size
  have a_is_sizes : TL.Callee P w K mg base ca "is_sizes" ["thing"] 2 d_is_sizes := callee_of F_is_sizes g_is_sizes b_is_sizes o_is_sizes
  have o_parcels_of := ok_parcels_of (P := P) (w := w) (base := base) (ca := ca) tx F_parcels_of 
  have a_parcels_of : TL.Callee P w K mg base ca "parcels_of" ["sizes", "amount"] 1 d_parcels_of := callee_of F_parcels_of g_parcels_of b_parcels_of o_parcels_of
  have o_units_of := ok_units_of (P := P) (w := w) (base := base) (ca := ca) tx F_units_of 
  have a_units_of : TL.Callee P w K mg base ca "units_of" ["weights", "size"] 1 d_units_of := callee_of F_units_of g_units_of b_units_of o_units_of
  have o_plain_number := ok_plain_number (P := P) (w := w) (base := base) (ca := ca) tx F_plain_number 
  have a_plain_number : TL.Callee P w K mg base ca "plain_number" ["text"] 1 d_plain_number := callee_of F_plain_number g_plain_number b_plain_number o_plain_number
  have o_units_text := ok_units_text (P := P) (w := w) (base := base) (ca := ca) tx F_units_text 
  have a_units_text : TL.Callee P w K mg base ca "units_text" ["number", "units"] 1 d_units_text := callee_of F_units_text g_units_text b_units_text o_units_text
  have o_units_in := ok_units_in (P := P) (w := w) (base := base) (ca := ca) tx F_units_in a_plain_number a_units_text
  have a_units_in : TL.Callee P w K mg base ca "units_in" ["text", "units"] 2 d_units_in := callee_of F_units_in g_units_in b_units_in o_units_in
  have o_weight_text := ok_weight_text (P := P) (w := w) (base := base) (ca := ca) tx F_weight_text a_units_text
  have a_weight_text : TL.Callee P w K mg base ca "weight_text" ["pounds"] 2 d_weight_text := callee_of F_weight_text g_weight_text b_weight_text o_weight_text
  have o_weight_in := ok_weight_in (P := P) (w := w) (base := base) (ca := ca) tx F_weight_in a_units_in
  have a_weight_in : TL.Callee P w K mg base ca "weight_in" ["text"] 3 d_weight_in := callee_of F_weight_in g_weight_in b_weight_in o_weight_in
  have o__law_box := ok__law_box (P := P) (w := w) (base := base) (ca := ca) tx F__law_box 
  have a__law_box : TL.Callee P w K mg base ca "_law_box" ["_law_script", "_law_k"] 1 d__law_box := callee_of F__law_box g__law_box b__law_box o__law_box
  have o__law_take := ok__law_take (P := P) (w := w) (base := base) (ca := ca) tx F__law_take 
  have a__law_take : TL.Callee P w K mg base ca "_law_take" ["_law_box_here", "_law_many"] 1 d__law_take := callee_of F__law_take g__law_take b__law_take o__law_take
  have o__law_folded := ok__law_folded (P := P) (w := w) (base := base) (ca := ca) tx F__law_folded 
  have a__law_folded : TL.Callee P w K mg base ca "_law_folded" ["_law_script", "_law_size"] 1 d__law_folded := callee_of F__law_folded g__law_folded b__law_folded o__law_folded
  have o__law_wide := ok__law_wide (P := P) (w := w) (base := base) (ca := ca) tx F__law_wide a__law_take
  have a__law_wide : TL.Callee P w K mg base ca "_law_wide" ["_law_box_here", "_law_many"] 2 d__law_wide := callee_of F__law_wide g__law_wide b__law_wide o__law_wide
  have o__law_same := ok__law_same (P := P) (w := w) (base := base) (ca := ca) tx F__law_same g__law_same b__law_same  4
  have a__law_same : TL.Callee P w K mg base ca "_law_same" ["_law_found", "_law_due"] 4 (d__law_same 4) := callee_of F__law_same g__law_same b__law_same o__law_same
  have o__law_copied := ok__law_copied (P := P) (w := w) (base := base) (ca := ca) tx F__law_copied g__law_copied b__law_copied  4
  have a__law_copied : TL.Callee P w K mg base ca "_law_copied" ["_law_thing"] 4 (d__law_copied 4) := callee_of F__law_copied g__law_copied b__law_copied o__law_copied
  have o__law_marked := ok__law_marked (P := P) (w := w) (base := base) (ca := ca) tx F__law_marked g__law_marked b__law_marked  2
  have a__law_marked : TL.Callee P w K mg base ca "_law_marked" ["_law_thing"] 2 (d__law_marked 2) := callee_of F__law_marked g__law_marked b__law_marked o__law_marked
  have o__law_sizes := ok__law_sizes (P := P) (w := w) (base := base) (ca := ca) tx F__law_sizes a__law_take
  have a__law_sizes : TL.Callee P w K mg base ca "_law_sizes" ["_law_box_here"] 2 d__law_sizes := callee_of F__law_sizes g__law_sizes b__law_sizes o__law_sizes
  have o__law_sacks_right := ok__law_sacks_right (P := P) (w := w) (base := base) (ca := ca) tx F__law_sacks_right a_parcels_of a_units_of a__law_same a_weight_in a_weight_text
  have a__law_sacks_right : TL.Callee P w K mg base ca "_law_sacks_right" ["_law_sizes_here", "_law_amount"] 5 d__law_sacks_right := callee_of F__law_sacks_right g__law_sacks_right b__law_sacks_right o__law_sacks_right
  have o__law_grown_right := ok__law_grown_right (P := P) (w := w) (base := base) (ca := ca) tx F__law_grown_right a__law_wide a_is_sizes a__law_sacks_right a_parcels_of a__law_same
  have a__law_grown_right : TL.Callee P w K mg base ca "_law_grown_right" ["_law_box_here", "_law_sizes_here"] 6 d__law_grown_right := callee_of F__law_grown_right g__law_grown_right b__law_grown_right o__law_grown_right
  have o__law_right := ok__law_right (P := P) (w := w) (base := base) (ca := ca) tx F__law_right a__law_sizes a__law_wide a_parcels_of a__law_copied a__law_same a__law_marked a__law_grown_right
  have a__law_right : TL.Callee P w K mg base ca "_law_right" ["_law_box_here"] 7 d__law_right := callee_of F__law_right g__law_right b__law_right o__law_right
  exact ok_law (P := P) (w := w) (base := base) (ca := ca) tx F_law a__law_folded a__law_right a__law_box
end Wk08E
open PySem PySem.W PySem.Calls PyProof.Rows
theorem PySem.Challenge.cw_campcarry_k08_whole_measures_and_sizes_holds : PySem.Challenge.rw_campcarry_k08_whole_measures_and_sizes.Holds := by
  w_on; o_law
  refine HandSHeadRun.head_any (r := OpenLaw.row PySem.Challenge.rw_campcarry_k08_whole_measures_and_sizes) (q := view (OpenLaw.row PySem.Challenge.rw_campcarry_k08_whole_measures_and_sizes).prog [31]) (H := Wk08E.hk) (ob := Wk08E.ob) (M := 30000) (loose := Wk08E.loose) (d := HandSHeadRun.topDef (OpenLaw.row PySem.Challenge.rw_campcarry_k08_whole_measures_and_sizes).prog 31) (kwd := []) Wk08E.ob_eq
    (by kernel_rfl) (fun s => by kernel_rfl) Wk08E.run (by kernel_rfl) (by kernel_rfl) (by kernel_rfl) (by rfl) (by first | assumption | decide +kernel) (by decide +kernel) ⟨rfl, rfl, rfl, rfl, rfl, by decide +kernel⟩ ?hw ?hc
  case hw => w_witness2
  case hc =>
    refine L2.walk_ofE (l := PySem.Challenge.rw_campcarry_k08_whole_measures_and_sizes) (n := 63) (k := 8) (x := "_law_script") (CX := L2.CX0) rfl (by decide) (by kernel_rfl) ⟨rfl, by decide, by decide⟩ ?F (fun _ _ _ _ z => z)
    intro w mg fa h Y G hmg0
    obtain ⟨K, KX, c, cc⟩ := Y
    have hmg : mg ("law" : PySem.Str) = some (.ref fa) := by
      have e : (HandSHeadRun.topDef (OpenLaw.row PySem.Challenge.rw_campcarry_k08_whole_measures_and_sizes).prog 31).name = ("law" : PySem.Str) := by kernel_rfl
      rw [← e]
      exact hmg0
    obtain ⟨fd, hb, hF⟩ := Wk08E.facts (P := (PySem.Challenge.rw_campcarry_k08_whole_measures_and_sizes).prog) (w := w) (ca := fun _ => 0) KX G hmg c cc
    refine ⟨K, fd, TL.spT K (fun _ => 0) 1 Wk08.d_law, KX, hb, fun H a ns hl _ hS => ?_, fun base _ _ => hF base⟩
    obtain ⟨O, e⟩ := Wk08.law_true ns hl
    exact TL.law_end hS e

